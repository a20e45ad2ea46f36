/- An own logic over the model, its walks and its plain laws, joined of parts Ti W33. Conditions: as each theorem states. -/
import Derived.Test.YtndfkbapoinmkaaLa5
set_option linter.all false
/- Plain: the fewest weeks that will do. Conditions: as each theorem states. -/
namespace Go.Wx
open Go Go.HL
theorem fewestP_step (n : Nat) (p : List Int → Bool) (k : Nat) : fewestP n p (k + 1) = (fewestP n p k).or ((chM n k 0).find? p) := by
  rw [fewestP_succ, combsM_eq]
  simp
theorem fewestP_mono {n : Nat} {p : List Int → Bool} {k : Nat} {x : List Int} (h : fewestP n p k = some x) : ∀ j, fewestP n p (k + j) = some x
  | 0 => h
  | j + 1 => by rw [← Nat.add_assoc, fewestP_step, fewestP_mono h j]; rfl
theorem fewestP_mem {n : Nat} {p : List Int → Bool} : ∀ {k : Nat} {x : List Int}, fewestP n p k = some x → ∃ m, m < k ∧ x ∈ chM n m 0 ∧ p x = true
  | 0, x, h => by simp [fewestP] at h
  | k + 1, x, h => by
    rw [fewestP_step] at h
    cases hf : fewestP n p k with
    | some y =>
      rw [hf] at h
      obtain ⟨m, a, b, c⟩ := fewestP_mem hf
      simp at h
      subst h
      exact ⟨m, by omega, b, c⟩
    | none =>
      rw [hf] at h
      simp at h
      exact ⟨k, by omega, List.mem_of_find?_eq_some h, List.find?_some h⟩
/-- A list that will do tells that one of at most as many numbers is found. -/
theorem fewestP_le {n : Nat} {p : List Int → Bool} {m : Nat} {x : List Int} (hx : x ∈ chM n m 0) (hp : p x = true) : ∀ {k : Nat}, m < k → ∃ y, fewestP n p k = some y ∧ y.length ≤ m
  | 0, h => absurd h (Nat.not_lt_zero m)
  | k + 1, h => by
    rw [fewestP_step]
    by_cases hk : m < k
    · obtain ⟨y, e, hl⟩ := fewestP_le hx hp hk
      exact ⟨y, by rw [e]; rfl, hl⟩
    · have hmk : m = k := by omega
      subst hmk
      cases hf : fewestP n p m with
      | some y =>
        obtain ⟨m', a, b, _⟩ := fewestP_mem hf
        exact ⟨y, rfl, by rw [chM_len n m' 0 y b]; omega⟩
      | none =>
        cases hg : (chM n m 0).find? p with
        | none => exact absurd hp (by have := List.find?_eq_none.1 hg x hx; simpa using this)
        | some y => exact ⟨y, rfl, by rw [chM_len n m 0 y (List.mem_of_find?_eq_some hg)]; exact Nat.le_refl _⟩
theorem full_mem (n : Nat) : ∀ (m a : Nat), a + m = n → ((List.range' a m).map fun i : Nat => (i : Int)) ∈ chM n m a
  | 0, a, _ => by simp [chM]
  | m + 1, a, h => by
    simp only [chM, List.mem_flatMap, List.mem_map]
    refine ⟨a, ?_, _, full_mem n m (a + 1) (by omega), by rw [List.range'_succ, List.map_cons]⟩
    rw [List.mem_range'_1]
    omega
theorem chM_asc (n : Nat) : ∀ (m a : Nat) (l : List Int), l ∈ chM n m a → (∀ z ∈ l, (a : Int) ≤ z ∧ z < n) ∧ l.Pairwise (· < ·)
  | 0, a, l, h => by simp [chM] at h; subst h; simp
  | m + 1, a, l, h => by
    simp only [chM, List.mem_flatMap, List.mem_map, List.mem_range'_1] at h
    obtain ⟨i, ⟨h1, h2⟩, l', h3, rfl⟩ := h
    obtain ⟨a1, a2⟩ := chM_asc n m (i + 1) l' h3
    refine ⟨fun z hz => ?_, List.pairwise_cons.2 ⟨fun z hz => ?_, a2⟩⟩
    · rcases List.mem_cons.1 hz with rfl | hz
      · omega
      · have := a1 z hz; omega
    · have := a1 z hz; omega
theorem lookAt_le {d : Int} : ∀ (l : List Int) (n i : Int), i ∈ l → d ≤ i → lookAt n d l ≤ i
  | [], n, i, h, _ => by cases h
  | x :: l, n, i, h, hd => by
    rw [show lookAt n d (x :: l) = lookAt (if d ≤ x then min n x else n) d l from rfl]
    rcases List.mem_cons.1 h with rfl | h
    · rw [if_pos hd]
      have := (lookAt_bd d l (min n i)).2
      omega
    · exact lookAt_le l _ i h hd
theorem unseenOf_le {n w : Int} {ins : List Int} (hw : 0 ≤ w) : ∀ (ds : List Int), (∀ d ∈ ds, lookAt n d ins - d ≤ w) → unseenOf n ds ins ≤ w := by
  have key : ∀ (ds : List Int), (∀ d ∈ ds, lookAt n d ins - d ≤ w) → ∀ a : Int, a ≤ w → ds.foldl (fun a d => max a (lookAt n d ins - d)) a ≤ w := by
    intro ds
    induction ds with
    | nil => intro _ a h; exact h
    | cons d l ih =>
      intro hd a h
      have h1 := hd d (List.mem_cons_self ..)
      exact ih (fun x hx => hd x (List.mem_cons_of_mem _ hx)) _ (by show max _ _ ≤ _; omega)
  exact fun ds h => key ds h 0 hw
/-- Whether some weeks will do. -/
def willDo (s : Season) (w : Int) (l : List Int) : Bool := decide (unseenOf s.heats.length (listM (failingM s)) l ≤ w)
theorem failing_bd {s : Season} (h1 : 1 ≤ s.heats.length) {d : Int} (h : d ∈ listM (failingM s)) : 0 ≤ d ∧ d < s.heats.length := by
  obtain ⟨i, rfl, _, hb⟩ := listN_mem h
  unfold failingM at hb
  rw [uptoM_bit] at hb
  simp at hb
  omega
theorem will_full {s : Season} (h1 : 1 ≤ s.heats.length) {w : Int} (hw : 0 ≤ w) : willDo s w ((List.range' 0 s.heats.length).map fun i : Nat => (i : Int)) = true := by
  unfold willDo
  rw [decide_eq_true_eq]
  refine unseenOf_le hw _ fun d hd => ?_
  have hb := failing_bd h1 hd
  have := lookAt_le ((List.range' 0 s.heats.length).map fun i : Nat => (i : Int)) s.heats.length d (List.mem_map.2 ⟨d.toNat, by rw [List.mem_range'_1]; omega, by omega⟩) (Int.le_refl d)
  omega
theorem will_some {s : Season} (h1 : 1 ≤ s.heats.length) {w : Int} (hw : 0 ≤ w) : ∃ x, fewestP s.heats.length (willDo s w) (s.heats.length + 1) = some x := by
  obtain ⟨y, e, _⟩ := fewestP_le (full_mem s.heats.length s.heats.length 0 (by omega)) (will_full h1 hw) (Nat.lt_succ_self _)
  exact ⟨y, e⟩
theorem will_longer {s : Season} {w : Int} {x : List Int} {k : Nat} (h : fewestP s.heats.length (willDo s w) k = some x) : ∃ y, fewestP s.heats.length (willDo s (w + 1)) k = some y ∧ y.length ≤ x.length := by
  obtain ⟨m, h1, h2, h3⟩ := fewestP_mem h
  obtain ⟨y, e, hl⟩ := fewestP_le (p := willDo s (w + 1)) h2 (by unfold willDo at h3 ⊢; rw [decide_eq_true_eq] at h3 ⊢; omega) h1
  exact ⟨y, e, by rw [chM_len _ m 0 x h2]; exact hl⟩
end Go.Wx
/- Walks: the law on weeks in which somebody looks. Conditions: as each theorem states. -/
namespace Go.Proofs.Ytndfkbapoinmkaa
open Go Go.HL Go.Proofs Go.Wx Go.RowKit
set_option maxRecDepth 100000
theorem looks_ch {n m : Nat} {l : List Int} (h : l ∈ chM n m 0) : looksM n l = 0 := by
  obtain ⟨h1, h2⟩ := chM_asc n m 0 l h
  unfold looksM
  refine firstErr_all fun i hi => ?_
  have hil : i < l.length := by simpa using hi
  have hgd : l.getD i 0 = l[i] := by rw [List.getD_eq_getElem?_getD, List.getElem?_eq_getElem hil]; rfl
  have hb := h1 _ (List.getElem_mem hil)
  unfold lookE
  rw [if_neg (by unfold inM; rw [hgd]; simp; omega), if_neg]
  rintro ⟨h0, hle⟩
  have hi1 : i - 1 < l.length := by omega
  have hgd1 : l.getD (i - 1) 0 = l[i - 1] := by rw [List.getD_eq_getElem?_getD, List.getElem?_eq_getElem hi1]; rfl
  rw [hgd, hgd1] at hle
  have := (List.pairwise_iff_getElem.1 h2) (i - 1) i hi1 hil (by omega)
  omega
theorem unseen_of {s : Season} (c : CheckS s) (m : mayM s = true) {l : List Int} {k : Nat} (h : l ∈ chM s.heats.length k 0) : unseenE s l = 0 ∧ unseenV s l = unseenOf s.heats.length (listM (failingM s)) l := by
  have e : unseenE s l = 0 := known_of c m (by intro x hx; rw [List.mem_singleton.1 hx]; exact looks_ch h)
  exact ⟨e, by unfold unseenV; rw [if_pos e]⟩
theorem inspect_of {s : Season} (c : CheckS s) (m : mayM s = true) {w : Int} (hw : 0 ≤ w ∧ w ≤ 6) : inspectE s w = 0 ∧ inspectL s w = (fewestP s.heats.length (willDo s w) (s.heats.length + 1)).getD [] := by
  have e : inspectE s w = 0 := known_of c m (by intro x hx; rw [List.mem_singleton.1 hx]; unfold waitM inM; rw [if_pos (by simp; omega)])
  exact ⟨e, by unfold inspectL; rw [if_pos e]; rfl⟩
set_option maxHeartbeats 4000000 in
theorem looked_calls (w : World) (l : List Int) (hl : l.length < 2 ^ 63) (A : Option Addr) (c : Nat) (R : Row (absH w.heap) 1 intC A l) : Calls Try.prog 8 #[.slice A l.length c] w (fun e w' => e = .returned (.bool true) ∧ Below w.heap.size w w') := by
  refine calls_body Try.func8 rfl Try.ntmps8 rfl Try.results8 rfl fun h hh => ?_
  rw [← hh] at R
  refine xp_seq ?_
  refine xp_region rfl ?_
  refine op_pure (pv_assign (v := .bool _) rfl) ?_
  refine xp_seq ?_
  refine xp_region rfl ?_
  refine op_pure (pv_move (v := .slice _ _ _) rfl) ?_
  refine op_fnMM [] [] [] rfl rfl rfl ((NewPot_ok l hl A c h R)) ?_
  rintro _ h1 _ E1 ⟨b, x, rfl, rfl⟩
  refine wp_norm [_] rfl ?_
  refine op_pure (pv_assign (v := .pointer _) rfl) ?_
  refine xp_seq ?_
  refine xp_region rfl ?_
  refine op_pure (pv_move (v := .pointer _) rfl) ?_
  refine op_fnMM [] [_] [] (vs := _) rfl rfl rfl ((SeasonOf_ok b x 5 3 2 (by omega) (by omega) (by omega) (by omega) h1)) ?_
  rintro _ h2 _ E2 ⟨x2, s, ht, dt, fs, _, _, rfl, rfl, ⟨A0, A1, A2, A3, c0, c1, c2, c3, rfl, RS⟩, T, HA, hc, DA, dc, FA, fc, rfl, R1, R2, R3⟩
  refine wp_norm [_] rfl ?_
  have C : CheckS s := SeasonT.checkS T (by omega) (by omega) (by omega)
  have Sm : Small s := small_of C
  have hmay : mayM s = true := may_T T (by omega)
  have h6 := C.w6
  have h1w := C.w1
  refine op_pure (pv_move (v := .tuple #[.agg #[.slice _ _ _, .slice _ _ _, .slice _ _ _, .slice _ _ _], .agg #[.slice _ _ _, .slice _ _ _, .slice _ _ _]]) rfl) ?_
  refine op_pure (pv_of (v := .agg #[.slice _ _ _, .slice _ _ _, .slice _ _ _, .slice _ _ _]) rfl) ?_
  refine op_pure (pv_of (v := .agg #[.slice _ _ _, .slice _ _ _, .slice _ _ _]) rfl) ?_
  refine op_alloc (cs := [_, _, _, _]) rfl rfl fun b4 hb4 => ?_
  refine wp_norm [_, _] rfl ?_
  refine op_alloc (cs := [_, _, _]) rfl rfl fun b5 hb5 => ?_
  refine wp_norm [_, _, _] rfl ?_
  refine op_storeP 1 (v := .agg #[.slice _ _ _, .slice _ _ _, .slice _ _ _, .slice _ _ _]) (vs := [_, _, _, _]) (c' := [_, _, _, _]) rfl rfl rfl rfl rfl rfl rfl rfl rfl ?_
  refine wp_norm [_, _, _] rfl ?_
  refine op_storeP 2 (v := .agg #[.slice _ _ _, .slice _ _ _, .slice _ _ _]) (vs := [_, _, _]) (c' := [_, _, _]) rfl rfl rfl rfl rfl rfl rfl rfl rfl ?_
  refine wp_norm [_, _, _] rfl ?_
  refine xp_seq ?_
  refine xp_region rfl ?_
  refine op_pure (pv_move (v := .pointer _) rfl) ?_
  refine op_fnMM [] [_] [_, _] (vs := [.pointer _, .int .i64 _]) rfl rfl rfl ((Upto_ok b x2 4 (by omega) h2)) ?_
  rintro _ h3 _ E3 ⟨x3, wt, rfl, rfl, w1, w2⟩
  refine wp_norm [_, _, _] rfl ?_
  obtain ⟨i1, i2⟩ := inspect_of C hmay (w := wt) (by omega)
  obtain ⟨j1, j2⟩ := inspect_of C hmay (w := wt + 1) (by omega)
  obtain ⟨lx, hlx⟩ := will_some (s := s) h1w (w := wt) w1
  obtain ⟨ly, hly, hlen⟩ := will_longer hlx
  rw [hlx] at i2
  rw [hly] at j2
  simp only [Option.getD_some] at i2 j2
  refine op_pure (pv_assign (v := .int .i64 _) rfl) ?_
  refine xp_seq ?_
  refine xp_region rfl ?_
  refine op_loadPA 1 (vs := [.slice _ _ _, .slice _ _ _, .slice _ _ _, .slice _ _ _]) rfl rfl rfl rfl rfl ?_
  refine op_pure (pv_move (v := .int .i64 _) rfl) ?_
  have HI := Inspect_ok s Sm wt A0 A1 A2 A3 c0 c1 c2 c3 h3 (RS.ext E3)
  rw [i1, i2] at HI
  refine op_fn (caps := []) (vs := [.agg #[.slice _ _ _, .slice _ _ _, .slice _ _ _, .slice _ _ _], .int .i64 _]) rfl rfl rfl (HI) ?_
  rintro _ h4 E4 ⟨_, rfl, X, xc, rfl, XR⟩
  refine op_pure (pv_move (v := .tuple #[.slice _ _ _, .int .i64 _]) rfl) ?_
  refine op_pure (pv_of (v := .slice _ _ _) rfl) ?_
  refine op_pure (pv_of (v := .int .i64 _) rfl) ?_
  refine op_pure (pv_assign (v := .slice _ _ _) rfl) ?_
  refine op_pure (pv_assign (v := .int .i64 _) rfl) ?_
  refine xp_seq ?_
  refine xp_region rfl ?_
  refine op_loadPA 1 (vs := [.slice _ _ _, .slice _ _ _, .slice _ _ _, .slice _ _ _]) rfl rfl rfl rfl rfl ?_
  refine op_pure (pv_move (v := .int .i64 _) rfl) ?_
  refine op_pure (pv_arith rfl (by omega)) ?_
  have HJ := Inspect_ok s Sm (wt + 1) A0 A1 A2 A3 c0 c1 c2 c3 h4 (RS.ext (Ext.trans E3 E4))
  rw [j1, j2] at HJ
  refine op_fn (caps := []) (vs := [.agg #[.slice _ _ _, .slice _ _ _, .slice _ _ _, .slice _ _ _], .int .i64 _]) rfl rfl rfl (HJ) ?_
  rintro _ h5 E5 ⟨_, rfl, Y, yc, rfl, YR⟩
  refine op_pure (pv_move (v := .tuple #[.slice _ _ _, .int .i64 _]) rfl) ?_
  refine op_pure (pv_of (v := .slice _ _ _) rfl) ?_
  refine op_pure (pv_of (v := .int .i64 _) rfl) ?_
  refine op_pure (pv_assign (v := .slice _ _ _) rfl) ?_
  refine op_pure (pv_assign (v := .int .i64 _) rfl) ?_
  refine xp_seq ?_
  refine xp_seq ?_
  refine xp_region rfl ?_
  refine op_pure (pv_move (v := .int .i64 _) rfl) ?_
  refine op_pure (pv_of (v := .bool _) rfl) ?_
  refine op_pure (pv_move (v := .bool _) rfl) ?_
  refine guard_yes rfl rfl ?_
  refine op_pure (pv_move (v := .int .i64 _) rfl) ?_
  refine guard_yes rfl rfl ?_
  refine op_pure (pv_of (v := .bool _) rfl) ?_
  refine op_pure (pv_pickF rfl rfl (v := .bool _) rfl) ?_
  refine op_pure (pv_move (v := .bool _) rfl) ?_
  refine guard_yes rfl rfl ?_
  refine op_pure (pv_move (v := .slice _ _ _) rfl) ?_
  refine guard_yes rfl rfl ?_
  refine op_pure (pv_len rfl rfl) ?_
  refine guard_yes rfl rfl ?_
  refine op_pure (pv_move (v := .slice _ _ _) rfl) ?_
  refine guard_yes rfl rfl ?_
  refine op_pure (pv_len rfl rfl) ?_
  refine guard_yes rfl rfl ?_
  refine op_pure (pv_of (v := .bool _) rfl) ?_
  refine op_pure (pv_pickF rfl rfl (v := .bool _) rfl) ?_
  refine xp_condF rfl ((by simp; omega)) ?_
  refine xp_skip ?_
  refine xp_seq ?_
  refine xp_seq ?_
  refine xp_region rfl ?_
  refine op_pure (pv_assign (v := .int .i64 _) rfl) ?_
  refine xp_block ?_
  refine xp_loopB [2, 11, 12, 13, 14, 15, 51, 52, 53, 54, 55, 56, 57, 58, 59, 60, 61, 62, 63, 64, 65, 66, 67, 68, 69, 70, 71, 72, 73, 74, 75, 76, 77, 78, 79, 80, 81, 82, 83, 84, 85, 86, 87, 88, 89, 90, 91] 3 (α := Nat) (fun n => [(11, .int .i64 n)]) (fun n => _) (fun n h_n => n ≤ s.heats.length + 1 ∧ fewestP s.heats.length (willDo s wt) n = none) (fun n => s.heats.length + 1 - n) (0) ⟨rfl, trivial⟩ (rfl) (⟨Nat.zero_le _, rfl⟩) ?_
  rintro n T1 h_n E_n J_n
  refine goes_norm [_, _, _] rfl ?_
  obtain ⟨K1, K2⟩ := J_n
  refine xp_seq ?_
  refine xp_seq ?_
  refine xp_region rfl ?_
  refine op_pure (pv_move (v := .int .i64 _) rfl) ?_
  refine op_pure (pv_fieldAddr rfl rfl rfl rfl 0 rfl) ?_
  refine op_loadP 1 (v := .slice _ _ _) rfl rfl rfl rfl ?_
  refine op_pure (pv_len rfl rfl) ?_
  refine op_pure (pv_of (v := .bool _) rfl) ?_
  refine xp_cond rfl (fun hn => ?_) (fun hn => ?_)
  · skip
    have hnh : n ≤ s.heats.length := by have := of_decide_eq_true hn; omega
    have hcl : (chM s.heats.length n 0).length ≤ 128 := chM_bd ⟨s.heats.length, by omega⟩ ⟨n, by omega⟩ ⟨0, by omega⟩
    refine xp_skip ?_
    refine xp_seq ?_
    refine xp_block ?_
    refine xp_seq ?_
    refine xp_region rfl ?_
    refine op_pure (pv_fieldAddr rfl rfl rfl rfl 0 rfl) ?_
    refine op_loadP 1 (v := .slice _ _ _) rfl rfl rfl rfl ?_
    refine op_pure (pv_len rfl rfl) ?_
    refine op_pure (pv_move (v := .int .i64 _) rfl) ?_
    refine op_fn (caps := []) (vs := [.int .i64 _, .int .i64 _, .int .i64 _]) rfl rfl rfl (Choices_ok s.heats.length (by omega) n (by omega) 0 (by omega) h_n) ?_
    rintro _ h6' E6 ⟨CA, cc, cvs, rfl, CR, CL⟩
    refine op_pure (pv_assign (v := .slice _ _ _) rfl) ?_
    refine xp_seq ?_
    refine xp_region rfl ?_
    refine op_pure (pv_assign (v := .int .i64 _) rfl) ?_
    refine xp_block ?_
    refine xp_loopB [2, 13, 14, 15, 63, 64, 65, 66, 67, 68, 69, 70, 71, 72, 73, 74, 75, 76, 77, 78, 79, 80, 81, 82, 83, 84, 85, 86, 87, 88, 89, 90, 91] 3 (α := Nat) (fun i => [(13, .int .i64 i)]) (fun i => _) (fun i h_i => i ≤ (chM s.heats.length n 0).length ∧ ((chM s.heats.length n 0).take i).find? (willDo s wt) = none) (fun i => (chM s.heats.length n 0).length - i) (0) ⟨rfl, trivial⟩ (rfl) (⟨Nat.zero_le _, rfl⟩) ?_
    rintro i T2 h_i E_i J_i
    refine goes_norm [_, _, _] rfl ?_
    obtain ⟨Q1, Q2⟩ := J_i
    refine xp_seq ?_
    refine xp_seq ?_
    refine xp_region rfl ?_
    refine op_pure (pv_move (v := .int .i64 _) rfl) ?_
    refine op_pure (pv_move (v := .slice _ _ _) rfl) ?_
    refine op_pure (pv_len rfl rfl) ?_
    refine op_pure (pv_of (v := .bool _) rfl) ?_
    refine xp_cond rfl (fun hi => ?_) (fun hi => ?_)
    · skip
      have hil : i < (chM s.heats.length n 0).length := ltI hi
      have hiv : i < cvs.length := by rw [CL.1]; exact hil
      obtain ⟨li, hli⟩ : ∃ li, (chM s.heats.length n 0)[i] = li := ⟨_, rfl⟩
      have hmem : li ∈ chM s.heats.length n 0 := by rw [← hli]; exact List.getElem_mem hil
      have hlil := chM_len _ n 0 li hmem
      obtain ⟨gC, oC, hCA, hcC⟩ := (CR.ext E_i).at (by omega) hiv
      obtain ⟨A', c', hv, R'⟩ := CL.2 i _ _ (List.getElem?_eq_getElem hil) (List.getElem?_eq_getElem hiv)
      rw [hli] at hv R'
      have hcC0 : cellA h_i ⟨gC, oC + i * 1 + 0, none⟩ = some (.slice A' li.length c') := hcC 0 _ (by rw [hv]; rfl)
      obtain ⟨u1, u2⟩ := unseen_of C hmay hmem
      obtain ⟨u, hu⟩ : ∃ u, unseenOf s.heats.length (listM (failingM s)) li = u := ⟨_, rfl⟩
      rw [hu] at u2
      refine xp_skip ?_
      refine xp_seq ?_
      refine xp_block ?_
      refine xp_seq ?_
      refine xp_dw [] rfl rfl rfl ?_
      refine dw_load (i := 0) rfl (by decide +kernel) ?_
      refine op_loadPA 1 (vs := [.slice _ _ _, .slice _ _ _, .slice _ _ _, .slice _ _ _]) rfl rfl rfl rfl rfl ?_
      refine dw_pure (i := 1) rfl (by decide +kernel) (pv_move (v := .slice _ _ _) rfl) ?_
      refine dw_pure (i := 2) rfl (by decide +kernel) (pv_move (v := .int .i64 _) rfl) ?_
      refine dw_pure (i := 3) rfl (by decide +kernel) (pv_indexE rfl hCA rfl rfl rfl (by omega) (by omega)) ?_
      refine dw_load (i := 4) rfl (by decide +kernel) ?_
      refine op_load (v := .slice _ _ _) rfl rfl hcC0 ?_
      have HU := Unseen_ok s Sm li (by omega) A' c' A0 A1 A2 A3 c0 c1 c2 c3 h_i (RS.ext (Ext.trans (Ext.trans (Ext.trans (Ext.trans (Ext.trans E3 E4) E5) E_n) E6) E_i)) (R'.ext E_i)
      rw [u1, u2] at HU
      refine dw_last (i := 5) rfl (by decide +kernel) (by decide +kernel) ?_
      refine op_fn (caps := []) (vs := [.agg #[.slice _ _ _, .slice _ _ _, .slice _ _ _, .slice _ _ _], .slice _ _ _]) rfl rfl rfl (HU) ?_
      rintro _ h7 E7 rfl
      refine dw_pure (i := 6) rfl (by decide +kernel) (pv_move (v := .tuple #[.int .i64 _, .int .i64 _]) rfl) ?_
      refine dw_pure (i := 7) rfl (by decide +kernel) (pv_of (v := .int .i64 _) rfl) ?_
      refine dw_pure (i := 8) rfl (by decide +kernel) (pv_of (v := .int .i64 _) rfl) ?_
      refine dw_pure (i := 9) rfl (by decide +kernel) (pv_assign (v := .int .i64 _) rfl) ?_
      refine dw_pure (i := 10) rfl (by decide +kernel) (pv_assign (v := .int .i64 _) rfl) ?_
      refine dw_end rfl ?_
      refine xp_seq ?_
      refine xp_seq ?_
      refine xp_region rfl ?_
      refine op_pure (pv_move (v := .int .i64 _) rfl) ?_
      refine op_pure (pv_of (v := .bool _) rfl) ?_
      refine xp_condF rfl (rfl) ?_
      refine xp_skip ?_
      refine xp_seq ?_
      refine xp_region rfl ?_
      refine op_pure (pv_move (v := .int .i64 _) rfl) ?_
      refine op_pure (pv_move (v := .int .i64 _) rfl) ?_
      refine op_pure (pv_of (v := .bool _) rfl) ?_
      refine xp_cond rfl (fun hle => ?_) (fun hle => ?_)
      · skip
        have hle' : u ≤ wt := of_decide_eq_true hle
        have hwd : willDo s wt li = true := by unfold willDo; rw [hu]; exact decide_eq_true hle'
        have hfind : (chM s.heats.length n 0).find? (willDo s wt) = some li := by
          have e : chM s.heats.length n 0 = (chM s.heats.length n 0).take i ++ li :: (chM s.heats.length n 0).drop (i + 1) := by rw [← hli, ← List.drop_eq_getElem_cons hil, List.take_append_drop]
          rw [e, List.find?_append, Q2, List.find?_cons, hwd]
          rfl
        have hfw : fewestP s.heats.length (willDo s wt) (n + 1) = some li := by rw [fewestP_step, K2, hfind]; rfl
        have heq : lx = li := by
          have := fewestP_mono hfw (s.heats.length - n)
          rw [show n + 1 + (s.heats.length - n) = s.heats.length + 1 from by omega, hlx] at this
          simpa using this
        subst heq
        refine xp_seq ?_
        refine xp_region rfl ?_
        refine op_pure (pv_move (v := .slice _ _ _) rfl) ?_
        refine op_pure (pv_move (v := .slice _ _ _) rfl) ?_
        refine op_pure (pv_move (v := .int .i64 _) rfl) ?_
        refine op_pure (pv_indexE rfl hCA rfl rfl rfl (by omega) (by omega)) ?_
        refine op_load (v := .slice _ _ _) rfl rfl ((E7.cell hcC0)) ?_
        have HS := sameInts_ok lx lx X A' xc c' h7 (XR.ext (Ext.trans (Ext.trans (Ext.trans (Ext.trans E5 E_n) E6) E_i) E7)) (R'.ext (Ext.trans E_i E7)) (by omega)
        rw [decide_eq_true (rfl : lx = lx)] at HS
        refine op_fn (caps := []) (vs := [.slice _ _ _, .slice _ _ _]) rfl rfl rfl (HS) ?_
        rintro _ h8 E8 rfl
        refine op_pure (pv_move (v := .bool _) rfl) ?_
        refine guard_yes rfl rfl ?_
        refine op_fn (caps := []) (vs := []) rfl rfl rfl (warm_ok h8) ?_
        rintro _ h9 E9 rfl
        refine op_pure (pv_pickT rfl rfl (v := .bool _) rfl) ?_
        refine op_pure (pv_assign (v := .bool _) rfl) ?_
        refine xp_ret ?_
        exact ⟨rfl, fun V => (Ext.trans (Ext.trans (Ext.trans (Ext.trans (Ext.trans (Ext.trans (Ext.trans (Ext.trans (Ext.trans (Ext.trans (Ext.trans E1 E2) E3) E4) E5) E_n) E6) E_i) E7) E8) E9) (ext_wl V)), rfl⟩
      · skip
        have hle' : ¬ u ≤ wt := of_decide_eq_false hle
        have hwd : willDo s wt li = false := by unfold willDo; rw [hu]; exact decide_eq_false hle'
        refine xp_skip ?_
        refine xp_region rfl ?_
        refine op_pure (pv_move (v := .int .i64 _) rfl) ?_
        refine op_pure (pv_arith rfl (by omega)) ?_
        refine op_pure (pv_assign (v := .int .i64 _) rfl) ?_
        refine ⟨i + 1, ⟨rfl, trivial⟩, rfl, rfl, (Ext.trans E_i E7), fun h3 E3 => ⟨hil, by rw [take_snoc hil, hli, List.find?_append, Q2, List.find?_cons, hwd]; rfl⟩, by first | omega | (dsimp only; omega), ?_⟩
        repeat (first | exact off_base _ _ _ | refine off_upd (by decide) ?_ | refine off_updL rfl ?_ | refine off_mix rfl ?_)
    · skip
      have hie : i = (chM s.heats.length n 0).length := by have := geI hi; omega
      subst hie
      rw [List.take_length] at Q2
      refine xp_exit ?_
      refine xp_region rfl ?_
      refine op_pure (pv_move (v := .int .i64 _) rfl) ?_
      refine op_pure (pv_arith rfl (by omega)) ?_
      refine op_pure (pv_assign (v := .int .i64 _) rfl) ?_
      refine ⟨n + 1, ⟨rfl, trivial⟩, rfl, rfl, (Ext.trans (Ext.trans E_n E6) E_i), fun h3 E3 => ⟨by omega, by rw [fewestP_step, K2, Q2]; rfl⟩, by first | omega | (dsimp only; omega), ?_⟩
      repeat (first | exact off_base _ _ _ | refine off_upd (by decide) ?_ | refine off_updL rfl ?_ | refine off_mix rfl ?_)
  · skip
    have hne : n = s.heats.length + 1 := by have := of_decide_eq_false hn; omega
    subst hne
    rw [hlx] at K2
    cases K2
end Go.Proofs.Ytndfkbapoinmkaa
