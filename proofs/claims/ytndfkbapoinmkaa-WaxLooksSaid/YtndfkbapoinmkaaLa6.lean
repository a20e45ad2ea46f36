/- An own logic over the model, its walks and its plain laws, joined of parts W57 W58 W42 W43 W59 W60 W61 Tu W62 W63 W64 W65 W44 W45 W66 Ub W67 W68 W69 W70 W71 W72 W73. Conditions: as each theorem states. -/
import Derived.Test.YtndfkbapoinmkaaLa5
import Derived.Test.YtndfkbapoinmkaaLa4
import Derived.Test.YtndfkbapoinmkaaRows
import Derived.Deep.Slices
import Derived.ProofKit
set_option linter.all false
/- Walks: what the reference says of a failure by a week, and of causes; all lists. Conditions: as each theorem states. -/
namespace Go.Proofs.Ytndfkbapoinmkaa
open Go Go.HL Go.Proofs Go.Wx
set_option maxRecDepth 100000
theorem fls_len {s : Season} (SV : SeasonV s) (i : Nat) : (flsM s (kindAt s i) i).length ≤ 393660 := by
  rw [rSk_fls (by rw [(SV.b.wb _).1]; exact SV.b.w6)]
  have := allK_len SV (kindAt s i) i (rSk s (kindAt s i)).length
  unfold allK at this
  rwa [List.take_length] at this
set_option maxHeartbeats 1000000 in
theorem rLists_ok (n : Nat) (hn : n ≤ 7) : ∀ (m : Nat), m ≤ 7 → ∀ (a : Nat), a ≤ 8 → ∀ (h : AH), FnT Try.prog 106 #[.int .i64 a, .int .i64 n, .int .i64 m] h (fun v h' => LLR h' (chM n m a) v) := by
  intro m
  induction m with
  | zero =>
    intro _ a _ h
    refine call_body Try.func106 rfl Try.ntmps106 rfl ?_
    refine xp_seq ?_
    refine xp_region rfl ?_
    refine op_pure (pv_assign (v := .slice _ _ _) rfl) ?_
    refine xp_seq ?_
    refine xp_seq ?_
    refine xp_region rfl ?_
    refine op_pure (pv_move (v := .int .i64 _) rfl) ?_
    refine op_pure (pv_of (v := .bool _) rfl) ?_
    refine xp_condT rfl (rfl) ?_
    refine xp_seq ?_
    refine xp_region rfl ?_
    refine op_buildSlice (zc := [_]) (vs := [(0, .slice _ _ _)]) (cs := [_]) rfl rfl rfl rfl rfl rfl rfl fun b13 hb13 => ?_
    refine wp_norm [_] rfl ?_
    refine op_pure (pv_assign (v := .slice _ _ _) rfl) ?_
    refine xp_ret ?_
    refine res_list (vs := [_]) Try.results106 ⟨resV_tmp rfl rfl, trivial⟩ fun V => ?_
    refine ⟨(ext_wl V), some ⟨b13, 0, none⟩, 1, [.slice none 0 0], rfl, rowFn (wl_get V (i := 0) rfl), rfl, fun i l v a b => ?_⟩
    match i with
    | 0 => simp [chM] at a b; subst a b; exact ⟨none, 0, rfl, fun _ h => (by cases h), Rd.nil _ _⟩
    | i + 1 => simp [chM] at a
  | succ m ih =>
    intro hm a ha h
    refine call_body Try.func106 rfl Try.ntmps106 rfl ?_
    refine goes_more ?_
    refine goes_norm [_] rfl ?_
    refine xp_seq ?_
    refine xp_region rfl ?_
    refine op_pure (pv_assign (v := .slice _ _ _) rfl) ?_
    refine xp_seq ?_
    refine xp_seq ?_
    refine xp_region rfl ?_
    refine op_pure (pv_move (v := .int .i64 _) rfl) ?_
    refine op_pure (pv_of (v := .bool _) rfl) ?_
    refine xp_condF rfl ((by simp; omega)) ?_
    refine xp_skip ?_
    refine xp_seq ?_
    refine xp_region rfl ?_
    refine op_pure (pv_assign (v := .slice _ _ _) rfl) ?_
    refine xp_seq ?_
    refine xp_seq ?_
    refine xp_region rfl ?_
    refine op_pure (pv_move (v := .int .i64 _) rfl) ?_
    refine op_pure (pv_assign (v := .int .i64 _) rfl) ?_
    refine xp_block ?_
    refine xp_loopL [7, 8, 9, 10, 15, 16, 17, 18, 19, 20, 21, 22, 23, 24, 25, 26, 27, 28, 29, 30, 31, 32, 33, 34, 35, 36, 37, 38, 39, 40, 41] 1 (α := Nat × Acc × List Value) (fun ⟨k, ao, vs⟩ => [(8, .int .i64 k), (7, .slice ao.A ao.n ao.c)]) (fun ⟨k, ao, vs⟩ L => L.set 0 (ao.p)) (fun ⟨k, ao, vs⟩ h_k => (a ≤ k ∧ k ≤ max n a) ∧ AccR 27 1 vs ao ∧ LLv h_k (chK n m a k) vs) (fun ⟨k, ao, vs⟩ => max n a - k) ((a, acc0, [])) ⟨rfl, rfl, trivial⟩ (rfl) (⟨⟨Nat.le_refl _, by omega⟩, accR0, by rw [chK_zero]; exact LLv.nil⟩) ?_
    rintro ⟨k, ao, vs⟩ T1 h_k E_k J_k
    refine goes_norm [_] rfl ?_
    obtain ⟨⟨K1, K2⟩, K3, K4⟩ := J_k
    refine xp_seq ?_
    refine xp_seq ?_
    refine xp_region rfl ?_
    refine op_pure (pv_move (v := .int .i64 _) rfl) ?_
    refine op_pure (pv_move (v := .int .i64 _) rfl) ?_
    refine op_pure (pv_of (v := .bool _) rfl) ?_
    refine xp_cond rfl (fun hk => ?_) (fun hk => ?_)
    · skip
      have hkn : k < n := ltI hk
      have hlen : (chM n m (k + 1)).length ≤ 128 := chM_bd ⟨n, by omega⟩ ⟨m, by omega⟩ ⟨k + 1, by omega⟩
      have hall : (chM n (m + 1) a).length ≤ 128 := chM_bd ⟨n, by omega⟩ ⟨m + 1, by omega⟩ ⟨a, by omega⟩
      refine xp_skip ?_
      refine xp_seq ?_
      refine xp_block ?_
      refine xp_seq ?_
      refine xp_region rfl ?_
      refine op_pure (pv_move (v := .int .i64 _) rfl) ?_
      refine op_pure (pv_arith rfl (by omega)) ?_
      refine op_pure (pv_move (v := .int .i64 _) rfl) ?_
      refine op_pure (pv_move (v := .int .i64 _) rfl) ?_
      refine op_pure (pv_arith rfl (by omega)) ?_
      rw [show ((m + 1 : Nat) : Int) - 1 = (m : Int) from by omega]
      refine op_fn (caps := []) (vs := [.int .i64 _, .int .i64 _, .int .i64 _]) rfl rfl rfl (ih (by omega) (k + 1) (by omega) h_k) ?_
      rintro _ h1 E1 ⟨RA, rc, rvs, rfl, RR, RL⟩
      refine op_pure (pv_assign (v := .slice _ _ _) rfl) ?_
      refine xp_seq ?_
      refine xp_region rfl ?_
      refine op_pure (pv_assign (v := .int .i64 _) rfl) ?_
      refine xp_block ?_
      refine xp_loopL [7, 10, 26, 27, 28, 29, 30, 31, 32, 33, 34, 35, 36, 37, 38, 39, 40, 41] 1 (α := Nat × Acc × List Value) (fun ⟨r, ao2, vs2⟩ => [(10, .int .i64 r), (7, .slice ao2.A ao2.n ao2.c)]) (fun ⟨r, ao2, vs2⟩ L => L.set 0 (ao2.p)) (fun ⟨r, ao2, vs2⟩ h_r => r ≤ (chM n m (k + 1)).length ∧ AccR 27 1 vs2 ao2 ∧ LLv h_r (chK n m a k ++ ((chM n m (k + 1)).take r).map fun l => (k : Int) :: l) vs2) (fun ⟨r, ao2, vs2⟩ => (chM n m (k + 1)).length - r) ((0, ao, vs)) ⟨rfl, rfl, trivial⟩ (rfl) (⟨Nat.zero_le _, K3, by simpa using K4.ext E1⟩) ?_
      rintro ⟨r, ao2, vs2⟩ T2 h_r E_r J_r
      refine goes_norm [_] rfl ?_
      obtain ⟨Q1, Q2, Q3⟩ := J_r
      refine xp_seq ?_
      refine xp_seq ?_
      refine xp_region rfl ?_
      refine op_pure (pv_move (v := .int .i64 _) rfl) ?_
      refine op_pure (pv_move (v := .slice _ _ _) rfl) ?_
      refine op_pure (pv_len rfl rfl) ?_
      refine op_pure (pv_of (v := .bool _) rfl) ?_
      refine xp_cond rfl (fun hr => ?_) (fun hr => ?_)
      · skip
        have hrl : r < (chM n m (k + 1)).length := ltI hr
        have hrv : r < rvs.length := by rw [RL.1]; exact hrl
        obtain ⟨gR, oR, hRA, hcR⟩ := (RR.ext E_r).at (by omega) hrv
        obtain ⟨A', c', hv, R'⟩ := RL.2 r _ _ (List.getElem?_eq_getElem hrl) (List.getElem?_eq_getElem hrv)
        have hll := chM_len n m (k + 1) _ (List.getElem_mem hrl)
        have hcR0 : cellA h_r ⟨gR, oR + r * 1 + 0, none⟩ = some (.slice A' (chM n m (k + 1))[r].length c') := hcR 0 _ (by rw [hv]; rfl)
        have hvs2 : vs2.length ≤ 16384 := by
          rw [Q3.1, List.length_append, List.length_map, List.length_take]
          have h1 : (chK n m a k).length ≤ 128 := by
            have h2 : (chK n m a k).length ≤ (chK n m a (max n a)).length := by
              unfold chK
              rw [show max n a - a = (k - a) + (max n a - k) from by omega, ← List.range'_append_1, List.flatMap_append, List.length_append]
              omega
            rw [chK_all] at h2
            omega
          omega
        refine xp_skip ?_
        refine xp_seq ?_
        refine xp_block ?_
        refine xp_region rfl ?_
        refine op_pure (pv_move (v := .slice _ _ _) rfl) ?_
        refine op_pure (pv_move (v := .int .i64 _) rfl) ?_
        refine op_buildSlice (zc := [_]) (vs := [(0, .int .i64 _)]) (cs := [_]) rfl rfl rfl rfl rfl rfl rfl fun b34 hb34 => ?_
        refine wp_norm [_, _] rfl ?_
        refine op_pure (pv_move (v := .slice _ _ _) rfl) ?_
        refine op_pure (pv_move (v := .int .i64 _) rfl) ?_
        refine op_pure (pv_indexE rfl hRA rfl rfl rfl (by omega) (by omega)) ?_
        refine op_load (v := .slice _ _ _) rfl rfl hcR0 ?_
        refine op_appendR 1 accR1 rfl rfl rfl (fun V => R'.2.ext (Ext.trans E_r (ext_wl V))) (flat_len R'.1) (flat_plain intP _) rfl rfl rfl rfl rfl rfl rfl (by omega) rfl (by rw [flat_len (fun _ _ => rfl) (m := 1)]; simp; omega) fun a2 h3a E3a ha2 => ?_
        refine wp_norm [_, _] rfl ?_
        obtain ⟨bN, lenN, capN, junkN, hlN, rfl⟩ := AccR.some ha2 (by simp)
        have eN : lenN = (((k : Int) :: (chM n m (k + 1))[r]).length) := by rw [List.length_append, flat_len (fun _ _ => rfl) (m := 1)] at hlN; simp at hlN ⊢; omega
        subst eN
        refine wp_pub 1 rfl rfl ?_
        intro g F PN
        refine wp_norm [_, _] rfl ?_
        have SN : SlR g 1 intC ((k : Int) :: (chM n m (k + 1))[r]) (.slice (some ⟨bN, 0, none⟩) ((k : Int) :: (chM n m (k + 1))[r]).length capN) := ⟨_, _, rfl, row_junk (enc := intC) (l := (k : Int) :: (chM n m (k + 1))[r]) intM PN⟩
        refine op_buildSlice (zc := [_]) (vs := [(0, .slice _ _ _)]) (cs := [_]) rfl rfl rfl rfl rfl rfl rfl fun b40 hb40 => ?_
        refine wp_norm [_, _, _] rfl ?_
        refine op_appendR 0 Q2 rfl rfl rfl (fun V => rdP V (i := 2) rfl) rfl rfl rfl rfl rfl rfl rfl rfl rfl (by omega) rfl (by simp; omega) fun ao3 h4a E4a L3 => ?_
        refine wp_norm [_, _, _] rfl ?_
        refine op_pure (pv_assign (v := .slice _ _ _) rfl) ?_
        refine xp_region rfl ?_
        refine op_pure (pv_move (v := .int .i64 _) rfl) ?_
        refine op_pure (pv_arith rfl (by omega)) ?_
        refine op_pure (pv_assign (v := .int .i64 _) rfl) ?_
        refine ⟨(r + 1, ao3, vs2 ++ [.slice (some ⟨bN, 0, none⟩) ((k : Int) :: (chM n m (k + 1))[r]).length capN]), ⟨rfl, rfl, trivial⟩, rfl, rfl, (Ext.trans (Ext.trans (Ext.trans E_r E3a) F) E4a), fun h3 E3 => ⟨hrl, L3, by rw [take_snoc hrl, List.map_append, ← List.append_assoc]; exact ((Q3.ext (Ext.trans (Ext.trans E3a F) E4a)).snoc (SN.ext E4a)).ext E3⟩, by first | omega | (dsimp only; omega), ?_⟩
        repeat (first | exact off_base _ _ _ | refine off_upd (by decide) ?_ | refine off_updL rfl ?_ | refine off_mix rfl ?_)
      · skip
        have hre : r = (chM n m (k + 1)).length := by have := geI hr; omega
        subst hre
        rw [List.take_length, ← chK_succ K1] at Q3
        refine xp_exit ?_
        refine xp_region rfl ?_
        refine op_pure (pv_move (v := .int .i64 _) rfl) ?_
        refine op_pure (pv_arith rfl (by omega)) ?_
        refine op_pure (pv_assign (v := .int .i64 _) rfl) ?_
        refine ⟨(k + 1, ao2, vs2), ⟨rfl, rfl, trivial⟩, rfl, rfl, (Ext.trans (Ext.trans E_k E1) E_r), fun h3 E3 => ⟨⟨by omega, by omega⟩, Q2, Q3.ext E3⟩, by first | omega | (dsimp only; omega), ?_⟩
        repeat (first | exact off_base _ _ _ | refine off_upd (by decide) ?_ | refine off_updL rfl ?_ | refine off_mix rfl ?_)
    · skip
      have hke : k = max n a := by have := geI hk; omega
      subst hke
      rw [chK_all] at K4
      obtain ⟨pO, AO, nO, cO⟩ := ao
      obtain rfl : nO = (chM n (m + 1) a).length := by have := AccR.len K3; have := K4.1; dsimp only at *; omega
      dsimp only
      refine goes_pubO 0 rfl ?_
      intro g G P
      refine goes_norm [_] rfl ?_
      refine xp_exit ?_
      refine xp_seq ?_
      refine xp_region rfl ?_
      refine op_pure (pv_move (v := .slice _ _ _) rfl) ?_
      refine op_pure (pv_assign (v := .slice _ _ _) rfl) ?_
      refine xp_ret ?_
      refine res_list (vs := [_]) Try.results106 ⟨resV_tmp rfl rfl, trivial⟩ fun V => ?_
      exact ⟨(Ext.trans (Ext.trans E_k G) (ext_wl V)), AO, cO, vs, rfl, ⟨fun _ _ => rfl, by rw [flat_fn]; exact (AccR.rd K3 P).ext (ext_wl V)⟩, K4.ext (Ext.trans G (ext_wl V))⟩
end Go.Proofs.Ytndfkbapoinmkaa
/- Walks: the reference's weeks of danger, and looks. Conditions: as each theorem states. -/
namespace Go.Proofs.Ytndfkbapoinmkaa
open Go Go.HL Go.Proofs Go.Wx
set_option maxRecDepth 100000
theorem asc_looks {n : Nat} {l : List Int} (h : looksM n l = 0) : (∀ z ∈ l, 0 ≤ z ∧ z < n) ∧ l.Pairwise (· < ·) := by
  have h0 : ∀ i, i < l.length → lookE n l i = 0 := fun i hi => firstErr_zero h i (List.mem_range.2 hi)
  have hg : ∀ i (hi : i < l.length), l.getD i 0 = l[i] := fun i hi => by rw [List.getD_eq_getElem?_getD, List.getElem?_eq_getElem hi]; rfl
  have h1 : ∀ i (hi : i < l.length), 0 ≤ l[i] ∧ l[i] < n := fun i hi => by
    have := h0 i hi
    unfold lookE at this
    rw [hg i hi] at this
    cases hb : inM l[i] 0 ((n : Int) - 1) with
    | false => rw [hb, if_pos (by decide)] at this; exact absurd this (by decide)
    | true =>
      unfold inM at hb
      rw [Bool.and_eq_true, decide_eq_true_eq, decide_eq_true_eq] at hb
      omega
  have h2 : ∀ i (hi : i + 1 < l.length), l[i] < l[i + 1] := fun i hi => by
    have := h0 (i + 1) hi
    unfold lookE at this
    rw [hg (i + 1) hi, Nat.add_sub_cancel, hg i (by omega)] at this
    split at this
    · cases this
    · split at this
      · cases this
      · rename_i hn
        have : ¬ l[i + 1] ≤ l[i] := fun e => hn ⟨by omega, e⟩
        omega
  refine ⟨fun z hz => ?_, List.pairwise_iff_getElem.2 fun i j hi hj hij => ?_⟩
  · obtain ⟨i, hi, rfl⟩ := List.getElem_of_mem hz
    exact h1 i hi
  · have key : ∀ d i (hi : i + 1 + d < l.length), l[i] < l[i + 1 + d] := by
      intro d
      induction d with
      | zero => intro i hi; exact h2 i hi
      | succ d ih => intro i hi; exact Int.lt_trans (ih i (by omega)) (h2 (i + 1 + d) hi)
    have := key (j - i - 1) i (by omega)
    simpa [show i + 1 + (j - i - 1) = j from by omega] using this
set_option maxHeartbeats 4000000 in
theorem rDangers_ok (s : Season) (SV : SeasonV s) (A0 A1 A2 A3 : Option Addr) (c0 c1 c2 c3 : Nat) (h : AH) (R : SeasonR h A0 A1 A2 A3 s) :
    FnT Try.prog 105 #[seasonV A0 A1 A2 A3 c0 c1 c2 c3 s] h (fun v h' => SlR h' 1 intC (listM (failingM s)) v) := by
  have hw6 := SV.b.w6
  have hj3 := SV.b.j3
  rw [← danger_list SV.b.w1 hw6]
  refine call_body Try.func105 rfl Try.ntmps105 rfl ?_
  refine goes_more ?_
  refine goes_norm [_] rfl ?_
  refine xp_seq ?_
  refine xp_region rfl ?_
  refine op_box (v := .agg #[.slice _ _ _, .slice _ _ _, .slice _ _ _, .slice _ _ _]) (cs := [_, _, _, _]) rfl rfl fun b1 hb1 => ?_
  refine wp_norm [_, _] rfl ?_
  refine op_pure (pv_assign (v := .slice _ _ _) rfl) ?_
  refine xp_seq ?_
  refine xp_region rfl ?_
  refine op_pure (pv_assign (v := .slice _ _ _) rfl) ?_
  refine xp_seq ?_
  refine xp_seq ?_
  refine xp_region rfl ?_
  refine op_pure (pv_assign (v := .int .i64 _) rfl) ?_
  refine xp_block ?_
  refine xp_loopL [3, 4, 5, 6, 7, 8, 9, 10, 11, 12, 13, 14, 15, 16, 17, 18, 19, 20, 21, 22, 23, 24, 25, 26, 27, 28, 29, 30, 31, 32, 33, 34, 35, 36, 37, 38, 39, 40, 41, 42, 43, 44, 45, 46] 2 (α := Nat × Acc) (fun ⟨w, a⟩ => [(3, .slice a.A a.n a.c), (4, .int .i64 w)]) (fun ⟨w, a⟩ L => L.set 0 (a.p)) (fun ⟨w, a⟩ h_w => w ≤ s.heats.length ∧ AccR 3 1 ((listN (dangerM s s.joints.length) w).flatMap intC) a) (fun ⟨w, a⟩ => s.heats.length - w) ((0, acc0)) ⟨rfl, rfl, trivial⟩ (rfl) (⟨Nat.zero_le _, accR0⟩) ?_
  rintro ⟨w, a⟩ T1 h_w E_w J_w
  refine goes_norm [_, _] rfl ?_
  obtain ⟨K1, K2⟩ := J_w
  have hln := listN_len (dangerM s s.joints.length) w
  refine xp_seq ?_
  refine xp_seq ?_
  refine xp_region rfl ?_
  refine op_pure (pv_move (v := .int .i64 _) rfl) ?_
  refine op_pure (pv_fieldAddr rfl rfl rfl rfl 0 rfl) ?_
  refine op_loadP 1 (v := .slice _ _ _) rfl rfl rfl rfl ?_
  refine op_pure (pv_len rfl rfl) ?_
  refine op_pure (pv_of (v := .bool _) rfl) ?_
  refine xp_cond rfl (fun hw => ?_) (fun hw => ?_)
  · skip
    have hwl : w < s.heats.length := ltI hw
    refine xp_skip ?_
    refine xp_seq ?_
    refine xp_block ?_
    refine xp_seq ?_
    refine xp_region rfl ?_
    refine op_pure (pv_assign (v := .bool _) rfl) ?_
    refine xp_seq ?_
    refine xp_seq ?_
    refine xp_region rfl ?_
    refine op_pure (pv_assign (v := .int .i64 _) rfl) ?_
    refine xp_block ?_
    refine xp_loopB [5, 6, 7, 8, 16, 17, 18, 19, 20, 21, 22, 23, 24, 25, 26, 27, 28, 29, 30, 31, 32, 33, 34, 35, 36, 37, 38, 39, 40, 41] 2 (α := Nat) (fun j => [(5, .bool ((dangerM s j).testBit w)), (6, .int .i64 j)]) (fun j => _) (fun j h_j => j ≤ s.joints.length) (fun j => s.joints.length - j) (0) ⟨(by show Value.bool _ = _; rw [show dangerM s 0 = 0 from rfl, Nat.zero_testBit]), rfl, trivial⟩ (rfl) (Nat.zero_le _) ?_
    rintro j T2 h_j E_j J_j
    refine goes_norm [_, _] rfl ?_
    refine xp_seq ?_
    refine xp_seq ?_
    refine xp_region rfl ?_
    refine op_pure (pv_move (v := .int .i64 _) rfl) ?_
    refine op_pure (pv_fieldAddr rfl rfl rfl rfl 2 rfl) ?_
    refine op_loadP 1 (v := .slice _ _ _) rfl rfl rfl rfl ?_
    refine op_pure (pv_len rfl rfl) ?_
    refine op_pure (pv_of (v := .bool _) rfl) ?_
    refine xp_cond rfl (fun hj => ?_) (fun hj => ?_)
    · skip
      have hjl : j < s.joints.length := ltI hj
      refine xp_skip ?_
      refine xp_seq ?_
      refine xp_block ?_
      refine xp_seq ?_
      refine xp_region rfl ?_
      refine op_loadPA 1 (vs := [.slice _ _ _, .slice _ _ _, .slice _ _ _, .slice _ _ _]) rfl rfl rfl rfl rfl ?_
      refine op_pure (pv_move (v := .int .i64 _) rfl) ?_
      refine op_fn (caps := []) (vs := [.agg #[.slice _ _ _, .slice _ _ _, .slice _ _ _, .slice _ _ _], .int .i64 _]) rfl rfl rfl (rAll_ok s SV j hjl A0 A1 A2 A3 c0 c1 c2 c3 h_j (R.ext (Ext.trans E_w E_j))) ?_
      rintro _ h3 E3 ⟨B, d, rfl, RB⟩
      have hlen := fls_len SV j
      have hfa := fails_any s j w
      generalize flsM s (kindAt s j) j = l at *
      refine op_pure (pv_assign (v := .slice _ _ _) rfl) ?_
      refine xp_seq ?_
      refine xp_region rfl ?_
      refine op_pure (pv_assign (v := .int .i64 _) rfl) ?_
      refine xp_block ?_
      refine xp_loopB [5, 8, 26, 27, 28, 29, 30, 31, 32, 33, 34, 35, 36, 37, 38, 39, 40, 41] 2 (α := Nat) (fun k => [(5, .bool ((dangerM s j).testBit w || (l.take k).any fun y => decide ((y.week : Int) = (w : Int)))), (8, .int .i64 k)]) (fun k => _) (fun k h_k => k ≤ l.length) (fun k => l.length - k) (0) ⟨(by rw [List.take_zero, List.any_nil, Bool.or_false]; rfl), rfl, trivial⟩ (rfl) (Nat.zero_le _) ?_
      rintro k T3 h_k E_k J_k
      refine goes_norm [_, _] rfl ?_
      refine xp_seq ?_
      refine xp_seq ?_
      refine xp_region rfl ?_
      refine op_pure (pv_move (v := .int .i64 _) rfl) ?_
      refine op_pure (pv_move (v := .slice _ _ _) rfl) ?_
      refine op_pure (pv_len rfl rfl) ?_
      refine op_pure (pv_of (v := .bool _) rfl) ?_
      refine xp_cond rfl (fun hk => ?_) (fun hk => ?_)
      · skip
        have hkl : k < l.length := ltI hk
        obtain ⟨g, off, hB, hcl⟩ := (RB.ext E_k).at (by omega) hkl
        rcases Bool.eq_false_or_eq_true ((dangerM s j).testBit w || (l.take k).any fun y => decide ((y.week : Int) = (w : Int))) with e | e
        · skip
          refine xp_skip ?_
          refine xp_seq ?_
          refine xp_block ?_
          refine xp_region rfl ?_
          refine op_pure (pv_move (v := .bool _) rfl) ?_
          refine op_pure (pv_move (v := .bool _) rfl) ?_
          refine guard_no rfl e ?_
          refine guard_no rfl e ?_
          refine guard_no rfl e ?_
          refine guard_no rfl e ?_
          refine guard_no rfl e ?_
          refine guard_no rfl e ?_
          refine guard_no rfl e ?_
          refine op_pure (pv_pickT rfl e (v := .bool _) rfl) ?_
          refine op_pure (pv_assign (v := .bool _) rfl) ?_
          refine xp_region rfl ?_
          refine op_pure (pv_move (v := .int .i64 _) rfl) ?_
          refine op_pure (pv_arith rfl (by omega)) ?_
          refine op_pure (pv_assign (v := .int .i64 _) rfl) ?_
          refine ⟨k + 1, ⟨(by rw [any_take hkl, ← Bool.or_assoc, e]; rfl), rfl, trivial⟩, rfl, rfl, E_k, fun h3 E3 => hkl, by first | omega | (dsimp only; omega), ?_⟩
          repeat (first | exact off_base _ _ _ | refine off_upd (by decide) ?_ | refine off_updL rfl ?_ | refine off_mix rfl ?_)
        · skip
          refine xp_skip ?_
          refine xp_seq ?_
          refine xp_block ?_
          refine xp_region rfl ?_
          refine op_pure (pv_move (v := .bool _) rfl) ?_
          refine op_pure (pv_move (v := .bool _) rfl) ?_
          refine guard_yes rfl e ?_
          refine op_pure (pv_move (v := .slice _ _ _) rfl) ?_
          refine guard_yes rfl e ?_
          refine op_pure (pv_move (v := .int .i64 _) rfl) ?_
          refine guard_yes rfl e ?_
          refine op_pure (pv_indexE rfl hB rfl rfl rfl (by omega) (by omega)) ?_
          refine guard_yes rfl e ?_
          refine op_pure (pv_fieldAddr rfl rfl rfl rfl _ rfl) ?_
          refine guard_yes rfl e ?_
          refine op_load (v := .int .i64 l[k].week) rfl rfl (hcl 0 _ rfl) ?_
          refine guard_yes rfl e ?_
          refine op_pure (pv_move (v := .int .i64 _) rfl) ?_
          refine guard_yes rfl e ?_
          refine op_pure (pv_of (v := .bool _) rfl) ?_
          refine op_pure (pv_pickF rfl e (v := .bool _) rfl) ?_
          refine op_pure (pv_assign (v := .bool _) rfl) ?_
          refine xp_region rfl ?_
          refine op_pure (pv_move (v := .int .i64 _) rfl) ?_
          refine op_pure (pv_arith rfl (by omega)) ?_
          refine op_pure (pv_assign (v := .int .i64 _) rfl) ?_
          refine ⟨k + 1, ⟨(by rw [any_take hkl, ← Bool.or_assoc, e]; rfl), rfl, trivial⟩, rfl, rfl, E_k, fun h3 E3 => hkl, by first | omega | (dsimp only; omega), ?_⟩
          repeat (first | exact off_base _ _ _ | refine off_upd (by decide) ?_ | refine off_updL rfl ?_ | refine off_mix rfl ?_)
      · skip
        have hke : k = l.length := by have := geI hk; omega
        subst hke
        rw [List.take_length, ← hfa, ← danger_bit]
        refine xp_exit ?_
        refine xp_region rfl ?_
        refine op_pure (pv_move (v := .int .i64 _) rfl) ?_
        refine op_pure (pv_arith rfl (by omega)) ?_
        refine op_pure (pv_assign (v := .int .i64 _) rfl) ?_
        refine ⟨j + 1, ⟨rfl, rfl, trivial⟩, rfl, rfl, (Ext.trans (Ext.trans E_j E3) E_k), fun h3 E3 => hjl, by first | omega | (dsimp only; omega), ?_⟩
        repeat (first | exact off_base _ _ _ | refine off_upd (by decide) ?_ | refine off_updL rfl ?_ | refine off_mix rfl ?_)
    · skip
      have hje : j = s.joints.length := by have := geI hj; omega
      subst hje
      refine xp_exit ?_
      refine xp_seq ?_
      refine xp_region rfl ?_
      refine op_pure (pv_move (v := .bool _) rfl) ?_
      refine xp_cond rfl (fun hf => ?_) (fun hf => ?_)
      · skip
        refine xp_region rfl ?_
        refine op_pure (pv_move (v := .slice _ _ _) rfl) ?_
        refine op_pure (pv_move (v := .int .i64 _) rfl) ?_
        refine op_buildSlice (zc := [_]) (vs := [(0, .int .i64 _)]) (cs := [_]) rfl rfl rfl rfl rfl rfl rfl fun b45 hb45 => ?_
        refine wp_norm [_, _, _] rfl ?_
        refine op_appendR 0 K2 rfl rfl rfl (fun V => rdP V (i := 2) rfl) rfl rfl rfl rfl rfl rfl rfl rfl rfl (by omega) rfl (by rw [flat_len (m := 1) (fun _ _ => rfl)]; simp; omega) fun a2 h4a E4a ha2 => ?_
        refine wp_norm [_, _, _] rfl ?_
        refine op_pure (pv_assign (v := .slice _ _ _) rfl) ?_
        refine xp_region rfl ?_
        refine op_pure (pv_move (v := .int .i64 _) rfl) ?_
        refine op_pure (pv_arith rfl (by omega)) ?_
        refine op_pure (pv_assign (v := .int .i64 _) rfl) ?_
        refine ⟨(w + 1, a2), ⟨rfl, rfl, trivial⟩, rfl, rfl, (Ext.trans (Ext.trans E_w E_j) E4a), fun h3 E3 => ⟨by omega, by rw [listN_succ, if_pos hf, List.flatMap_append]; exact ha2⟩, by first | omega | (dsimp only; omega), ?_⟩
        repeat (first | exact off_base _ _ _ | refine off_upd (by decide) ?_ | refine off_updL rfl ?_ | refine off_mix rfl ?_)
      · skip
        refine xp_skip ?_
        refine xp_region rfl ?_
        refine op_pure (pv_move (v := .int .i64 _) rfl) ?_
        refine op_pure (pv_arith rfl (by omega)) ?_
        refine op_pure (pv_assign (v := .int .i64 _) rfl) ?_
        refine ⟨(w + 1, a), ⟨rfl, rfl, trivial⟩, rfl, rfl, (Ext.trans E_w E_j), fun h3 E3 => ⟨by omega, by rw [listN_succ, if_neg (by rw [hf]; decide)]; exact K2⟩, by first | omega | (dsimp only; omega), ?_⟩
        repeat (first | exact off_base _ _ _ | refine off_upd (by decide) ?_ | refine off_updL rfl ?_ | refine off_mix rfl ?_)
  · skip
    have hwe : w = s.heats.length := by have := geI hw; omega
    subst hwe
    obtain ⟨pO, AO, nO, cO⟩ := a
    obtain rfl : nO = (listN (dangerM s s.joints.length) s.heats.length).length := by have := AccR.len K2; rw [flat_len (m := 1) (fun _ _ => rfl)] at this; dsimp only at *; omega
    dsimp only
    refine goes_pubO 0 rfl ?_
    intro gO GO PO
    refine goes_norm [_, _] rfl ?_
    refine xp_exit ?_
    refine xp_seq ?_
    refine xp_region rfl ?_
    refine op_pure (pv_move (v := .slice _ _ _) rfl) ?_
    refine op_pure (pv_assign (v := .slice _ _ _) rfl) ?_
    refine xp_ret ?_
    refine res_list (vs := [_]) Try.results105 ⟨resV_tmp rfl rfl, trivial⟩ fun V => ?_
    exact ⟨(Ext.trans (Ext.trans E_w GO) (ext_wl V)), AO, cO, rfl, fun _ _ => rfl, (AccR.rd K2 PO).ext (ext_wl V)⟩
theorem lookR_bd {n d : Int} {l : List Int} {lo hi : Int} (hn : lo ≤ n ∧ n ≤ hi) (h : ∀ i ∈ l, lo ≤ i ∧ i ≤ hi) : lo ≤ lookR n d l ∧ lookR n d l ≤ hi := by
  unfold lookR
  cases e : l.find? fun i => decide (i ≥ d) with
  | none => exact hn
  | some i => exact h i (List.mem_of_find?_eq_some e)
theorem unseenR_bd {n : Int} (hn : 0 ≤ n ∧ n ≤ 100) {ins : List Int} (hi : ∀ i ∈ ins, 0 ≤ i ∧ i ≤ 100) : ∀ (ds : List Int), (∀ d ∈ ds, 0 ≤ d ∧ d ≤ 100) → 0 ≤ unseenR n ds ins ∧ unseenR n ds ins ≤ 100 := by
  have key : ∀ (ds : List Int) (a : Int), 0 ≤ a ∧ a ≤ 100 → (∀ d ∈ ds, 0 ≤ d ∧ d ≤ 100) → 0 ≤ ds.foldl (fun a d => max a (lookR n d ins - d)) a ∧ ds.foldl (fun a d => max a (lookR n d ins - d)) a ≤ 100 := by
    intro ds
    induction ds with
    | nil => intro a ha _; exact ha
    | cons d ds ih =>
      intro a ha hd
      have h1 := hd d (List.mem_cons_self ..)
      have h2 := lookR_bd (d := d) hn hi
      exact ih (max a (lookR n d ins - d)) (by omega) fun x hx => hd x (List.mem_cons_of_mem _ hx)
  exact fun ds hd => key ds 0 (by omega) hd
set_option maxHeartbeats 2000000 in
theorem rUnseen0_ok (ds ins : List Int) (last : Int) (hl : -1 ≤ last ∧ last ≤ 50) (hd : ∀ d ∈ ds, 0 ≤ d ∧ d ≤ 100) (hi : ∀ i ∈ ins, 0 ≤ i ∧ i ≤ 100) (hdl : ds.length < 2 ^ 40) (hil : ins.length < 2 ^ 40) (A B : Option Addr) (cA cB : Nat) (h : AH) (RA : Row h 1 intC A ds) (RB : Row h 1 intC B ins) :
    FnT Try.prog 107 #[.slice A ds.length cA, .slice B ins.length cB, .int .i64 last] h (fun v _ => v = .int .i64 (unseenR (last + 1) ds ins)) := by
  refine call_body Try.func107 rfl Try.ntmps107 rfl ?_
  refine xp_seq ?_
  refine xp_region rfl ?_
  refine op_pure (pv_assign (v := .int .i64 _) rfl) ?_
  refine xp_seq ?_
  refine xp_region rfl ?_
  refine op_pure (pv_assign (v := .int .i64 _) rfl) ?_
  refine xp_seq ?_
  refine xp_seq ?_
  refine xp_region rfl ?_
  refine op_pure (pv_assign (v := .int .i64 _) rfl) ?_
  refine xp_block ?_
  refine xp_loopB [7, 8, 9, 10, 11, 12, 13, 14, 15, 16, 17, 18, 19, 20, 21, 22, 23, 24, 25, 26, 27, 28, 29, 30, 31, 32, 33, 34, 35, 36, 37, 38, 39, 40, 41, 42, 43, 44, 45, 46] 0 (α := Nat) (fun k => [(7, .int .i64 (unseenR (last + 1) (ds.take k) ins)), (8, .int .i64 k)]) (fun k => _) (fun k h_k => k ≤ ds.length) (fun k => ds.length - k) (0) ⟨rfl, rfl, trivial⟩ (rfl) (Nat.zero_le _) ?_
  rintro k T1 h_k E_k J_k
  refine goes_norm [] rfl ?_
  have hub := unseenR_bd (n := last + 1) (by omega) hi (ds.take k) fun d h => hd d (List.mem_of_mem_take h)
  refine xp_seq ?_
  refine xp_seq ?_
  refine xp_region rfl ?_
  refine op_pure (pv_move (v := .int .i64 _) rfl) ?_
  refine op_pure (pv_move (v := .slice _ _ _) rfl) ?_
  refine op_pure (pv_len rfl rfl) ?_
  refine op_pure (pv_of (v := .bool _) rfl) ?_
  refine xp_cond rfl (fun hk => ?_) (fun hk => ?_)
  · skip
    have hkl : k < ds.length := ltI hk
    have hdk := hd _ (List.getElem_mem hkl)
    obtain ⟨g1, o1, hA, hcA⟩ := (RA.ext E_k).at (by omega) hkl
    refine xp_skip ?_
    refine xp_seq ?_
    refine xp_block ?_
    refine xp_seq ?_
    refine xp_region rfl ?_
    refine op_pure (pv_move (v := .int .i64 _) rfl) ?_
    refine op_pure (pv_arith rfl (by omega)) ?_
    refine op_pure (pv_assign (v := .int .i64 _) rfl) ?_
    refine xp_seq ?_
    refine xp_seq ?_
    refine xp_region rfl ?_
    refine op_pure (pv_move (v := .slice _ _ _) rfl) ?_
    refine op_pure (pv_len rfl rfl) ?_
    refine op_pure (pv_arith rfl (by omega)) ?_
    refine op_pure (pv_assign (v := .int .i64 _) rfl) ?_
    refine xp_block ?_
    refine xp_loopB [9, 10, 22, 23, 24, 25, 26, 27, 28, 29, 30, 31, 32, 33, 34, 35, 36, 37, 38] 0 (α := Nat) (fun m => [(9, .int .i64 (lookR (last + 1) ds[k] (ins.drop m))), (10, .int .i64 ((m : Int) - 1))]) (fun m => _) (fun m h_m => m ≤ ins.length) (fun m => m) (ins.length) ⟨(by rw [List.drop_length]; rfl), rfl, trivial⟩ (rfl) (Nat.le_refl _) ?_
    rintro m T2 h_m E_m J_m
    refine goes_norm [] rfl ?_
    refine xp_seq ?_
    refine xp_seq ?_
    refine xp_region rfl ?_
    refine op_pure (pv_move (v := .int .i64 _) rfl) ?_
    refine op_pure (pv_of (v := .bool _) rfl) ?_
    refine xp_cond rfl (fun hm => ?_) (fun hm => ?_)
    · skip
      have hm1 : 1 ≤ m := by have := of_decide_eq_true hm; omega
      obtain ⟨q, rfl⟩ : ∃ q, m = q + 1 := ⟨m - 1, by omega⟩
      have hql : q < ins.length := by omega
      have hiq := hi _ (List.getElem_mem hql)
      have hdr : ins.drop q = ins[q] :: ins.drop (q + 1) := List.drop_eq_getElem_cons hql
      obtain ⟨g2, o2, hB, hcB⟩ := (RB.ext (Ext.trans E_k E_m)).at (by omega) hql
      rw [show (((q + 1 : Nat) : Int) - 1) = (q : Int) from by omega]
      refine xp_skip ?_
      refine xp_seq ?_
      refine xp_block ?_
      refine xp_seq ?_
      refine xp_dw [] rfl rfl rfl ?_
      refine dw_pure (i := 0) rfl (by decide +kernel) (pv_move (v := .slice _ _ _) rfl) ?_
      refine dw_pure (i := 1) rfl (by decide +kernel) (pv_move (v := .int .i64 _) rfl) ?_
      refine dw_pure (i := 2) rfl (by decide +kernel) (pv_indexE rfl hB rfl rfl rfl (by omega) (by omega)) ?_
      refine dw_load (i := 3) rfl (by decide +kernel) ?_
      refine op_load (v := .int .i64 _) rfl rfl ((hcB) 0 _ rfl) ?_
      refine dw_pure (i := 4) rfl (by decide +kernel) (pv_move (v := .slice _ _ _) rfl) ?_
      refine dw_pure (i := 5) rfl (by decide +kernel) (pv_move (v := .int .i64 _) rfl) ?_
      refine dw_pure (i := 6) rfl (by decide +kernel) (pv_indexE rfl hA rfl rfl rfl (by omega) (by omega)) ?_
      refine dw_load (i := 7) rfl (by decide +kernel) ?_
      refine op_load (v := .int .i64 _) rfl rfl ((hcA.ext E_m) 0 _ rfl) ?_
      refine dw_pure (i := 8) rfl (by decide +kernel) (pv_of (v := .bool _) rfl) ?_
      refine dw_end rfl ?_
      refine xp_cond rfl (fun hge => ?_) (fun hge => ?_)
      · skip
        have hge' : ins[q] ≥ ds[k] := of_decide_eq_true hge
        refine xp_region rfl ?_
        refine op_pure (pv_move (v := .slice _ _ _) rfl) ?_
        refine op_pure (pv_move (v := .int .i64 _) rfl) ?_
        refine op_pure (pv_indexE rfl hB rfl rfl rfl (by omega) (by omega)) ?_
        refine op_load (v := .int .i64 _) rfl rfl ((hcB) 0 _ rfl) ?_
        refine op_pure (pv_assign (v := .int .i64 _) rfl) ?_
        refine xp_region rfl ?_
        refine op_pure (pv_move (v := .int .i64 _) rfl) ?_
        refine op_pure (pv_arith rfl (by omega)) ?_
        refine op_pure (pv_assign (v := .int .i64 _) rfl) ?_
        refine ⟨q, ⟨(by rw [hdr, lookR_cons, if_pos hge']; rfl), rfl, trivial⟩, rfl, rfl, E_m, fun h3 E3 => by omega, by first | omega | (dsimp only; omega), ?_⟩
        repeat (first | exact off_base _ _ _ | refine off_upd (by decide) ?_ | refine off_updL rfl ?_ | refine off_mix rfl ?_)
      · skip
        have hge' : ¬ ins[q] ≥ ds[k] := of_decide_eq_false hge
        refine xp_skip ?_
        refine xp_region rfl ?_
        refine op_pure (pv_move (v := .int .i64 _) rfl) ?_
        refine op_pure (pv_arith rfl (by omega)) ?_
        refine op_pure (pv_assign (v := .int .i64 _) rfl) ?_
        refine ⟨q, ⟨(by rw [hdr, lookR_cons, if_neg hge']; rfl), rfl, trivial⟩, rfl, rfl, E_m, fun h3 E3 => by omega, by first | omega | (dsimp only; omega), ?_⟩
        repeat (first | exact off_base _ _ _ | refine off_upd (by decide) ?_ | refine off_updL rfl ?_ | refine off_mix rfl ?_)
    · skip
      have hme : m = 0 := by have := of_decide_eq_false hm; omega
      subst hme
      rw [List.drop_zero]
      have hlb := lookR_bd (n := last + 1) (d := ds[k]) (lo := 0) (hi := 100) (by omega) hi
      refine xp_exit ?_
      refine xp_region rfl ?_
      refine op_pure (pv_move (v := .int .i64 _) rfl) ?_
      refine op_pure (pv_move (v := .int .i64 _) rfl) ?_
      refine op_pure (pv_move (v := .slice _ _ _) rfl) ?_
      refine op_pure (pv_move (v := .int .i64 _) rfl) ?_
      refine op_pure (pv_indexE rfl hA rfl rfl rfl (by omega) (by omega)) ?_
      refine op_load (v := .int .i64 _) rfl rfl ((hcA.ext E_m) 0 _ rfl) ?_
      refine op_pure (pv_arith rfl (by omega)) ?_
      refine op_pure (pv_max rfl rfl) ?_
      refine op_pure (pv_assign (v := .int .i64 _) rfl) ?_
      refine xp_region rfl ?_
      refine op_pure (pv_move (v := .int .i64 _) rfl) ?_
      refine op_pure (pv_arith rfl (by omega)) ?_
      refine op_pure (pv_assign (v := .int .i64 _) rfl) ?_
      refine ⟨k + 1, ⟨(by rw [take_snoc hkl, unseenR_snoc]; rfl), rfl, trivial⟩, rfl, rfl, (Ext.trans E_k E_m), fun h3 E3 => hkl, by first | omega | (dsimp only; omega), ?_⟩
      repeat (first | exact off_base _ _ _ | refine off_upd (by decide) ?_ | refine off_updL rfl ?_ | refine off_mix rfl ?_)
  · skip
    have hke : k = ds.length := by have := geI hk; omega
    subst hke
    rw [List.take_length]
    refine xp_exit ?_
    refine xp_seq ?_
    refine xp_region rfl ?_
    refine op_pure (pv_move (v := .int .i64 _) rfl) ?_
    refine op_pure (pv_assign (v := .int .i64 _) rfl) ?_
    refine xp_ret ?_
    refine res_list (vs := [_]) Try.results107 ⟨resV_tmp rfl rfl, trivial⟩ fun V => ?_
    exact ⟨(Ext.trans E_k (ext_wl V)), rfl⟩
end Go.Proofs.Ytndfkbapoinmkaa
/- Walks: a season without some reports (the reference). Conditions: as each theorem states. -/
namespace Go.Proofs.Ytndfkbapoinmkaa
open Go Go.HL Go.Proofs Go.Wx
set_option maxRecDepth 100000
end Go.Proofs.Ytndfkbapoinmkaa
/- Walks: the law on the fewest wrong reports. Conditions: as each theorem states. -/
namespace Go.Proofs.Ytndfkbapoinmkaa
open Go Go.HL Go.Proofs Go.Wx Go.RowKit
set_option maxRecDepth 100000
end Go.Proofs.Ytndfkbapoinmkaa
/- Walks: when somebody has to look, and which reports must be wrong (the reference). Conditions: as each theorem states. -/
namespace Go.Proofs.Ytndfkbapoinmkaa
open Go Go.HL Go.Proofs Go.Wx
set_option maxRecDepth 100000
theorem find_snoc {l : List (List Int)} {p : List Int → Bool} {i : Nat} (h : i < l.length) (h0 : (l.take i).find? p = none) : (l.take (i + 1)).find? p = if p l[i] then some l[i] else none := by
  rw [take_snoc h, List.find?_append, h0]
  cases hp : p l[i] <;> simp [hp]
theorem find_at {l : List (List Int)} {p : List Int → Bool} {i : Nat} (h : i < l.length) (h0 : (l.take i).find? p = none) (hp : p l[i] = true) : l.find? p = some l[i] := by
  have h1 := find_snoc h h0
  rw [if_pos hp] at h1
  have h2 : l.find? p = (l.take (i + 1) ++ l.drop (i + 1)).find? p := by rw [List.take_append_drop]
  rw [h2, List.find?_append, h1]
  rfl
theorem few_found {n m i : Nat} {p : List Int → Bool} (hm : m ≤ n) (h0 : fewestP n p m = none) (hi : i < (chM n m 0).length) (h1 : ((chM n m 0).take i).find? p = none) (hp : p (chM n m 0)[i] = true) : (fewestP n p (n + 1)).getD [] = (chM n m 0)[i] := by
  have h2 : fewestP n p (m + 1) = some (chM n m 0)[i] := by rw [fewestP_step, h0, find_at hi h1 hp]; rfl
  have h3 := fewestP_mono h2 (n - m)
  rw [show m + 1 + (n - m) = n + 1 from by omega] at h3
  rw [h3]; rfl
theorem few_next {n m : Nat} {p : List Int → Bool} (he : ∃ x, fewestP n p (n + 1) = some x) (hm : m ≤ n) (h0 : fewestP n p m = none) (h1 : (chM n m 0).find? p = none) : m + 1 ≤ n ∧ fewestP n p (m + 1) = none := by
  have h2 : fewestP n p (m + 1) = none := by rw [fewestP_step, h0, h1]; rfl
  refine ⟨?_, h2⟩
  by_cases h : m + 1 ≤ n
  · exact h
  · obtain ⟨x, hx⟩ := he
    rw [show m + 1 = n + 1 from by omega, hx] at h2
    cases h2
set_option maxHeartbeats 4000000 in
theorem rInspect_ok (s : Season) (Sm : Small s) (w : Int) (A0 A1 A2 A3 : Option Addr) (c0 c1 c2 c3 : Nat) (h : AH) (R : SeasonR h A0 A1 A2 A3 s) :
    FnT Try.prog 39 #[seasonV A0 A1 A2 A3 c0 c1 c2 c3 s, .int .i64 w] h (fun v h' => ∃ u, v = .tuple #[u, .int .i64 (inspectE s w)] ∧ SlR h' 1 intC (inspectL s w) u) := by
  refine call_body Try.func39 rfl Try.ntmps39 rfl ?_
  refine xp_seq ?_
  refine xp_region rfl ?_
  refine op_box (v := .agg #[.slice _ _ _, .slice _ _ _, .slice _ _ _, .slice _ _ _]) (cs := [_, _, _, _]) rfl rfl fun b2 hb2 => ?_
  refine wp_norm [_] rfl ?_
  refine op_pure (pv_assign (v := .slice _ _ _) rfl) ?_
  refine op_pure (pv_assign (v := .int .i64 _) rfl) ?_
  refine xp_seq ?_
  refine xp_seq ?_
  refine xp_region rfl ?_
  refine op_loadPA 0 (vs := [.slice _ _ _, .slice _ _ _, .slice _ _ _, .slice _ _ _]) rfl rfl rfl rfl rfl ?_
  refine op_fn (caps := []) (vs := [.agg #[.slice _ _ _, .slice _ _ _, .slice _ _ _, .slice _ _ _]]) rfl rfl rfl (rCheck_ok s Sm A0 A1 A2 A3 c0 c1 c2 c3 h (R.ext (Ext.refl _))) ?_
  rintro _ h1 E1 rfl
  refine op_pure (pv_assign (v := .int .i64 _) rfl) ?_
  refine xp_seq ?_
  refine xp_region rfl ?_
  refine op_pure (pv_move (v := .int .i64 _) rfl) ?_
  refine op_pure (pv_of (v := .bool _) rfl) ?_
  refine xp_cond rfl (fun hc => ?_) (fun hc => ?_)
  · skip
    have hc' : checkM s ≠ 0 := by simpa using hc
    have he : inspectE s w = checkM s := by rw [inspectE, known1, if_pos hc']
    refine xp_seq ?_
    refine xp_region rfl ?_
    refine op_pure (pv_move (v := .int .i64 _) rfl) ?_
    refine op_pure (pv_assign (v := .slice _ _ _) rfl) ?_
    refine op_pure (pv_assign (v := .int .i64 _) rfl) ?_
    refine xp_ret ?_
    refine res_list (vs := [_, _]) Try.results39 ⟨resV_tmp rfl rfl, resV_tmp rfl rfl, trivial⟩ fun V => ?_
    exact ⟨(Ext.trans E1 (ext_wl V)), .slice none 0 0, by rw [he]; rfl, by rw [inspectL, if_neg (by rw [he]; exact hc')]; exact slr_nil _ _ _⟩
  · skip
    have hc' : checkM s = 0 := by simpa using hc
    have C := CheckS.of hc'
    have SV := checkM_zero hc'
    have hw6 := SV.b.w6
    have hw1 := SV.b.w1
    refine xp_skip ?_
    refine xp_seq ?_
    refine xp_seq ?_
    refine xp_region rfl ?_
    refine op_pure (pv_move (v := .int .i64 _) rfl) ?_
    refine op_fn (caps := []) (vs := [.int .i64 _, .int .i64 _, .int .i64 _]) rfl rfl rfl (rWithin_ok _ _ _ h1) ?_
    rintro _ h2 E2 rfl
    refine op_pure (pv_of (v := .bool _) rfl) ?_
    refine xp_cond rfl (fun hk => ?_) (fun hk => ?_)
    · skip
      have hb : inM w 0 6 = false := by simpa using hk
      have he : inspectE s w = 1 := by rw [inspectE, known1, if_neg (by simp [hc']), waitM, hb]; rfl
      refine xp_seq ?_
      refine xp_region rfl ?_
      refine op_pure (pv_assign (v := .slice _ _ _) rfl) ?_
      refine op_pure (pv_assign (v := .int .i64 _) rfl) ?_
      refine xp_ret ?_
      refine res_list (vs := [_, _]) Try.results39 ⟨resV_tmp rfl rfl, resV_tmp rfl rfl, trivial⟩ fun V => ?_
      exact ⟨(Ext.trans (Ext.trans E1 E2) (ext_wl V)), .slice none 0 0, by rw [he]; rfl, by rw [inspectL, if_neg (by rw [he]; decide)]; exact slr_nil _ _ _⟩
    · skip
      have hb : inM w 0 6 = true := by simpa using hk
      have hw0 : 0 ≤ w := by unfold inM at hb; rw [Bool.and_eq_true, decide_eq_true_eq] at hb; exact hb.1
      have hw00 : w ≤ 6 := by unfold inM at hb; rw [Bool.and_eq_true, decide_eq_true_eq, decide_eq_true_eq] at hb; exact hb.2
      refine xp_skip ?_
      refine xp_seq ?_
      refine xp_seq ?_
      refine xp_region rfl ?_
      refine op_loadPA 0 (vs := [.slice _ _ _, .slice _ _ _, .slice _ _ _, .slice _ _ _]) rfl rfl rfl rfl rfl ?_
      refine op_fn (caps := []) (vs := [.agg #[.slice _ _ _, .slice _ _ _, .slice _ _ _, .slice _ _ _]]) rfl rfl rfl (rMay_ok s SV A0 A1 A2 A3 c0 c1 c2 c3 h2 (R.ext (Ext.trans E1 E2))) ?_
      rintro _ h3 E3 rfl
      refine op_pure (pv_of (v := .bool _) rfl) ?_
      refine xp_cond rfl (fun hm => ?_) (fun hm => ?_)
      · skip
        have hm' : mayM s = false := by simpa using hm
        have he : inspectE s w = 9 := by rw [inspectE, known1, if_neg (by simp [hc']), waitM, hb, hm']; rfl
        refine xp_seq ?_
        refine xp_region rfl ?_
        refine op_pure (pv_assign (v := .slice _ _ _) rfl) ?_
        refine op_pure (pv_assign (v := .int .i64 _) rfl) ?_
        refine xp_ret ?_
        refine res_list (vs := [_, _]) Try.results39 ⟨resV_tmp rfl rfl, resV_tmp rfl rfl, trivial⟩ fun V => ?_
        exact ⟨(Ext.trans (Ext.trans (Ext.trans E1 E2) E3) (ext_wl V)), .slice none 0 0, by rw [he]; rfl, by rw [inspectL, if_neg (by rw [he]; decide)]; exact slr_nil _ _ _⟩
      · skip
        have hm' : mayM s = true := by simpa using hm
        have he : inspectE s w = 0 := by rw [inspectE, known1, if_neg (by simp [hc']), waitM, hb, hm']; rfl
        obtain ⟨p, hp⟩ : ∃ p, p = willDo s w := ⟨_, rfl⟩
        have eL : inspectL s w = (fewestP s.heats.length p (s.heats.length + 1)).getD [] := by rw [inspectL, if_pos he, hp]; rfl
        have hex : ∃ x, fewestP s.heats.length p (s.heats.length + 1) = some x := by rw [hp]; exact will_some hw1 hw0
        refine xp_skip ?_
        refine xp_seq ?_
        refine xp_region rfl ?_
        refine op_loadPA 0 (vs := [.slice _ _ _, .slice _ _ _, .slice _ _ _, .slice _ _ _]) rfl rfl rfl rfl rfl ?_
        refine op_fn (caps := []) (vs := [.agg #[.slice _ _ _, .slice _ _ _, .slice _ _ _, .slice _ _ _]]) rfl rfl rfl (rDangers_ok s SV A0 A1 A2 A3 c0 c1 c2 c3 h3 (R.ext (Ext.trans (Ext.trans E1 E2) E3))) ?_
        rintro _ h4 E4 ⟨B, d, rfl, RB⟩
        have hfl : (listM (failingM s)).length ≤ 7 := listN_len _ _
        refine op_pure (pv_assign (v := .slice _ _ _) rfl) ?_
        refine xp_seq ?_
        refine xp_region rfl ?_
        refine op_pure (pv_assign (v := .int .i64 _) rfl) ?_
        refine xp_block ?_
        refine xp_loopB [4, 5, 8, 9, 10, 24, 25, 26, 27, 28, 29, 30, 31, 32, 33, 34, 35, 36, 37, 38, 39, 40, 41, 42, 43, 44, 45, 46, 47, 48, 49, 50, 51, 52] 1 (α := Nat) (fun m => [(8, .int .i64 m)]) (fun m => _) (fun m h_m => m ≤ s.heats.length ∧ fewestP s.heats.length p m = none) (fun m => s.heats.length + 1 - m) (0) ⟨rfl, trivial⟩ (rfl) (⟨Nat.zero_le _, rfl⟩) ?_
        rintro m T1 h_m E_m J_m
        refine goes_norm [_] rfl ?_
        obtain ⟨K1, K2⟩ := J_m
        have hll : (chM s.heats.length m 0).length ≤ 128 := chM_bd ⟨s.heats.length, by omega⟩ ⟨m, by omega⟩ ⟨0, by omega⟩
        refine xp_seq ?_
        refine xp_block ?_
        refine xp_seq ?_
        refine xp_region rfl ?_
        refine op_pure (pv_fieldAddr rfl rfl rfl rfl 0 rfl) ?_
        refine op_loadP 0 (v := .slice _ _ _) rfl rfl rfl rfl ?_
        refine op_pure (pv_len rfl rfl) ?_
        refine op_pure (pv_move (v := .int .i64 _) rfl) ?_
        refine op_fn (caps := []) (vs := [.int .i64 _, .int .i64 _, .int .i64 _]) rfl rfl rfl (rLists_ok s.heats.length (by omega) m (by omega) 0 (by omega) h_m) ?_
        rintro _ h5 E5 ⟨C5, cc, vs, rfl, RV, RL⟩
        have hvl := RL.1
        refine op_pure (pv_assign (v := .slice _ _ _) rfl) ?_
        refine xp_seq ?_
        refine xp_region rfl ?_
        refine op_pure (pv_assign (v := .int .i64 _) rfl) ?_
        refine xp_block ?_
        refine xp_loopB [4, 5, 10, 31, 32, 33, 34, 35, 36, 37, 38, 39, 40, 41, 42, 43, 44, 45, 46, 47, 48, 49, 50, 51, 52] 1 (α := Nat) (fun i => [(10, .int .i64 i)]) (fun i => _) (fun i h_i => i ≤ (chM s.heats.length m 0).length ∧ ((chM s.heats.length m 0).take i).find? p = none) (fun i => (chM s.heats.length m 0).length - i) (0) ⟨rfl, trivial⟩ (rfl) (⟨Nat.zero_le _, rfl⟩) ?_
        rintro i T2 h_i E_i J_i
        refine goes_norm [_] rfl ?_
        obtain ⟨I1, I2⟩ := J_i
        refine xp_seq ?_
        refine xp_seq ?_
        refine xp_region rfl ?_
        refine op_pure (pv_move (v := .int .i64 _) rfl) ?_
        refine op_pure (pv_move (v := .slice _ _ _) rfl) ?_
        refine op_pure (pv_len rfl rfl) ?_
        refine op_pure (pv_of (v := .bool _) rfl) ?_
        refine xp_cond rfl (fun hi => ?_) (fun hi => ?_)
        · skip
          have hil : i < (chM s.heats.length m 0).length := ltI hi
          obtain ⟨l, el⟩ : ∃ l, l = (chM s.heats.length m 0)[i] := ⟨_, rfl⟩
          have hmem : l ∈ chM s.heats.length m 0 := by rw [el]; exact List.getElem_mem hil
          obtain ⟨ha1, ha2⟩ := chM_asc s.heats.length m 0 l hmem
          have hlm := chM_len s.heats.length m 0 l hmem
          obtain ⟨gR, oR, hRA, hcR⟩ := (RV.ext E_i).at (by omega) (show i < vs.length by omega)
          obtain ⟨A', c', hv, R'⟩ := RL.2 i l _ (by rw [el]; exact List.getElem?_eq_getElem hil) (List.getElem?_eq_getElem (show i < vs.length by omega))
          have hcR0 := hcR 0 (.slice A' l.length c') (by rw [hv]; rfl)
          refine xp_skip ?_
          refine xp_seq ?_
          refine xp_block ?_
          refine xp_seq ?_
          refine xp_dw [] rfl rfl rfl ?_
          refine dw_pure (i := 0) rfl (by decide +kernel) (pv_move (v := .slice _ _ _) rfl) ?_
          refine dw_pure (i := 1) rfl (by decide +kernel) (pv_move (v := .slice _ _ _) rfl) ?_
          refine dw_pure (i := 2) rfl (by decide +kernel) (pv_move (v := .int .i64 _) rfl) ?_
          refine dw_pure (i := 3) rfl (by decide +kernel) (pv_indexE rfl hRA rfl rfl rfl (by omega) (by omega)) ?_
          refine dw_load (i := 4) rfl (by decide +kernel) ?_
          refine op_load (v := .slice A' l.length c') rfl rfl hcR0 ?_
          refine dw_pure (i := 5) rfl (by decide +kernel) (pv_fieldAddr rfl rfl rfl rfl 0 rfl) ?_
          refine dw_load (i := 6) rfl (by decide +kernel) ?_
          refine op_loadP 0 (v := .slice _ _ _) rfl rfl rfl rfl ?_
          refine dw_pure (i := 7) rfl (by decide +kernel) (pv_len rfl rfl) ?_
          refine dw_pure (i := 8) rfl (by decide +kernel) (pv_arith rfl (by omega)) ?_
          refine dw_pure (i := 10) rfl (by decide +kernel) (pv_move (v := .int .i64 _) rfl) ?_
          refine dw_last (i := 9) rfl (by decide +kernel) (by decide +kernel) ?_
          refine op_fn (caps := []) (vs := [.slice _ _ _, .slice _ _ _, .int .i64 _]) rfl rfl rfl (rUnseen0_ok (listM (failingM s)) l ((s.heats.length : Int) - 1) (by omega) (fun d hd => by have := failing_bd hw1 hd; omega) (fun x hx => by have := ha1 x hx; omega) (by omega) (by omega) B A' d c' h_i (RB.ext (Ext.trans (Ext.trans E_m E5) E_i)) (R'.ext E_i)) ?_
          rintro _ h6 E6 rfl
          have hub := unseenR_bd (n := ((s.heats.length : Int) - 1) + 1) (by omega) (fun x hx => by have := ha1 x hx; omega) (listM (failingM s)) (fun d hd => by have := failing_bd hw1 hd; omega) (ins := l)
          have hU : decide (unseenR (((s.heats.length : Int) - 1) + 1) (listM (failingM s)) l ≤ w) = p l := by
            rw [show ((s.heats.length : Int) - 1) + 1 = s.heats.length from by omega, unseenR_eq (by omega) (fun x hx => by have := ha1 x hx; omega) ha2, hp]
            rfl
          refine dw_pure (i := 11) rfl (by decide +kernel) (pv_of (v := .bool _) rfl) ?_
          refine dw_end rfl ?_
          rw [hU]
          refine xp_cond rfl (fun hq => ?_) (fun hq => ?_)
          · skip
            refine xp_seq ?_
            refine xp_region rfl ?_
            refine op_pure (pv_move (v := .slice _ _ _) rfl) ?_
            refine op_pure (pv_move (v := .int .i64 _) rfl) ?_
            refine op_pure (pv_indexE rfl hRA rfl rfl rfl (by omega) (by omega)) ?_
            refine op_load (v := .slice A' l.length c') rfl rfl ((hcR.ext E6) 0 _ (by rw [hv]; rfl)) ?_
            refine op_pure (pv_assign (v := .slice _ _ _) rfl) ?_
            refine op_pure (pv_assign (v := .int .i64 _) rfl) ?_
            have hres : inspectL s w = l := by rw [eL, few_found K1 K2 hil I2 (by rw [← el]; exact hq), el]
            refine xp_ret ?_
            refine res_list (vs := [_, _]) Try.results39 ⟨resV_tmp rfl rfl, resV_tmp rfl rfl, trivial⟩ fun V => ?_
            exact ⟨(Ext.trans (Ext.trans (Ext.trans (Ext.trans (Ext.trans (Ext.trans (Ext.trans (Ext.trans E1 E2) E3) E4) E_m) E5) E_i) E6) (ext_wl V)), .slice A' l.length c', by rw [he]; rfl, by rw [hres]; exact ⟨A', c', rfl, R'.ext (Ext.trans (Ext.trans E_i E6) (ext_wl V))⟩⟩
          · skip
            refine xp_skip ?_
            refine xp_region rfl ?_
            refine op_pure (pv_move (v := .int .i64 _) rfl) ?_
            refine op_pure (pv_arith rfl (by omega)) ?_
            refine op_pure (pv_assign (v := .int .i64 _) rfl) ?_
            refine ⟨i + 1, ⟨rfl, trivial⟩, rfl, rfl, (Ext.trans E_i E6), fun h3 E3 => ⟨hil, by rw [find_snoc hil I2, if_neg (by rw [← el, hq]; decide)]⟩, by first | omega | (dsimp only; omega), ?_⟩
            repeat (first | exact off_base _ _ _ | refine off_upd (by decide) ?_ | refine off_updL rfl ?_ | refine off_mix rfl ?_)
        · skip
          have hie : i = (chM s.heats.length m 0).length := by have := geI hi; omega
          subst hie
          rw [List.take_length] at I2
          refine xp_exit ?_
          refine xp_region rfl ?_
          refine op_pure (pv_move (v := .int .i64 _) rfl) ?_
          refine op_pure (pv_arith rfl (by omega)) ?_
          refine op_pure (pv_assign (v := .int .i64 _) rfl) ?_
          refine ⟨m + 1, ⟨rfl, trivial⟩, rfl, rfl, (Ext.trans (Ext.trans E_m E5) E_i), fun h3 E3 => few_next hex K1 K2 I2, by first | omega | (dsimp only; omega), ?_⟩
          repeat (first | exact off_base _ _ _ | refine off_upd (by decide) ?_ | refine off_updL rfl ?_ | refine off_mix rfl ?_)
set_option maxHeartbeats 4000000 in
theorem rUnseen_ok (s : Season) (Sm : Small s) (l : List Int) (hl : l.length < 2 ^ 20) (B : Option Addr) (cB : Nat) (A0 A1 A2 A3 : Option Addr) (c0 c1 c2 c3 : Nat) (h : AH) (R : SeasonR h A0 A1 A2 A3 s) (RB : Row h 1 intC B l) :
    FnT Try.prog 41 #[seasonV A0 A1 A2 A3 c0 c1 c2 c3 s, .slice B l.length cB] h (fun v _ => v = .tuple #[.int .i64 (unseenV s l), .int .i64 (unseenE s l)]) := by
  have Sm0 := Sm.h0
  refine call_body Try.func41 rfl Try.ntmps41 rfl ?_
  refine xp_seq ?_
  refine xp_region rfl ?_
  refine op_box (v := .agg #[.slice _ _ _, .slice _ _ _, .slice _ _ _, .slice _ _ _]) (cs := [_, _, _, _]) rfl rfl fun b2 hb2 => ?_
  refine wp_norm [_] rfl ?_
  refine op_pure (pv_assign (v := .int .i64 _) rfl) ?_
  refine op_pure (pv_assign (v := .int .i64 _) rfl) ?_
  refine xp_seq ?_
  refine xp_seq ?_
  refine xp_region rfl ?_
  refine op_loadPA 0 (vs := [.slice _ _ _, .slice _ _ _, .slice _ _ _, .slice _ _ _]) rfl rfl rfl rfl rfl ?_
  refine op_fn (caps := []) (vs := [.agg #[.slice _ _ _, .slice _ _ _, .slice _ _ _, .slice _ _ _]]) rfl rfl rfl (rCheck_ok s Sm A0 A1 A2 A3 c0 c1 c2 c3 h (R.ext (Ext.refl _))) ?_
  rintro _ h1 E1 rfl
  refine op_pure (pv_assign (v := .int .i64 _) rfl) ?_
  refine xp_seq ?_
  refine xp_region rfl ?_
  refine op_pure (pv_move (v := .int .i64 _) rfl) ?_
  refine op_pure (pv_of (v := .bool _) rfl) ?_
  refine xp_cond rfl (fun hc => ?_) (fun hc => ?_)
  · skip
    have hc' : checkM s ≠ 0 := by simpa using hc
    have he : unseenE s l = checkM s := by rw [unseenE, known1, if_pos hc']
    refine xp_seq ?_
    refine xp_region rfl ?_
    refine op_pure (pv_move (v := .int .i64 _) rfl) ?_
    refine op_pure (pv_assign (v := .int .i64 _) rfl) ?_
    refine op_pure (pv_assign (v := .int .i64 _) rfl) ?_
    refine xp_ret ?_
    refine res_list (vs := [_, _]) Try.results41 ⟨resV_tmp rfl rfl, resV_tmp rfl rfl, trivial⟩ fun V => ?_
    exact ⟨(Ext.trans E1 (ext_wl V)), by rw [unseenV, if_neg (by rw [he]; exact hc'), he]; rfl⟩
  · skip
    have hc' : checkM s = 0 := by simpa using hc
    have SV := checkM_zero hc'
    have hw6 := SV.b.w6
    have hw1 := SV.b.w1
    refine xp_skip ?_
    refine xp_seq ?_
    refine xp_seq ?_
    refine xp_region rfl ?_
    refine op_pure (pv_assign (v := .int .i64 _) rfl) ?_
    refine xp_block ?_
    refine xp_loopB [4, 5, 7, 13, 14, 15, 16, 17, 18, 19, 20, 21, 22, 23, 24, 25, 26, 27, 28, 29, 30, 31, 32, 33, 34, 35, 36, 37, 38, 39, 40, 41, 42] 1 (α := Nat) (fun i => [(7, .int .i64 i)]) (fun i => _) (fun i h_i => i ≤ l.length ∧ firstErr (lookE s.heats.length l) ((List.range l.length).take i) = 0) (fun i => l.length - i) (0) ⟨rfl, trivial⟩ (rfl) (⟨Nat.zero_le _, rfl⟩) ?_
    rintro i T1 h_i E_i J_i
    refine goes_norm [_] rfl ?_
    obtain ⟨K1, K2⟩ := J_i
    refine xp_seq ?_
    refine xp_seq ?_
    refine xp_region rfl ?_
    refine op_pure (pv_move (v := .int .i64 _) rfl) ?_
    refine op_pure (pv_move (v := .slice _ _ _) rfl) ?_
    refine op_pure (pv_len rfl rfl) ?_
    refine op_pure (pv_of (v := .bool _) rfl) ?_
    refine xp_cond rfl (fun hi => ?_) (fun hi => ?_)
    · skip
      have hil : i < l.length := ltI hi
      have hgd : l.getD i 0 = l[i] := by rw [List.getD_eq_getElem?_getD, List.getElem?_eq_getElem hil]; rfl
      obtain ⟨g, off, hB, hcB⟩ := (RB.ext (Ext.trans E1 E_i)).at (by omega) hil
      refine xp_skip ?_
      refine xp_seq ?_
      refine xp_block ?_
      refine xp_seq ?_
      refine xp_seq ?_
      refine xp_dw [] rfl rfl rfl ?_
      refine dw_pure (i := 0) rfl (by decide +kernel) (pv_move (v := .slice _ _ _) rfl) ?_
      refine dw_pure (i := 1) rfl (by decide +kernel) (pv_move (v := .int .i64 _) rfl) ?_
      refine dw_pure (i := 2) rfl (by decide +kernel) (pv_indexE rfl hB rfl rfl rfl (by omega) (by omega)) ?_
      refine dw_load (i := 3) rfl (by decide +kernel) ?_
      refine op_load (v := .int .i64 _) rfl rfl ((hcB) 0 _ rfl) ?_
      refine dw_pure (i := 4) rfl (by decide +kernel) (pv_fieldAddr rfl rfl rfl rfl 0 rfl) ?_
      refine dw_load (i := 5) rfl (by decide +kernel) ?_
      refine op_loadP 0 (v := .slice _ _ _) rfl rfl rfl rfl ?_
      refine dw_pure (i := 6) rfl (by decide +kernel) (pv_len rfl rfl) ?_
      refine dw_pure (i := 7) rfl (by decide +kernel) (pv_arith rfl (by omega)) ?_
      refine dw_last (i := 8) rfl (by decide +kernel) (by decide +kernel) ?_
      refine op_fn (caps := []) (vs := [.int .i64 _, .int .i64 _, .int .i64 _]) rfl rfl rfl (rWithin_ok _ _ _ h_i) ?_
      rintro _ h3 E3 rfl
      refine dw_pure (i := 9) rfl (by decide +kernel) (pv_of (v := .bool _) rfl) ?_
      refine dw_end rfl ?_
      refine xp_cond rfl (fun ht => ?_) (fun ht => ?_)
      · skip
        have hb : inM l[i] 0 ((s.heats.length : Int) - 1) = false := by simpa using ht
        have hE : lookE s.heats.length l i = 1 := by unfold lookE; rw [hgd, hb]; rfl
        have he : unseenE s l = 1 := by rw [unseenE, known1, if_neg (by simp [hc']), looks_stop hil K2 (by rw [hE]; decide), hE]; rfl
        refine xp_seq ?_
        refine xp_region rfl ?_
        refine op_pure (pv_assign (v := .int .i64 _) rfl) ?_
        refine op_pure (pv_assign (v := .int .i64 _) rfl) ?_
        refine xp_ret ?_
        refine res_list (vs := [_, _]) Try.results41 ⟨resV_tmp rfl rfl, resV_tmp rfl rfl, trivial⟩ fun V => ?_
        exact ⟨(Ext.trans (Ext.trans (Ext.trans E1 E_i) E3) (ext_wl V)), by rw [unseenV, if_neg (by rw [he]; decide), he]; rfl⟩
      · skip
        have hb : inM l[i] 0 ((s.heats.length : Int) - 1) = true := by simpa using ht
        rcases Nat.eq_zero_or_pos i with h0 | h0
        · skip
          subst h0
          have hE : lookE s.heats.length l 0 = 0 := by unfold lookE; rw [hgd, hb]; rfl
          refine xp_skip ?_
          refine xp_seq ?_
          refine xp_dw [] rfl rfl rfl ?_
          refine dw_pure (i := 0) rfl (by decide +kernel) (pv_move (v := .int .i64 _) rfl) ?_
          refine dw_pure (i := 1) rfl (by decide +kernel) (pv_of (v := .bool _) rfl) ?_
          refine dw_pure (i := 2) rfl (by decide +kernel) (pv_move (v := .bool _) rfl) ?_
          refine dw_skip (i := 3) rfl (by decide +kernel) rfl rfl ?_
          refine dw_skip (i := 4) rfl (by decide +kernel) rfl rfl ?_
          refine dw_skip (i := 5) rfl (by decide +kernel) rfl rfl ?_
          refine dw_skip (i := 6) rfl (by decide +kernel) rfl rfl ?_
          refine dw_skip (i := 7) rfl (by decide +kernel) rfl rfl ?_
          refine dw_skip (i := 8) rfl (by decide +kernel) rfl rfl ?_
          refine dw_skip (i := 9) rfl (by decide +kernel) rfl rfl ?_
          refine dw_skip (i := 10) rfl (by decide +kernel) rfl rfl ?_
          refine dw_skip (i := 11) rfl (by decide +kernel) rfl rfl ?_
          refine dw_skip (i := 12) rfl (by decide +kernel) rfl rfl ?_
          refine dw_pure (i := 13) rfl (by decide +kernel) (pv_pickF rfl rfl (v := .bool _) rfl) ?_
          refine dw_end rfl ?_
          refine xp_condF rfl (rfl) ?_
          refine xp_skip ?_
          refine xp_region rfl ?_
          refine op_pure (pv_move (v := .int .i64 _) rfl) ?_
          refine op_pure (pv_arith rfl (by omega)) ?_
          refine op_pure (pv_assign (v := .int .i64 _) rfl) ?_
          refine ⟨0 + 1, ⟨rfl, trivial⟩, rfl, rfl, (Ext.trans E_i E3), fun h3 E3 => ⟨hil, looks_go hil K2 hE⟩, by first | omega | (dsimp only; omega), ?_⟩
          repeat (first | exact off_base _ _ _ | refine off_upd (by decide) ?_ | refine off_updL rfl ?_ | refine off_mix rfl ?_)
        · skip
          have hpos : decide ((i : Int) > 0) = true := decide_eq_true (by omega)
          have hil1 : i - 1 < l.length := by omega
          have hgd1 : l.getD (i - 1) 0 = l[i - 1] := by rw [List.getD_eq_getElem?_getD, List.getElem?_eq_getElem hil1]; rfl
          obtain ⟨g1, off1, hB1, hcB1⟩ := (RB.ext (Ext.trans (Ext.trans E1 E_i) E3)).at (by omega) hil1
          have hsub : (i : Int) - 1 = ((i - 1 : Nat) : Int) := by omega
          refine xp_skip ?_
          refine xp_seq ?_
          refine xp_dw [] rfl rfl rfl ?_
          refine dw_pure (i := 0) rfl (by decide +kernel) (pv_move (v := .int .i64 _) rfl) ?_
          refine dw_pure (i := 1) rfl (by decide +kernel) (pv_of (v := .bool _) rfl) ?_
          refine dw_pure (i := 2) rfl (by decide +kernel) (pv_move (v := .bool _) rfl) ?_
          refine dw_pureG (i := 3) rfl (by decide +kernel) rfl hpos (pv_move (v := .slice _ _ _) rfl) ?_
          refine dw_pureG (i := 4) rfl (by decide +kernel) rfl hpos (pv_move (v := .int .i64 _) rfl) ?_
          refine dw_pureG (i := 5) rfl (by decide +kernel) rfl hpos (pv_indexE rfl hB rfl rfl rfl (by omega) (by omega)) ?_
          refine dw_loadG (i := 6) rfl (by decide +kernel) rfl hpos ?_
          refine op_load (v := .int .i64 _) rfl rfl ((hcB.ext E3) 0 _ rfl) ?_
          refine dw_pureG (i := 7) rfl (by decide +kernel) rfl hpos (pv_move (v := .slice _ _ _) rfl) ?_
          refine dw_pureG (i := 8) rfl (by decide +kernel) rfl hpos (pv_move (v := .int .i64 _) rfl) ?_
          refine dw_pureG (i := 9) rfl (by decide +kernel) rfl hpos (pv_arith rfl (by omega)) ?_
          rw [hsub]
          refine dw_pureG (i := 10) rfl (by decide +kernel) rfl hpos (pv_indexE rfl hB1 rfl rfl rfl (by omega) (by omega)) ?_
          refine dw_loadG (i := 11) rfl (by decide +kernel) rfl hpos ?_
          refine op_load (v := .int .i64 _) rfl rfl ((hcB1) 0 _ rfl) ?_
          refine dw_pureG (i := 12) rfl (by decide +kernel) rfl hpos (pv_of (v := .bool _) rfl) ?_
          refine dw_pure (i := 13) rfl (by decide +kernel) (pv_pickT rfl hpos (v := .bool _) rfl) ?_
          refine dw_end rfl ?_
          refine xp_cond rfl (fun hle => ?_) (fun hle => ?_)
          · skip
            have hle' : l[i] ≤ l[i - 1] := by simpa [hpos] using hle
            have hE : lookE s.heats.length l i = 5 := by unfold lookE; rw [hgd, hgd1, hb, if_neg (by simp), if_pos ⟨h0, hle'⟩]
            have he : unseenE s l = 5 := by rw [unseenE, known1, if_neg (by simp [hc']), looks_stop hil K2 (by rw [hE]; decide), hE]; rfl
            refine xp_seq ?_
            refine xp_region rfl ?_
            refine op_pure (pv_assign (v := .int .i64 _) rfl) ?_
            refine op_pure (pv_assign (v := .int .i64 _) rfl) ?_
            refine xp_ret ?_
            refine res_list (vs := [_, _]) Try.results41 ⟨resV_tmp rfl rfl, resV_tmp rfl rfl, trivial⟩ fun V => ?_
            exact ⟨(Ext.trans (Ext.trans (Ext.trans E1 E_i) E3) (ext_wl V)), by rw [unseenV, if_neg (by rw [he]; decide), he]; rfl⟩
          · skip
            have hle' : ¬ l[i] ≤ l[i - 1] := by simpa [hpos] using hle
            have hE : lookE s.heats.length l i = 0 := by unfold lookE; rw [hgd, hgd1, hb, if_neg (by simp), if_neg (fun e => hle' e.2)]
            refine xp_skip ?_
            refine xp_region rfl ?_
            refine op_pure (pv_move (v := .int .i64 _) rfl) ?_
            refine op_pure (pv_arith rfl (by omega)) ?_
            refine op_pure (pv_assign (v := .int .i64 _) rfl) ?_
            refine ⟨i + 1, ⟨rfl, trivial⟩, rfl, rfl, (Ext.trans E_i E3), fun h3 E3 => ⟨hil, looks_go hil K2 hE⟩, by first | omega | (dsimp only; omega), ?_⟩
            repeat (first | exact off_base _ _ _ | refine off_upd (by decide) ?_ | refine off_updL rfl ?_ | refine off_mix rfl ?_)
    · skip
      have hie : i = l.length := by have := geI hi; omega
      subst hie
      have hL : looksM s.heats.length l = 0 := by rw [List.take_of_length_le (by simp)] at K2; exact K2
      obtain ⟨ha1, ha2⟩ := asc_looks hL
      refine xp_exit ?_
      refine xp_seq ?_
      refine xp_seq ?_
      refine xp_region rfl ?_
      refine op_loadPA 0 (vs := [.slice _ _ _, .slice _ _ _, .slice _ _ _, .slice _ _ _]) rfl rfl rfl rfl rfl ?_
      refine op_fn (caps := []) (vs := [.agg #[.slice _ _ _, .slice _ _ _, .slice _ _ _, .slice _ _ _]]) rfl rfl rfl (rMay_ok s SV A0 A1 A2 A3 c0 c1 c2 c3 h_i (R.ext (Ext.trans E1 E_i))) ?_
      rintro _ h4 E4 rfl
      refine op_pure (pv_of (v := .bool _) rfl) ?_
      refine xp_cond rfl (fun hm => ?_) (fun hm => ?_)
      · skip
        have hm' : mayM s = false := by simpa using hm
        have he : unseenE s l = 9 := by rw [unseenE, known1, if_neg (by simp [hc']), hL, hm']; rfl
        refine xp_seq ?_
        refine xp_region rfl ?_
        refine op_pure (pv_assign (v := .int .i64 _) rfl) ?_
        refine op_pure (pv_assign (v := .int .i64 _) rfl) ?_
        refine xp_ret ?_
        refine res_list (vs := [_, _]) Try.results41 ⟨resV_tmp rfl rfl, resV_tmp rfl rfl, trivial⟩ fun V => ?_
        exact ⟨(Ext.trans (Ext.trans (Ext.trans E1 E_i) E4) (ext_wl V)), by rw [unseenV, if_neg (by rw [he]; decide), he]; rfl⟩
      · skip
        have hm' : mayM s = true := by simpa using hm
        have he : unseenE s l = 0 := by rw [unseenE, known1, if_neg (by simp [hc']), hL, hm']; rfl
        have hfl : (listM (failingM s)).length ≤ 7 := listN_len _ _
        refine xp_skip ?_
        refine xp_seq ?_
        refine xp_dw [] rfl rfl rfl ?_
        refine dw_load (i := 0) rfl (by decide +kernel) ?_
        refine op_loadPA 0 (vs := [.slice _ _ _, .slice _ _ _, .slice _ _ _, .slice _ _ _]) rfl rfl rfl rfl rfl ?_
        refine dw_pure (i := 2) rfl (by decide +kernel) (pv_move (v := .slice _ _ _) rfl) ?_
        refine dw_pure (i := 3) rfl (by decide +kernel) (pv_fieldAddr rfl rfl rfl rfl 0 rfl) ?_
        refine dw_load (i := 4) rfl (by decide +kernel) ?_
        refine op_loadP 0 (v := .slice _ _ _) rfl rfl rfl rfl ?_
        refine dw_pure (i := 5) rfl (by decide +kernel) (pv_len rfl rfl) ?_
        refine dw_pure (i := 6) rfl (by decide +kernel) (pv_arith rfl (by omega)) ?_
        refine dw_eff (i := 1) rfl (by decide +kernel) ?_
        refine op_fn (caps := []) (vs := [.agg #[.slice _ _ _, .slice _ _ _, .slice _ _ _, .slice _ _ _]]) rfl rfl rfl (rDangers_ok s SV A0 A1 A2 A3 c0 c1 c2 c3 h4 (R.ext (Ext.trans (Ext.trans E1 E_i) E4))) ?_
        rintro _ h5 E5 ⟨BD, cD, rfl, RD⟩
        refine ⟨ext_wlm E5 _, ?_⟩
        refine dw_last (i := 7) rfl (by decide +kernel) (by decide +kernel) ?_
        refine op_fn (caps := []) (vs := [.slice _ _ _, .slice _ _ _, .int .i64 _]) rfl rfl rfl (rUnseen0_ok (listM (failingM s)) l ((s.heats.length : Int) - 1) (by omega) (fun d hd => by have := failing_bd hw1 hd; omega) (fun x hx => by have := ha1 x hx; omega) (by omega) (by omega) BD B cD cB h5 (RD.ext (Ext.refl _)) (RB.ext (Ext.trans (Ext.trans (Ext.trans E1 E_i) E4) E5))) ?_
        rintro _ h6 E6 rfl
        have hU : unseenR (((s.heats.length : Int) - 1) + 1) (listM (failingM s)) l = unseenV s l := by
          rw [show ((s.heats.length : Int) - 1) + 1 = s.heats.length from by omega, unseenR_eq (by omega) (fun x hx => by have := ha1 x hx; omega) ha2, unseenV, if_pos he]
        rw [hU]
        refine dw_pure (i := 8) rfl (by decide +kernel) (pv_assign (v := .int .i64 _) rfl) ?_
        refine dw_pure (i := 9) rfl (by decide +kernel) (pv_assign (v := .int .i64 _) rfl) ?_
        refine dw_end rfl ?_
        refine xp_ret ?_
        refine res_list (vs := [_, _]) Try.results41 ⟨resV_tmp rfl rfl, resV_tmp rfl rfl, trivial⟩ fun V => ?_
        exact ⟨(Ext.trans (Ext.trans (Ext.trans (Ext.trans (Ext.trans E1 E_i) E4) E5) E6) (ext_wl V)), by rw [he]; rfl⟩
end Go.Proofs.Ytndfkbapoinmkaa
/- Walks: a report more, and how much warmer it may be (the reference). Conditions: as each theorem states. -/
namespace Go.Proofs.Ytndfkbapoinmkaa
open Go Go.HL Go.Proofs Go.Wx
set_option maxRecDepth 100000
end Go.Proofs.Ytndfkbapoinmkaa
/- Walks: another weather (the reference). Conditions: as each theorem states. -/
namespace Go.Proofs.Ytndfkbapoinmkaa
open Go Go.HL Go.Proofs Go.Wx
set_option maxRecDepth 100000
end Go.Proofs.Ytndfkbapoinmkaa
/- Plain: least and greatest weeks, and what comes first, as the reference reckons it. Conditions: as each theorem states. -/
namespace Go.Proofs.Ytndfkbapoinmkaa
open Go Go.HL Go.Proofs Go.Wx
section
variable {l : List Fl} (h0 : l ≠ []) (h6 : ∀ y ∈ l, y.week ≤ 6)
include h0 h6
end
section
variable {s : Season} (SV : SeasonV s) {x y : List Int} (hx : x ∈ rSk s 1) (hy : y ∈ rSk s 2)
include SV
include hx hy
end
end Go.Proofs.Ytndfkbapoinmkaa
/- Walks: the weather of a season, and the weeks of joints (the reference). Conditions: as each theorem states. -/
namespace Go.Proofs.Ytndfkbapoinmkaa
open Go Go.HL Go.Proofs Go.Wx
set_option maxRecDepth 100000
end Go.Proofs.Ytndfkbapoinmkaa
/- Walks: the weeks of joints with a weather for each kind (the reference). Conditions: as each theorem states. -/
namespace Go.Proofs.Ytndfkbapoinmkaa
open Go Go.HL Go.Proofs Go.Wx
set_option maxRecDepth 100000
end Go.Proofs.Ytndfkbapoinmkaa
/- Walks: which joints can fail first (the reference). Conditions: as each theorem states. -/
namespace Go.Proofs.Ytndfkbapoinmkaa
open Go Go.HL Go.Proofs Go.Wx
set_option maxRecDepth 100000
end Go.Proofs.Ytndfkbapoinmkaa
/- Walks: how many joints are sound (the reference). Conditions: as each theorem states. -/
namespace Go.Proofs.Ytndfkbapoinmkaa
open Go Go.HL Go.Proofs Go.Wx
set_option maxRecDepth 100000
end Go.Proofs.Ytndfkbapoinmkaa
/- Walks: the law on what truly is so. Conditions: as each theorem states. -/
namespace Go.Proofs.Ytndfkbapoinmkaa
open Go Go.HL Go.Proofs Go.Wx Go.RowKit
set_option maxRecDepth 100000
end Go.Proofs.Ytndfkbapoinmkaa
/- Walks: the law on what is known better. Conditions: as each theorem states. -/
namespace Go.Proofs.Ytndfkbapoinmkaa
open Go Go.HL Go.Proofs Go.Wx Go.RowKit
set_option maxRecDepth 100000
structure BetA where
  y : Nat
  xs : Season
  X0 : Option Addr
  X1 : Option Addr
  X2 : Option Addr
  X3 : Option Addr
  k0 : Nat
  k1 : Nat
  k2 : Nat
  k3 : Nat
end Go.Proofs.Ytndfkbapoinmkaa
/- Walks: which seasons are gone through; a season copied. Conditions: as each theorem states. -/
namespace Go.Proofs.Ytndfkbapoinmkaa
open Go Go.HL Go.Proofs Go.Wx
set_option maxRecDepth 100000
set_option maxHeartbeats 1000000 in
theorem CopySeasonT_ok (s : Season) (A0 A1 A2 A3 : Option Addr) (c0 c1 c2 c3 : Nat) (h : AH) (R : SeasonR h A0 A1 A2 A3 s) (h0 : s.heats.length < 2 ^ 20) (h1 : s.damps.length < 2 ^ 20) (h2 : s.joints.length < 2 ^ 20) (h3 : s.reports.length < 2 ^ 20) :
    FnT Try.prog 23 #[seasonV A0 A1 A2 A3 c0 c1 c2 c3 s] h (fun v h' => SeasonS h' s v) := by
  refine call_body Try.func23 rfl Try.ntmps23 rfl ?_
  refine xp_seq ?_
  refine xp_region rfl ?_
  refine op_box (v := .agg #[.slice _ _ _, .slice _ _ _, .slice _ _ _, .slice _ _ _]) (cs := [_, _, _, _]) rfl rfl fun b1 hb1 => ?_
  refine wp_norm [_] rfl ?_
  refine op_alloc (cs := [_, _, _, _]) rfl rfl fun b2 hb2 => ?_
  refine wp_norm [_, _] rfl ?_
  refine xp_seq ?_
  refine xp_dw [false, false, true, true, true, true] rfl rfl rfl ?_
  refine dw_pure (i := 0) rfl (by decide +kernel) (pv_fieldAddr rfl rfl rfl rfl 0 rfl) ?_
  refine dw_load (i := 1) rfl (by decide +kernel) ?_
  refine op_loadP 0 (v := .slice _ _ _) rfl rfl rfl rfl ?_
  refine dw_pure (i := 3) rfl (by decide +kernel) (pv_fieldAddr rfl rfl rfl rfl 1 rfl) ?_
  refine dw_load (i := 4) rfl (by decide +kernel) ?_
  refine op_loadP 0 (v := .slice _ _ _) rfl rfl rfl rfl ?_
  refine dw_pure (i := 7) rfl (by decide +kernel) (pv_fieldAddr rfl rfl rfl rfl 2 rfl) ?_
  refine dw_load (i := 8) rfl (by decide +kernel) ?_
  refine op_loadP 0 (v := .slice _ _ _) rfl rfl rfl rfl ?_
  refine dw_pure (i := 11) rfl (by decide +kernel) (pv_fieldAddr rfl rfl rfl rfl 3 rfl) ?_
  refine dw_load (i := 12) rfl (by decide +kernel) ?_
  refine op_loadP 0 (v := .slice _ _ _) rfl rfl rfl rfl ?_
  refine dw_eff (i := 2) rfl (by decide +kernel) ?_
  refine op_fnMM [_, _] [] [] rfl rfl rfl (Ranges_ok s.heats A0 c0 h (R.heats.ext (Ext.refl _)) h0) ?_
  rintro _ g0 _ G0 ⟨a0, rfl, rfl, ha0⟩
  refine ⟨ext_wlm G0 _, ?_⟩
  refine dw_norm [_, _, _] rfl ?_
  refine dw_pure (i := 14) rfl (by decide +kernel) (pv_fieldAddr rfl rfl rfl rfl 0 rfl) ?_
  refine dw_eff (i := 5) rfl (by decide +kernel) ?_
  refine op_fnMM [_, _, _] [] [] rfl rfl rfl (Ranges_ok s.damps A1 c1 g0 (R.damps.ext G0) h1) ?_
  rintro _ g1 _ G1 ⟨a1, rfl, rfl, ha1⟩
  refine ⟨ext_wlm G1 _, ?_⟩
  refine dw_norm [_, _, _, _] rfl ?_
  refine dw_eff (i := 6) rfl (by decide +kernel) ?_
  refine op_buildSlice (zc := [_, _, _, _, _, _, _, _, _]) (vs := []) (cs := []) rfl rfl rfl rfl rfl rfl rfl fun b9 hb9 => ?_
  refine ⟨ext_newM hb9 _, ?_⟩
  refine dw_norm [_, _, _, _, _] rfl ?_
  refine dw_eff (i := 9) rfl (by decide +kernel) ?_
  refine op_appendR 4 accR_new rfl rfl rfl (fun V => R.joints.2.ext (Ext.trans (Ext.trans G0 G1) (ext_wl V))) (flat_len R.joints.1) (flat_plain jointP s.joints) rfl rfl rfl rfl rfl rfl rfl (by omega) rfl (by rw [flat_len R.joints.1, List.length_nil]; omega) fun a2 h1a E1a ha2 => ?_
  refine ⟨ext_wlm E1a _, ?_⟩
  refine dw_norm [_, _, _, _, _] rfl ?_
  refine dw_eff (i := 10) rfl (by decide +kernel) ?_
  refine op_buildSlice (zc := [_, _, _]) (vs := []) (cs := []) rfl rfl rfl rfl rfl rfl rfl fun b13 hb13 => ?_
  refine ⟨ext_newM hb13 _, ?_⟩
  refine dw_norm [_, _, _, _, _, _] rfl ?_
  refine dw_last (i := 13) rfl (by decide +kernel) (by decide +kernel) ?_
  refine op_appendR 5 accR_new rfl rfl rfl (fun V => R.reports.2.ext (Ext.trans (Ext.trans (Ext.trans G0 G1) E1a) (ext_wl V))) (flat_len R.reports.1) (flat_plain seenP s.reports) rfl rfl rfl rfl rfl rfl rfl (by omega) rfl (by rw [flat_len R.reports.1, List.length_nil]; omega) fun a3 h2a E2a ha3 => ?_
  refine dw_norm [_, _, _, _, _, _] rfl ?_
  refine dw_last (i := 15) rfl (by decide +kernel) (by decide +kernel) ?_
  refine op_storeP 0 (v := .slice _ _ _) (vs := [_]) (c' := [_, _, _, _]) rfl rfl rfl rfl rfl rfl rfl rfl rfl ?_
  refine dw_norm [_, _, _, _, _, _] rfl ?_
  refine dw_pure (i := 16) rfl (by decide +kernel) (pv_fieldAddr rfl rfl rfl rfl 1 rfl) ?_
  refine dw_last (i := 17) rfl (by decide +kernel) (by decide +kernel) ?_
  refine op_storeP 0 (v := .slice _ _ _) (vs := [_]) (c' := [_, _, _, _]) rfl rfl rfl rfl rfl rfl rfl rfl rfl ?_
  refine dw_norm [_, _, _, _, _, _] rfl ?_
  refine dw_pure (i := 18) rfl (by decide +kernel) (pv_fieldAddr rfl rfl rfl rfl 2 rfl) ?_
  refine dw_last (i := 19) rfl (by decide +kernel) (by decide +kernel) ?_
  refine op_storeP 0 (v := .slice _ _ _) (vs := [_]) (c' := [_, _, _, _]) rfl rfl rfl rfl rfl rfl rfl rfl rfl ?_
  refine dw_norm [_, _, _, _, _, _] rfl ?_
  refine dw_pure (i := 20) rfl (by decide +kernel) (pv_fieldAddr rfl rfl rfl rfl 3 rfl) ?_
  refine dw_last (i := 21) rfl (by decide +kernel) (by decide +kernel) ?_
  refine op_storeP 0 (v := .slice _ _ _) (vs := [_]) (c' := [_, _, _, _]) rfl rfl rfl rfl rfl rfl rfl rfl rfl ?_
  refine dw_norm [_, _, _, _, _, _] rfl ?_
  refine dw_end rfl ?_
  refine xp_seq ?_
  refine xp_region rfl ?_
  refine op_loadPA 0 (vs := [.slice _ _ _, .slice _ _ _, .slice _ _ _, .slice _ _ _]) rfl rfl rfl rfl rfl ?_
  refine op_storeP 1 (v := .agg #[.slice _ _ _, .slice _ _ _, .slice _ _ _, .slice _ _ _]) (vs := [_, _, _, _]) (c' := [_, _, _, _]) rfl rfl rfl rfl rfl rfl rfl rfl rfl ?_
  refine wp_norm [_, _, _, _, _, _] rfl ?_
  rw [List.nil_append] at ha2 ha3
  refine goes_pubO 2 rfl ?_
  intro k0 K0 P0
  refine goes_norm [_, _, _, _, _, _] rfl ?_
  refine goes_pubO 3 rfl ?_
  intro k1 K1 P1
  refine goes_norm [_, _, _, _, _, _] rfl ?_
  refine goes_pubO 4 rfl ?_
  intro k2 K2 P2
  refine goes_norm [_, _, _, _, _, _] rfl ?_
  refine goes_pubO 5 rfl ?_
  intro k3 K3 P3
  refine goes_norm [_, _, _, _, _, _] rfl ?_
  have n0 : a0.n = s.heats.length := by have := AccR.len ha0; rw [flat_len (m := 2) (fun _ _ => rfl)] at this; omega
  have n1 : a1.n = s.damps.length := by have := AccR.len ha1; rw [flat_len (m := 2) (fun _ _ => rfl)] at this; omega
  have n2 : a2.n = s.joints.length := by have := AccR.len ha2; rw [flat_len (m := 9) (fun _ _ => rfl)] at this; omega
  have n3 : a3.n = s.reports.length := by have := AccR.len ha3; rw [flat_len (m := 3) (fun _ _ => rfl)] at this; omega
  refine xp_ret ?_
  refine res_list (vs := [_]) Try.results23 ⟨resV_agg 1 rfl rfl rfl rfl rfl (vs := [.slice _ _ _, .slice _ _ _, .slice _ _ _, .slice _ _ _]) rfl, trivial⟩ fun V => ?_
  refine ⟨(Ext.trans (Ext.trans (Ext.trans (Ext.trans (Ext.trans (Ext.trans (Ext.trans (Ext.trans G0 G1) E1a) E2a) K0) K1) K2) K3) (ext_wl V)), a0.A, a1.A, a2.A, a3.A, a0.c, a1.c, a2.c, a3.c, ?_, ⟨⟨fun _ _ => rfl, (AccR.rd ha0 P0).ext (Ext.trans (Ext.trans (Ext.trans K1 K2) K3) (ext_wl V))⟩, ⟨fun _ _ => rfl, (AccR.rd ha1 P1).ext (Ext.trans (Ext.trans K2 K3) (ext_wl V))⟩, ⟨fun _ _ => rfl, (AccR.rd ha2 P2).ext (Ext.trans K3 (ext_wl V))⟩, ⟨fun _ _ => rfl, (AccR.rd ha3 P3).ext (ext_wl V)⟩⟩⟩
  unfold seasonV
  rw [← n0, ← n1, ← n2, ← n3]
  rfl
theorem many_ok (s : Season) (A0 A1 A2 A3 : Option Addr) (c0 c1 c2 c3 : Nat) (h : AH) :
    FnT Try.prog 71 #[seasonV A0 A1 A2 A3 c0 c1 c2 c3 s] h (fun v _ => ∃ b, v = .bool b ∧ (b = false → s.heats.length ≤ 20 ∧ s.damps.length ≤ 20 ∧ s.joints.length ≤ 20 ∧ s.reports.length ≤ 20)) := by
  refine call_body Try.func71 rfl Try.ntmps71 rfl ?_
  refine xp_seq ?_
  refine xp_region rfl ?_
  refine op_box (v := .agg #[.slice _ _ _, .slice _ _ _, .slice _ _ _, .slice _ _ _]) (cs := [_, _, _, _]) rfl rfl fun b1 hb1 => ?_
  refine wp_norm [_] rfl ?_
  refine op_pure (pv_assign (v := .bool _) rfl) ?_
  refine xp_seq ?_
  refine xp_region rfl ?_
  refine op_pure (pv_fieldAddr rfl rfl rfl rfl 0 rfl) ?_
  refine op_loadP 0 (v := .slice _ _ _) rfl rfl rfl rfl ?_
  refine op_pure (pv_len rfl rfl) ?_
  refine op_pure (pv_of (v := .bool _) rfl) ?_
  refine op_pure (pv_move (v := .bool _) rfl) ?_
  rcases Bool.eq_false_or_eq_true (decide ((s.heats.length : Int) > 20)) with e1 | e1
  · skip
    refine guard_no rfl e1 ?_
    refine guard_no rfl e1 ?_
    refine guard_no rfl e1 ?_
    refine guard_no rfl e1 ?_
    refine op_pure (pv_pickT rfl e1 (v := .bool _) rfl) ?_
    refine op_pure (pv_move (v := .bool _) rfl) ?_
    refine guard_no rfl rfl ?_
    refine guard_no rfl rfl ?_
    refine guard_no rfl rfl ?_
    refine guard_no rfl rfl ?_
    refine op_pure (pv_pickT rfl rfl (v := .bool _) rfl) ?_
    refine op_pure (pv_move (v := .bool _) rfl) ?_
    refine guard_no rfl rfl ?_
    refine guard_no rfl rfl ?_
    refine guard_no rfl rfl ?_
    refine guard_no rfl rfl ?_
    refine op_pure (pv_pickT rfl rfl (v := .bool _) rfl) ?_
    refine op_pure (pv_assign (v := .bool _) rfl) ?_
    refine xp_ret ?_
    refine res_list (vs := [_]) Try.results71 ⟨resV_tmp rfl rfl, trivial⟩ fun V => ?_
    exact ⟨(ext_wl V), true, rfl, fun h => by cases h⟩
  · skip
    refine guard_yes rfl e1 ?_
    refine op_pure (pv_fieldAddr rfl rfl rfl rfl 1 rfl) ?_
    refine guard_yes rfl e1 ?_
    refine op_loadP 0 (v := .slice _ _ _) rfl rfl rfl rfl ?_
    refine guard_yes rfl e1 ?_
    refine op_pure (pv_len rfl rfl) ?_
    refine guard_yes rfl e1 ?_
    refine op_pure (pv_of (v := .bool _) rfl) ?_
    refine op_pure (pv_pickF rfl e1 (v := .bool _) rfl) ?_
    refine op_pure (pv_move (v := .bool _) rfl) ?_
    rcases Bool.eq_false_or_eq_true (decide ((s.damps.length : Int) > 20)) with e2 | e2
    · skip
      refine guard_no rfl e2 ?_
      refine guard_no rfl e2 ?_
      refine guard_no rfl e2 ?_
      refine guard_no rfl e2 ?_
      refine op_pure (pv_pickT rfl e2 (v := .bool _) rfl) ?_
      refine op_pure (pv_move (v := .bool _) rfl) ?_
      refine guard_no rfl rfl ?_
      refine guard_no rfl rfl ?_
      refine guard_no rfl rfl ?_
      refine guard_no rfl rfl ?_
      refine op_pure (pv_pickT rfl rfl (v := .bool _) rfl) ?_
      refine op_pure (pv_assign (v := .bool _) rfl) ?_
      refine xp_ret ?_
      refine res_list (vs := [_]) Try.results71 ⟨resV_tmp rfl rfl, trivial⟩ fun V => ?_
      exact ⟨(ext_wl V), true, rfl, fun h => by cases h⟩
    · skip
      refine guard_yes rfl e2 ?_
      refine op_pure (pv_fieldAddr rfl rfl rfl rfl 2 rfl) ?_
      refine guard_yes rfl e2 ?_
      refine op_loadP 0 (v := .slice _ _ _) rfl rfl rfl rfl ?_
      refine guard_yes rfl e2 ?_
      refine op_pure (pv_len rfl rfl) ?_
      refine guard_yes rfl e2 ?_
      refine op_pure (pv_of (v := .bool _) rfl) ?_
      refine op_pure (pv_pickF rfl e2 (v := .bool _) rfl) ?_
      refine op_pure (pv_move (v := .bool _) rfl) ?_
      rcases Bool.eq_false_or_eq_true (decide ((s.joints.length : Int) > 20)) with e3 | e3
      · skip
        refine guard_no rfl e3 ?_
        refine guard_no rfl e3 ?_
        refine guard_no rfl e3 ?_
        refine guard_no rfl e3 ?_
        refine op_pure (pv_pickT rfl e3 (v := .bool _) rfl) ?_
        refine op_pure (pv_assign (v := .bool _) rfl) ?_
        refine xp_ret ?_
        refine res_list (vs := [_]) Try.results71 ⟨resV_tmp rfl rfl, trivial⟩ fun V => ?_
        exact ⟨(ext_wl V), true, rfl, fun h => by cases h⟩
      · skip
        refine guard_yes rfl e3 ?_
        refine op_pure (pv_fieldAddr rfl rfl rfl rfl 3 rfl) ?_
        refine guard_yes rfl e3 ?_
        refine op_loadP 0 (v := .slice _ _ _) rfl rfl rfl rfl ?_
        refine guard_yes rfl e3 ?_
        refine op_pure (pv_len rfl rfl) ?_
        refine guard_yes rfl e3 ?_
        refine op_pure (pv_of (v := .bool _) rfl) ?_
        refine op_pure (pv_pickF rfl e3 (v := .bool _) rfl) ?_
        refine op_pure (pv_assign (v := .bool _) rfl) ?_
        refine xp_ret ?_
        refine res_list (vs := [_]) Try.results71 ⟨resV_tmp rfl rfl, trivial⟩ fun V => ?_
        refine ⟨(ext_wl V), decide ((s.reports.length : Int) > 20), rfl, fun e4 => ?_⟩
        have := of_decide_eq_false e1
        have := of_decide_eq_false e2
        have := of_decide_eq_false e3
        have := of_decide_eq_false e4
        omega
theorem mul3 {a f A : Int} (ha : 1 ≤ a ∧ a ≤ A) (hf : 1 ≤ f ∧ f ≤ 3) : 1 ≤ a * f ∧ a * f ≤ 3 * A := by
  have : f = 1 ∨ f = 2 ∨ f = 3 := by omega
  rcases this with h | h | h <;> rw [h] <;> omega
theorem mulB {a f A F : Int} (ha : 1 ≤ a ∧ a ≤ A) (hf : 1 ≤ f ∧ f ≤ F) : 1 ≤ a * f ∧ a * f ≤ A * F := by
  constructor
  · have := Int.mul_le_mul ha.1 hf.1 (by omega) (by omega)
    simpa using this
  · exact Int.mul_le_mul ha.2 hf.2 (by omega) (by omega)
set_option maxHeartbeats 4000000 in
theorem vast_ok (s : Season) (A0 A1 A2 A3 : Option Addr) (c0 c1 c2 c3 : Nat) (h : AH) (R : SeasonR h A0 A1 A2 A3 s) :
    FnT Try.prog 18 #[seasonV A0 A1 A2 A3 c0 c1 c2 c3 s] h (fun v _ => ∃ b, v = .bool b ∧ (b = false → s.heats.length ≤ 20 ∧ s.damps.length ≤ 20 ∧ s.joints.length ≤ 20 ∧ s.reports.length ≤ 20)) := by
  refine call_body Try.func18 rfl Try.ntmps18 rfl ?_
  refine xp_seq ?_
  refine xp_region rfl ?_
  refine op_box (v := .agg #[.slice _ _ _, .slice _ _ _, .slice _ _ _, .slice _ _ _]) (cs := [_, _, _, _]) rfl rfl fun b1 hb1 => ?_
  refine wp_norm [_] rfl ?_
  refine op_pure (pv_assign (v := .bool _) rfl) ?_
  refine xp_seq ?_
  refine xp_seq ?_
  refine xp_region rfl ?_
  refine op_loadPA 0 (vs := [.slice _ _ _, .slice _ _ _, .slice _ _ _, .slice _ _ _]) rfl rfl rfl rfl rfl ?_
  refine op_fn (caps := []) (vs := [.agg #[.slice _ _ _, .slice _ _ _, .slice _ _ _, .slice _ _ _]]) rfl rfl rfl (many_ok s A0 A1 A2 A3 c0 c1 c2 c3 h) ?_
  rintro _ h1 E1 ⟨b, rfl, hb⟩
  refine xp_cond rfl (fun ht => ?_) (fun ht => ?_)
  · skip
    refine xp_seq ?_
    refine xp_region rfl ?_
    refine op_pure (pv_assign (v := .bool _) rfl) ?_
    refine xp_ret ?_
    refine res_list (vs := [_]) Try.results18 ⟨resV_tmp rfl rfl, trivial⟩ fun V => ?_
    exact ⟨(Ext.trans E1 (ext_wl V)), true, rfl, fun h => by cases h⟩
  · skip
    have hbl := hb ht
    have Sm : Small s := ⟨by omega, by omega, by omega, by omega⟩
    refine xp_skip ?_
    refine xp_seq ?_
    refine xp_seq ?_
    refine xp_region rfl ?_
    refine op_loadPA 0 (vs := [.slice _ _ _, .slice _ _ _, .slice _ _ _, .slice _ _ _]) rfl rfl rfl rfl rfl ?_
    refine op_fn (caps := []) (vs := [.agg #[.slice _ _ _, .slice _ _ _, .slice _ _ _, .slice _ _ _]]) rfl rfl rfl (rCheck_ok s Sm A0 A1 A2 A3 c0 c1 c2 c3 h1 (R.ext E1)) ?_
    rintro _ h2 E2 rfl
    refine op_pure (pv_of (v := .bool _) rfl) ?_
    refine xp_cond rfl (fun hc => ?_) (fun hc => ?_)
    · skip
      refine xp_seq ?_
      refine xp_region rfl ?_
      refine op_pure (pv_assign (v := .bool _) rfl) ?_
      refine xp_ret ?_
      refine res_list (vs := [_]) Try.results18 ⟨resV_tmp rfl rfl, trivial⟩ fun V => ?_
      exact ⟨(Ext.trans (Ext.trans E1 E2) (ext_wl V)), false, rfl, fun _ => hbl⟩
    · skip
      have hc0 : checkM s = 0 := by simpa using hc
      have C := CheckS.of hc0
      have hdl := C.dl
      have h6 := C.w6
      have hH : ∀ r ∈ s.heats, -50 ≤ r.mn ∧ r.mn ≤ r.mx ∧ r.mx ≤ 100 ∧ r.mx - r.mn ≤ 2 := fun r hr => checkWeather_iff.1 (C.h r hr)
      have hD : ∀ r ∈ s.damps, -50 ≤ r.mn ∧ r.mn ≤ r.mx ∧ r.mx ≤ 100 ∧ r.mx - r.mn ≤ 2 := fun r hr => checkWeather_iff.1 (C.d r hr)
      have hJ : ∀ j ∈ s.joints, JointB j := fun j hj => (checkJointM_zero (C.j j hj)).1
      refine xp_skip ?_
      refine xp_seq ?_
      refine xp_region rfl ?_
      refine op_pure (pv_assign (v := .int .i64 _) rfl) ?_
      refine op_pure (pv_assign (v := .int .i64 _) rfl) ?_
      refine xp_seq ?_
      refine xp_seq ?_
      refine xp_region rfl ?_
      refine op_pure (pv_assign (v := .int .i64 _) rfl) ?_
      refine xp_block ?_
      refine xp_loopB [3, 4, 5, 13, 14, 15, 16, 17, 18, 19, 20, 21, 22, 23, 24, 25, 26, 27, 28, 29, 30, 31, 32, 33, 34, 35, 36, 37, 38, 39, 40, 41, 42, 43, 44, 45, 46, 47, 48, 49, 50, 51] 1 (α := Nat × Int × Int) (fun ⟨w, a, e⟩ => [(3, .int .i64 a), (4, .int .i64 e), (5, .int .i64 w)]) (fun ⟨w, a, e⟩ => _) (fun ⟨w, a, e⟩ h_w => w ≤ s.heats.length ∧ (1 ≤ a ∧ a ≤ ((3 ^ w : Nat) : Int)) ∧ (1 ≤ e ∧ e ≤ ((3 ^ w : Nat) : Int))) (fun ⟨w, a, e⟩ => s.heats.length - w) ((0, 1, 1)) ⟨rfl, rfl, rfl, trivial⟩ (rfl) (⟨Nat.zero_le _, by simp, by simp⟩) ?_
      rintro ⟨w, a, e⟩ T1 h_w E_w J_w
      refine goes_norm [_] rfl ?_
      obtain ⟨K1, K2, K3⟩ := J_w
      have hpw : 3 ^ w ≤ 3 ^ 6 := Nat.pow_le_pow_right (by omega) (by omega)
      have hpw1 : (3 ^ w : Nat) ≤ 729 := hpw
      refine xp_seq ?_
      refine xp_seq ?_
      refine xp_region rfl ?_
      refine op_pure (pv_move (v := .int .i64 _) rfl) ?_
      refine op_pure (pv_fieldAddr rfl rfl rfl rfl 0 rfl) ?_
      refine op_loadP 0 (v := .slice _ _ _) rfl rfl rfl rfl ?_
      refine op_pure (pv_len rfl rfl) ?_
      refine op_pure (pv_of (v := .bool _) rfl) ?_
      refine xp_cond rfl (fun hw => ?_) (fun hw => ?_)
      · skip
        have hwl : w < s.heats.length := ltI hw
        have hwd : w < s.damps.length := by omega
        have b1 := hH _ (List.getElem_mem hwl)
        have b2 := hD _ (List.getElem_mem hwd)
        obtain ⟨g1, o1, hB1, hc1⟩ := (R.heats.ext (Ext.trans (Ext.trans E1 E2) E_w)).at (by omega) hwl
        obtain ⟨g2, o2, hB2, hc2⟩ := (R.damps.ext (Ext.trans (Ext.trans E1 E2) E_w)).at (by omega) hwd
        have m1 := mul3 K2 (f := s.heats[w].mx - s.heats[w].mn + 1) (by omega)
        have m2 := mul3 K3 (f := s.damps[w].mx - s.damps[w].mn + 1) (by omega)
        have hsp : ((3 ^ (w + 1) : Nat) : Int) = 3 * ((3 ^ w : Nat) : Int) := by rw [Nat.pow_succ]; omega
        refine xp_skip ?_
        refine xp_seq ?_
        refine xp_block ?_
        refine xp_dw [] rfl rfl rfl ?_
        refine dw_pure (i := 0) rfl (by decide +kernel) (pv_move (v := .int .i64 _) rfl) ?_
        refine dw_pure (i := 1) rfl (by decide +kernel) (pv_fieldAddr rfl rfl rfl rfl 0 rfl) ?_
        refine dw_load (i := 2) rfl (by decide +kernel) ?_
        refine op_loadP 0 (v := .slice _ _ _) rfl rfl rfl rfl ?_
        refine dw_pure (i := 3) rfl (by decide +kernel) (pv_move (v := .int .i64 _) rfl) ?_
        refine dw_pure (i := 4) rfl (by decide +kernel) (pv_indexE rfl hB1 rfl rfl rfl (by omega) (by omega)) ?_
        refine dw_pure (i := 5) rfl (by decide +kernel) (pv_fieldAddr rfl rfl rfl rfl _ rfl) ?_
        refine dw_load (i := 6) rfl (by decide +kernel) ?_
        refine op_load (v := .int .i64 _) rfl rfl (hc1 1 (.int .i64 s.heats[w].mx) rfl) ?_
        refine dw_pure (i := 7) rfl (by decide +kernel) (pv_fieldAddr rfl rfl rfl rfl 0 rfl) ?_
        refine dw_load (i := 8) rfl (by decide +kernel) ?_
        refine op_loadP 0 (v := .slice _ _ _) rfl rfl rfl rfl ?_
        refine dw_pure (i := 9) rfl (by decide +kernel) (pv_move (v := .int .i64 _) rfl) ?_
        refine dw_pure (i := 10) rfl (by decide +kernel) (pv_indexE rfl hB1 rfl rfl rfl (by omega) (by omega)) ?_
        refine dw_pure (i := 11) rfl (by decide +kernel) (pv_fieldAddr rfl rfl rfl rfl _ rfl) ?_
        refine dw_load (i := 12) rfl (by decide +kernel) ?_
        refine op_load (v := .int .i64 _) rfl rfl (hc1 0 (.int .i64 s.heats[w].mn) rfl) ?_
        refine dw_pure (i := 13) rfl (by decide +kernel) (pv_arith rfl (by omega)) ?_
        refine dw_pure (i := 14) rfl (by decide +kernel) (pv_arith rfl (by omega)) ?_
        refine dw_pure (i := 15) rfl (by decide +kernel) (pv_arith rfl (by omega)) ?_
        refine dw_pure (i := 16) rfl (by decide +kernel) (pv_move (v := .int .i64 _) rfl) ?_
        refine dw_pure (i := 17) rfl (by decide +kernel) (pv_fieldAddr rfl rfl rfl rfl 1 rfl) ?_
        refine dw_load (i := 18) rfl (by decide +kernel) ?_
        refine op_loadP 0 (v := .slice _ _ _) rfl rfl rfl rfl ?_
        refine dw_pure (i := 19) rfl (by decide +kernel) (pv_move (v := .int .i64 _) rfl) ?_
        refine dw_pure (i := 20) rfl (by decide +kernel) (pv_indexE rfl hB2 rfl rfl rfl (by omega) (by omega)) ?_
        refine dw_pure (i := 21) rfl (by decide +kernel) (pv_fieldAddr rfl rfl rfl rfl _ rfl) ?_
        refine dw_load (i := 22) rfl (by decide +kernel) ?_
        refine op_load (v := .int .i64 _) rfl rfl (hc2 1 (.int .i64 s.damps[w].mx) rfl) ?_
        refine dw_pure (i := 23) rfl (by decide +kernel) (pv_fieldAddr rfl rfl rfl rfl 1 rfl) ?_
        refine dw_load (i := 24) rfl (by decide +kernel) ?_
        refine op_loadP 0 (v := .slice _ _ _) rfl rfl rfl rfl ?_
        refine dw_pure (i := 25) rfl (by decide +kernel) (pv_move (v := .int .i64 _) rfl) ?_
        refine dw_pure (i := 26) rfl (by decide +kernel) (pv_indexE rfl hB2 rfl rfl rfl (by omega) (by omega)) ?_
        refine dw_pure (i := 27) rfl (by decide +kernel) (pv_fieldAddr rfl rfl rfl rfl _ rfl) ?_
        refine dw_load (i := 28) rfl (by decide +kernel) ?_
        refine op_load (v := .int .i64 _) rfl rfl (hc2 0 (.int .i64 s.damps[w].mn) rfl) ?_
        refine dw_pure (i := 29) rfl (by decide +kernel) (pv_arith rfl (by omega)) ?_
        refine dw_pure (i := 30) rfl (by decide +kernel) (pv_arith rfl (by omega)) ?_
        refine dw_pure (i := 31) rfl (by decide +kernel) (pv_arith rfl (by omega)) ?_
        refine dw_pure (i := 32) rfl (by decide +kernel) (pv_assign (v := .int .i64 _) rfl) ?_
        refine dw_pure (i := 33) rfl (by decide +kernel) (pv_assign (v := .int .i64 _) rfl) ?_
        refine dw_end rfl ?_
        refine xp_region rfl ?_
        refine op_pure (pv_move (v := .int .i64 _) rfl) ?_
        refine op_pure (pv_arith rfl (by omega)) ?_
        refine op_pure (pv_assign (v := .int .i64 _) rfl) ?_
        refine ⟨(w + 1, a * (s.heats[w].mx - s.heats[w].mn + 1), e * (s.damps[w].mx - s.damps[w].mn + 1)), ⟨rfl, rfl, rfl, trivial⟩, rfl, rfl, E_w, fun h3 E3 => ⟨hwl, by omega, by omega⟩, by first | omega | (dsimp only; omega), ?_⟩
        repeat (first | exact off_base _ _ _ | refine off_upd (by decide) ?_ | refine off_updL rfl ?_ | refine off_mix rfl ?_)
      · skip
        refine xp_exit ?_
        refine xp_seq ?_
        refine xp_seq ?_
        refine xp_region rfl ?_
        refine op_pure (pv_assign (v := .int .i64 _) rfl) ?_
        refine xp_block ?_
        refine xp_loopB [2, 6, 7, 52, 53, 54, 55, 56, 57, 58, 59, 60, 61, 62, 63, 64, 65, 66, 67, 68, 69, 70, 71, 72, 73, 74, 75, 76, 77, 78, 79, 80, 81, 82, 83, 84, 85, 86, 87, 88, 89, 90, 91, 92, 93, 94, 95, 96, 97, 98, 99] 1 (α := Nat) (fun i => [(6, .int .i64 i)]) (fun i => _) (fun i h_i => i ≤ s.joints.length) (fun i => s.joints.length - i) (0) ⟨rfl, trivial⟩ (rfl) (Nat.zero_le _) ?_
        rintro i T2 h_i E_i J_i
        refine goes_norm [_] rfl ?_
        have hjl3 := C.j3
        refine xp_seq ?_
        refine xp_seq ?_
        refine xp_region rfl ?_
        refine op_pure (pv_move (v := .int .i64 _) rfl) ?_
        refine op_pure (pv_fieldAddr rfl rfl rfl rfl 2 rfl) ?_
        refine op_loadP 0 (v := .slice _ _ _) rfl rfl rfl rfl ?_
        refine op_pure (pv_len rfl rfl) ?_
        refine op_pure (pv_of (v := .bool _) rfl) ?_
        refine xp_cond rfl (fun hi => ?_) (fun hi => ?_)
        · skip
          have hil : i < s.joints.length := ltI hi
          obtain ⟨g1, o1, hB1, hc1⟩ := (R.joints.ext (Ext.trans (Ext.trans (Ext.trans E1 E2) E_w) E_i)).at (by omega) hil
          obtain ⟨h1', h2', h3', l1, l2, l3, w1, w2, w3, a1, a2, a3, hwd, lwd⟩ := hJ _ (List.getElem_mem hil)
          generalize s.joints[i] = j at *
          refine xp_skip ?_
          refine xp_seq ?_
          refine xp_block ?_
          refine xp_seq ?_
          refine xp_region rfl ?_
          refine op_pure (pv_fieldAddr rfl rfl rfl rfl 2 rfl) ?_
          refine op_loadP 0 (v := .slice _ _ _) rfl rfl rfl rfl ?_
          refine op_pure (pv_move (v := .int .i64 _) rfl) ?_
          refine op_pure (pv_indexE rfl hB1 rfl rfl rfl (by omega) (by omega)) ?_
          refine op_loadA rfl rfl rfl rfl (hc1) ?_
          refine op_alloc (cs := [_, _, _, _, _, _, _, _, _]) rfl rfl fun b7 hb7 => ?_
          refine wp_norm [_, _] rfl ?_
          refine op_storeP 1 (v := .agg #[.int .i64 _, .int .i64 _, .int .i64 _, .int .i64 _, .int .i64 _, .int .i64 _, .int .i64 _, .int .i64 _, .int .i64 _]) (vs := [_, _, _, _, _, _, _, _, _]) (c' := [_, _, _, _, _, _, _, _, _]) rfl rfl rfl rfl rfl rfl rfl rfl rfl ?_
          refine wp_norm [_, _] rfl ?_
          refine xp_seq ?_
          refine xp_region rfl ?_
          refine op_pure (pv_fieldAddr rfl rfl rfl rfl 1 rfl) ?_
          refine op_pure (pv_fieldAddr rfl rfl rfl rfl 2 rfl) ?_
          refine op_loadP 1 (v := .int .i64 _) rfl rfl rfl rfl ?_
          refine op_pure (pv_fieldAddr rfl rfl rfl rfl 1 rfl) ?_
          refine op_pure (pv_fieldAddr rfl rfl rfl rfl 1 rfl) ?_
          refine op_loadP 1 (v := .int .i64 _) rfl rfl rfl rfl ?_
          refine op_pure (pv_arith rfl (by omega)) ?_
          refine op_pure (pv_arith rfl (by omega)) ?_
          refine op_pure (pv_fieldAddr rfl rfl rfl rfl 3 rfl) ?_
          refine op_pure (pv_fieldAddr rfl rfl rfl rfl 4 rfl) ?_
          refine op_loadP 1 (v := .int .i64 _) rfl rfl rfl rfl ?_
          refine op_pure (pv_fieldAddr rfl rfl rfl rfl 3 rfl) ?_
          refine op_pure (pv_fieldAddr rfl rfl rfl rfl 3 rfl) ?_
          refine op_loadP 1 (v := .int .i64 _) rfl rfl rfl rfl ?_
          refine op_pure (pv_arith rfl (by omega)) ?_
          refine op_pure (pv_arith rfl (by omega)) ?_
          have m1 := mulB (a := j.high.mx - j.high.mn + 1) (f := j.low.mx - j.low.mn + 1) (A := 3) (F := 3) (by omega) (by omega)
          refine op_pure (pv_arith rfl (by omega)) ?_
          refine op_pure (pv_fieldAddr rfl rfl rfl rfl 5 rfl) ?_
          refine op_pure (pv_fieldAddr rfl rfl rfl rfl 6 rfl) ?_
          refine op_loadP 1 (v := .int .i64 _) rfl rfl rfl rfl ?_
          refine op_pure (pv_fieldAddr rfl rfl rfl rfl 5 rfl) ?_
          refine op_pure (pv_fieldAddr rfl rfl rfl rfl 5 rfl) ?_
          refine op_loadP 1 (v := .int .i64 _) rfl rfl rfl rfl ?_
          refine op_pure (pv_arith rfl (by omega)) ?_
          refine op_pure (pv_arith rfl (by omega)) ?_
          have m2 := mulB (a := (j.high.mx - j.high.mn + 1) * (j.low.mx - j.low.mn + 1)) (f := j.weeks.mx - j.weeks.mn + 1) (A := 9) (F := 6) (by omega) (by omega)
          refine op_pure (pv_arith rfl (by omega)) ?_
          refine op_pure (pv_fieldAddr rfl rfl rfl rfl 7 rfl) ?_
          refine op_pure (pv_fieldAddr rfl rfl rfl rfl 8 rfl) ?_
          refine op_loadP 1 (v := .int .i64 _) rfl rfl rfl rfl ?_
          refine op_pure (pv_fieldAddr rfl rfl rfl rfl 7 rfl) ?_
          refine op_pure (pv_fieldAddr rfl rfl rfl rfl 7 rfl) ?_
          refine op_loadP 1 (v := .int .i64 _) rfl rfl rfl rfl ?_
          refine op_pure (pv_arith rfl (by omega)) ?_
          refine op_pure (pv_arith rfl (by omega)) ?_
          have m3 := mulB (a := (j.high.mx - j.high.mn + 1) * (j.low.mx - j.low.mn + 1) * (j.weeks.mx - j.weeks.mn + 1)) (f := j.life.mx - j.life.mn + 1) (A := 54) (F := 10) (by omega) (by omega)
          refine op_pure (pv_arith rfl (by omega)) ?_
          refine op_pure (pv_of (v := .bool _) rfl) ?_
          refine xp_cond rfl (fun hg => ?_) (fun hg => ?_)
          · skip
            refine xp_seq ?_
            refine xp_region rfl ?_
            refine op_pure (pv_assign (v := .bool _) rfl) ?_
            refine xp_ret ?_
            refine res_list (vs := [_]) Try.results18 ⟨resV_tmp rfl rfl, trivial⟩ fun V => ?_
            exact ⟨(Ext.trans (Ext.trans (Ext.trans (Ext.trans E1 E2) E_w) E_i) (ext_wl V)), true, rfl, fun h => by cases h⟩
          · skip
            refine xp_skip ?_
            refine xp_region rfl ?_
            refine op_pure (pv_move (v := .int .i64 _) rfl) ?_
            refine op_pure (pv_arith rfl (by omega)) ?_
            refine op_pure (pv_assign (v := .int .i64 _) rfl) ?_
            refine ⟨i + 1, ⟨rfl, trivial⟩, rfl, rfl, E_i, fun h3 E3 => hil, by first | omega | (dsimp only; omega), ?_⟩
            repeat (first | exact off_base _ _ _ | refine off_upd (by decide) ?_ | refine off_updL rfl ?_ | refine off_mix rfl ?_)
        · skip
          refine xp_exit ?_
          refine xp_seq ?_
          refine xp_region rfl ?_
          refine op_pure (pv_move (v := .int .i64 _) rfl) ?_
          refine op_pure (pv_of (v := .bool _) rfl) ?_
          refine op_pure (pv_move (v := .bool _) rfl) ?_
          rcases Bool.eq_false_or_eq_true (decide (a > 27)) with q1 | q1
          · skip
            refine guard_no rfl q1 ?_
            refine guard_no rfl q1 ?_
            refine op_pure (pv_pickT rfl q1 (v := .bool _) rfl) ?_
            refine op_pure (pv_assign (v := .bool _) rfl) ?_
            refine xp_ret ?_
            refine res_list (vs := [_]) Try.results18 ⟨resV_tmp rfl rfl, trivial⟩ fun V => ?_
            exact ⟨(Ext.trans (Ext.trans (Ext.trans (Ext.trans E1 E2) E_w) E_i) (ext_wl V)), true, rfl, fun h => by cases h⟩
          · skip
            refine guard_yes rfl q1 ?_
            refine op_pure (pv_move (v := .int .i64 _) rfl) ?_
            refine guard_yes rfl q1 ?_
            refine op_pure (pv_of (v := .bool _) rfl) ?_
            refine op_pure (pv_pickF rfl q1 (v := .bool _) rfl) ?_
            refine op_pure (pv_assign (v := .bool _) rfl) ?_
            refine xp_ret ?_
            refine res_list (vs := [_]) Try.results18 ⟨resV_tmp rfl rfl, trivial⟩ fun V => ?_
            exact ⟨(Ext.trans (Ext.trans (Ext.trans (Ext.trans E1 E2) E_w) E_i) (ext_wl V)), decide (e > 27), rfl, fun _ => hbl⟩
end Go.Proofs.Ytndfkbapoinmkaa
/- The own logic, part Ub: data that came in, read as rows and seasons. Conditions: none. -/
namespace Go.HL
open Go Go.Wx Go.RowKit Go.ChangeShapes Go.WideShapes
section
variable {H : Type} {enc : TypeId × Value → H} {P : Program} {w : World} {base : Nat} {spare : Nat → Bool} {held : Bool}
theorem row_slice {α : Type} (en : α → List Value) {t e : TypeId} {m fuel : Nat} {cs : List Value} {x : DataW H × List MemPlace} (ht : P.underlying t = some (.slice e)) (hc : P.cellsOf e = m) (hm : 0 < m) (he : ∀ a, (en a).length = m)
    (leaf : ∀ n cs x, DataW.trod enc P w base spare held n e cs = some x → ∃ a, cs = en a) (h : DataW.trod enc P w base spare held fuel t cs = some x) :
    ∃ (A : Option Addr) (len cap : Nat) (l : List α), cs = [.slice A len cap] ∧ l.length = len ∧ Row (absH w.heap) m en A l ∧ len ≤ maxLen := by
  rcases Go.Deep.open_slice ht h with ⟨rfl, _⟩ | ⟨a, len, cap, mm, n, D, Pl, rfl, hb, hl, hmx, hmm, _, hel⟩
  · exact ⟨none, 0, 0, [], rfl, rfl, ⟨fun _ h => (by cases h), Rd.nil _ _⟩, Nat.zero_le _⟩
  · have hlm : len ≤ mm := by rw [hmm]; split <;> omega
    have key : ∀ i : _root_.Fin len, ∃ v : α, w.cells? base (a.add (i.val * m)) m = some (en v) := by
      intro i
      obtain ⟨cs', h1, h2⟩ := hel i.val (by have := i.isLt; omega)
      obtain ⟨v, rfl⟩ := leaf _ _ _ h2
      rw [hc] at h1
      exact ⟨v, h1⟩
    let l := List.ofFn fun i : _root_.Fin len => Classical.choose (key i)
    have hll : l.length = len := by simp [l]
    have hat : ∀ (i : Nat) (hi : i < l.length), w.cells? base (a.add (i * m)) m = some (en l[i]) := by
      intro i hi
      have := Classical.choose_spec (key ⟨i, by omega⟩)
      simpa [l] using this
    refine ⟨some a, len, cap, l, rfl, hll, ⟨fun x _ => he x, fun hne => ?_⟩, by omega⟩
    have hpos : 0 < l.length := by
      rcases Nat.eq_zero_or_pos l.length with h0 | h0
      · rw [List.eq_nil_of_length_eq_zero h0] at hne; simp at hne
      · exact h0
    obtain ⟨g, off, sp⟩ := a
    have h0 := hat 0 hpos
    obtain ⟨_, _, hcell⟩ := World.cells?_some h0
    have h00 := hcell 0 hm
    rw [Go.Deep.add_add, Nat.zero_mul, Nat.add_zero, List.getElem?_eq_getElem (by rw [he]; exact hm)] at h00
    have hsp : sp = none := by
      cases sp with
      | none => rfl
      | some s =>
        exfalso
        have : w.cell? ((⟨g, off, some s⟩ : Addr).add 0) = none := by
          simp only [Addr.add]
          rw [cell_abs]
          unfold cellA
          split <;> simp
        rw [this] at h00
        cases h00
    subst hsp
    refine ⟨g, off, rfl, fun j u hu => ?_⟩
    have hj : j < l.length * m := by
      have := (List.getElem?_eq_some_iff.1 hu).1
      rwa [flat_len (fun x _ => he x)] at this
    have hi : j / m < l.length := Nat.div_lt_of_lt_mul (by rw [Nat.mul_comm]; exact hj)
    have hr : j % m < m := Nat.mod_lt _ hm
    have hjm : j / m * m + j % m = j := by rw [Nat.mul_comm]; exact Nat.div_add_mod j m
    obtain ⟨_, _, hcl⟩ := World.cells?_some (hat (j / m) hi)
    have h1 := hcl (j % m) hr
    have h2 : (en l[j / m])[j % m]? = some ((en l[j / m])[j % m]'(by rw [he]; exact hr)) := List.getElem?_eq_getElem _
    have h3 := flat_get en m l (fun x _ => he x) (j / m) _ (List.getElem?_eq_getElem hi) (j % m) _ h2
    rw [hjm, hu] at h3
    rw [h2, ← h3, Go.Deep.add_add, hjm, cell_abs, add_none] at h1
    exact h1
end
end Go.HL
namespace Go.Proofs.Ytndfkbapoinmkaa
open Go Go.HL Go.Wx Go.RowKit Go.ChangeShapes Go.WideShapes
set_option maxRecDepth 100000
theorem cells3 : Try.prog.cellsOf 3 = 1 := by kernel_rfl
theorem cells4 : Try.prog.cellsOf 4 = 1 := by kernel_rfl
theorem cells22 : Try.prog.cellsOf 22 = 1 := by kernel_rfl
theorem cells23 : Try.prog.cellsOf 23 = 1 := by kernel_rfl
theorem cells24 : Try.prog.cellsOf 24 = 1 := by kernel_rfl
theorem cells26 : Try.prog.cellsOf 26 = 4 := by kernel_rfl
theorem cells51 : Try.prog.cellsOf 51 = 2 := by kernel_rfl
theorem cells53 : Try.prog.cellsOf 53 = 9 := by kernel_rfl
theorem cells56 : Try.prog.cellsOf 56 = 3 := by kernel_rfl
section
variable {H : Type} {enc : TypeId × Value → H} {w : World} {base : Nat} {spare : Nat → Bool} {held : Bool}
theorem int_leaf {n : Nat} {cs : List Value} {x : DataW H × List MemPlace} (h : DataW.trod enc Try.prog w base spare held n 3 cs = some x) : ∃ z : Int, cs = [.int .i64 z] := by
  obtain ⟨z, e, _⟩ := DataW.trod_int Try.underlying3 h
  exact ⟨z, e⟩
theorem bool_leaf {n : Nat} {cs : List Value} {x : DataW H × List MemPlace} (h : DataW.trod enc Try.prog w base spare held n 4 cs = some x) : ∃ b : Bool, cs = [.bool b] := by
  obtain ⟨z, e, _⟩ := DataW.trod_bool Try.underlying4 h
  exact ⟨z, e⟩
theorem some_at {α : Type} {xs : List α} {n i : Nat} (h : xs.length = n) (hi : i < n) : ∃ y, xs[i]? = some y := ⟨_, List.getElem?_eq_getElem (by omega)⟩
theorem rg_leaf {n : Nat} {cs : List Value} {x : DataW H × List MemPlace} (h : DataW.trod enc Try.prog w base spare held n 51 cs = some x) : ∃ r : Rg, cs = rgC r := by
  obtain ⟨xs, m, _, _, hl, hx, hf⟩ := DataW.trod_struct Try.underlying51 h
  rw [cells51] at hl
  obtain ⟨y0, e0⟩ := some_at (i := 0) hx (by decide)
  obtain ⟨y1, e1⟩ := some_at (i := 1) hx (by decide)
  obtain ⟨a, ha⟩ := int_leaf ((show DataW.trod enc Try.prog w base spare held m 3 ((cs.drop 0).take (Try.prog.cellsOf 3)) = xs[0]? from hf 0 _ rfl).trans e0)
  obtain ⟨b, hb⟩ := int_leaf ((show DataW.trod enc Try.prog w base spare held m 3 ((cs.drop 1).take (Try.prog.cellsOf 3)) = xs[1]? from hf 1 _ rfl).trans e1)
  rw [cells3] at ha hb
  match cs, hl with
  | [u, v], _ =>
    simp at ha hb
    exact ⟨⟨a, b⟩, by rw [ha, hb]; rfl⟩
theorem seen_leaf {n : Nat} {cs : List Value} {x : DataW H × List MemPlace} (h : DataW.trod enc Try.prog w base spare held n 56 cs = some x) : ∃ r : Seen, cs = seenC r := by
  obtain ⟨xs, m, _, _, hl, hx, hf⟩ := DataW.trod_struct Try.underlying56 h
  rw [cells56] at hl
  obtain ⟨y0, e0⟩ := some_at (i := 0) hx (by decide)
  obtain ⟨y1, e1⟩ := some_at (i := 1) hx (by decide)
  obtain ⟨y2, e2⟩ := some_at (i := 2) hx (by decide)
  obtain ⟨a, ha⟩ := int_leaf ((show DataW.trod enc Try.prog w base spare held m 3 ((cs.drop 0).take (Try.prog.cellsOf 3)) = xs[0]? from hf 0 _ rfl).trans e0)
  obtain ⟨b, hb⟩ := int_leaf ((show DataW.trod enc Try.prog w base spare held m 3 ((cs.drop 1).take (Try.prog.cellsOf 3)) = xs[1]? from hf 1 _ rfl).trans e1)
  obtain ⟨c, hc⟩ := bool_leaf ((show DataW.trod enc Try.prog w base spare held m 4 ((cs.drop 2).take (Try.prog.cellsOf 4)) = xs[2]? from hf 2 _ rfl).trans e2)
  rw [cells3] at ha hb
  rw [cells4] at hc
  match cs, hl with
  | [u, v, z], _ =>
    simp at ha hb hc
    exact ⟨⟨a, b, c⟩, by rw [ha, hb, hc]; rfl⟩
theorem joint_leaf {n : Nat} {cs : List Value} {x : DataW H × List MemPlace} (h : DataW.trod enc Try.prog w base spare held n 53 cs = some x) : ∃ j : Joint, cs = jointC j := by
  obtain ⟨xs, m, _, _, hl, hx, hf⟩ := DataW.trod_struct Try.underlying53 h
  rw [cells53] at hl
  obtain ⟨y0, e0⟩ := some_at (i := 0) hx (by decide)
  obtain ⟨y1, e1⟩ := some_at (i := 1) hx (by decide)
  obtain ⟨y2, e2⟩ := some_at (i := 2) hx (by decide)
  obtain ⟨y3, e3⟩ := some_at (i := 3) hx (by decide)
  obtain ⟨y4, e4⟩ := some_at (i := 4) hx (by decide)
  obtain ⟨a, ha⟩ := int_leaf ((show DataW.trod enc Try.prog w base spare held m 3 ((cs.drop 0).take (Try.prog.cellsOf 3)) = xs[0]? from hf 0 _ rfl).trans e0)
  obtain ⟨r1, h1⟩ := rg_leaf ((show DataW.trod enc Try.prog w base spare held m 51 ((cs.drop 1).take (Try.prog.cellsOf 51)) = xs[1]? from hf 1 _ rfl).trans e1)
  obtain ⟨r2, h2⟩ := rg_leaf ((show DataW.trod enc Try.prog w base spare held m 51 ((cs.drop 3).take (Try.prog.cellsOf 51)) = xs[2]? from hf 2 _ rfl).trans e2)
  obtain ⟨r3, h3⟩ := rg_leaf ((show DataW.trod enc Try.prog w base spare held m 51 ((cs.drop 5).take (Try.prog.cellsOf 51)) = xs[3]? from hf 3 _ rfl).trans e3)
  obtain ⟨r4, h4⟩ := rg_leaf ((show DataW.trod enc Try.prog w base spare held m 51 ((cs.drop 7).take (Try.prog.cellsOf 51)) = xs[4]? from hf 4 _ rfl).trans e4)
  rw [cells3] at ha
  rw [cells51] at h1 h2 h3 h4
  match cs, hl with
  | [u0, u1, u2, u3, u4, u5, u6, u7, u8], _ =>
    simp [rgC] at ha h1 h2 h3 h4
    refine ⟨⟨a, r1, r2, r3, r4⟩, ?_⟩
    rw [ha, h1.1, h1.2, h2.1, h2.2, h3.1, h3.2, h4.1, h4.2]
    rfl
/-- A season that came in. -/
theorem season_in {r : Reach} {b0 : Nat} {v : Value} {d : DataW H} {p : List MemPlace} (hv : Value.okWide Try.prog w r b0 26 v) (h : DataW.Trod enc Try.prog w base spare held 26 v d p) :
    ∃ (s : Season) (A0 A1 A2 A3 : Option Addr) (c0 c1 c2 c3 : Nat), v = seasonV A0 A1 A2 A3 c0 c1 c2 c3 s ∧ SeasonR (absH w.heap) A0 A1 A2 A3 s := by
  obtain ⟨cs, rfl, hs⟩ := okWide_struct Try.underlying26 hv
  obtain ⟨fuel, hf0⟩ := h
  have hcs : (Value.agg cs).cells.toList = cs.toList := rfl
  rw [hcs] at hf0
  obtain ⟨xs, m, _, _, hl, hx, hf⟩ := DataW.trod_struct Try.underlying26 hf0
  rw [cells26] at hl
  obtain ⟨y0, e0⟩ := some_at (i := 0) hx (by decide)
  obtain ⟨y1, e1⟩ := some_at (i := 1) hx (by decide)
  obtain ⟨y2, e2⟩ := some_at (i := 2) hx (by decide)
  obtain ⟨y3, e3⟩ := some_at (i := 3) hx (by decide)
  obtain ⟨A0, n0, c0, l0, h0, k0, R0, _⟩ := row_slice rgC Try.underlying22 cells51 (by omega) (fun _ => rfl) (fun _ _ _ => rg_leaf) ((show DataW.trod enc Try.prog w base spare held m 22 ((cs.toList.drop 0).take (Try.prog.cellsOf 22)) = xs[0]? from hf 0 _ rfl).trans e0)
  obtain ⟨A1, n1, c1, l1, h1, k1, R1, _⟩ := row_slice rgC Try.underlying22 cells51 (by omega) (fun _ => rfl) (fun _ _ _ => rg_leaf) ((show DataW.trod enc Try.prog w base spare held m 22 ((cs.toList.drop 1).take (Try.prog.cellsOf 22)) = xs[1]? from hf 1 _ rfl).trans e1)
  obtain ⟨A2, n2, c2, l2, h2, k2, R2, _⟩ := row_slice jointC Try.underlying23 cells53 (by omega) (fun _ => rfl) (fun _ _ _ => joint_leaf) ((show DataW.trod enc Try.prog w base spare held m 23 ((cs.toList.drop 2).take (Try.prog.cellsOf 23)) = xs[2]? from hf 2 _ rfl).trans e2)
  obtain ⟨A3, n3, c3, l3, h3, k3, R3, _⟩ := row_slice seenC Try.underlying24 cells56 (by omega) (fun _ => rfl) (fun _ _ _ => seen_leaf) ((show DataW.trod enc Try.prog w base spare held m 24 ((cs.toList.drop 3).take (Try.prog.cellsOf 24)) = xs[3]? from hf 3 _ rfl).trans e3)
  rw [cells22] at h0 h1
  rw [cells23] at h2
  rw [cells24] at h3
  obtain ⟨l⟩ := cs
  match l, hl with
  | [u0, u1, u2, u3], _ =>
    simp at h0 h1 h2 h3
    refine ⟨⟨l0, l1, l2, l3⟩, A0, A1, A2, A3, c0, c1, c2, c3, ?_, ⟨R0, R1, R2, R3⟩⟩
    rw [h0, h1, h2, h3, ← k0, ← k1, ← k2, ← k3]
    rfl
/-- Ints that came in. -/
theorem ints_in {r : Reach} {b0 : Nat} {v : Value} {d : DataW H} {p : List MemPlace} (hv : Value.okWide Try.prog w r b0 27 v) (h : DataW.Trod enc Try.prog w base spare held 27 v d p) :
    ∃ (l : List Int) (A : Option Addr) (c : Nat), v = .slice A l.length c ∧ Row (absH w.heap) 1 intC A l ∧ l.length ≤ maxLen := by
  obtain ⟨a0, len0, cap0, rfl⟩ := okWide_slice Try.underlying27 hv
  obtain ⟨fuel, hf⟩ := h
  obtain ⟨A, n, c, l, e, k, R, hm⟩ := row_slice intC Try.underlying27 cells3 (by omega) (fun _ => rfl) (fun _ _ _ => int_leaf) hf
  have hcs : (Value.slice a0 len0 cap0).cells.toList = [.slice a0 len0 cap0] := rfl
  rw [hcs] at e
  simp at e
  obtain ⟨rfl, rfl, rfl⟩ := e
  subst k
  exact ⟨l, _, _, rfl, R, hm⟩
end
end Go.Proofs.Ytndfkbapoinmkaa
/- Walks: the law on the weather, over the reference. Conditions: as each theorem states. -/
namespace Go.Proofs.Ytndfkbapoinmkaa
open Go Go.HL Go.Proofs Go.Wx Go.RowKit
set_option maxRecDepth 100000
/-- A season and where it lies. -/
structure SRec where
  A0 : Option Addr
  A1 : Option Addr
  A2 : Option Addr
  A3 : Option Addr
  c0 : Nat
  c1 : Nat
  c2 : Nat
  c3 : Nat
  s : Season
def srC (r : SRec) : List Value := [.slice r.A0 r.s.heats.length r.c0, .slice r.A1 r.s.damps.length r.c1, .slice r.A2 r.s.joints.length r.c2, .slice r.A3 r.s.reports.length r.c3]
structure SROk (h : AH) (r : SRec) : Prop where
  R : SeasonR h r.A0 r.A1 r.A2 r.A3 r.s
  h0 : r.s.heats.length ≤ 30
  h1 : r.s.damps.length ≤ 30
  h2 : r.s.joints.length ≤ 30
  h3 : r.s.reports.length ≤ 30
theorem SROk.ext {h h' : AH} {r : SRec} (o : SROk h r) (E : Ext h h') : SROk h' r := ⟨o.R.ext E, o.h0, o.h1, o.h2, o.h3⟩
theorem SROk.small {h : AH} {r : SRec} (o : SROk h r) : Small r.s := by
  have := o.h0; have := o.h1; have := o.h2; have := o.h3
  exact ⟨by omega, by omega, by omega, by omega⟩
theorem check_bd {s : Season} (C : CheckS s) : s.heats.length ≤ 30 ∧ s.damps.length ≤ 30 ∧ s.joints.length ≤ 30 ∧ s.reports.length ≤ 30 := by
  have := C.w6; have := C.dl; have := C.j3; have := C.r5
  omega
end Go.Proofs.Ytndfkbapoinmkaa
/- Walks: bounds of results; ints copied. Conditions: as each theorem states. -/
namespace Go.Proofs.Ytndfkbapoinmkaa
open Go Go.HL Go.Proofs Go.Wx Go.RowKit
set_option maxRecDepth 100000
theorem fewest_len (n : Nat) (p : List Int → Bool) (k : Nat) : ((fewestP n p k).getD []).length ≤ k := by
  cases h : fewestP n p k with
  | none => simp
  | some x =>
    obtain ⟨m, h1, h2, _⟩ := fewestP_mem h
    have := chM_len n m 0 x h2
    show x.length ≤ k
    omega
theorem IntsT_ok (l : List Int) (hl : l.length < 2 ^ 20) (A : Option Addr) (c : Nat) (h : AH) (R : Row h 1 intC A l) : FnT Try.prog 37 #[.slice A l.length c] h (fun v h' => SlR h' 1 intC l v) := by
  refine call_body Try.func37 rfl Try.ntmps37 rfl ?_
  refine xp_seq ?_
  refine xp_region rfl ?_
  refine op_pure (pv_assign (v := .slice _ _ _) rfl) ?_
  refine xp_seq ?_
  refine xp_region rfl ?_
  refine op_buildSlice (zc := [_]) (vs := []) (cs := []) rfl rfl rfl rfl rfl rfl rfl fun b3 hb3 => ?_
  refine wp_norm [_] rfl ?_
  refine op_pure (pv_move (v := .slice _ _ _) rfl) ?_
  refine op_appendR 0 accR_new rfl rfl rfl (fun V => R.2.ext (Ext.trans (Ext.refl _) (ext_wl V))) (flat_len R.1) (flat_plain intP l) rfl rfl rfl rfl rfl rfl rfl (by omega) rfl (by rw [flat_len R.1, List.length_nil]; omega) fun a0 h1a E1a ha0 => ?_
  refine wp_norm [_] rfl ?_
  refine op_pure (pv_assign (v := .slice _ _ _) rfl) ?_
  rw [List.nil_append] at ha0
  refine goes_pubO 0 rfl ?_
  intro k0 K0 P0
  refine goes_norm [_] rfl ?_
  have n0 : a0.n = l.length := by have := AccR.len ha0; rw [flat_len (m := 1) (fun _ _ => rfl)] at this; omega
  refine xp_ret ?_
  refine res_list (vs := [_]) Try.results37 ⟨resV_tmp rfl rfl, trivial⟩ fun V => ?_
  exact ⟨(Ext.trans (Ext.trans E1a K0) (ext_wl V)), a0.A, a0.c, by rw [← n0]; rfl, fun _ _ => rfl, (AccR.rd ha0 P0).ext (ext_wl V)⟩
end Go.Proofs.Ytndfkbapoinmkaa
/- Walks: the law on failures, over the reference. Conditions: as each theorem states. -/
namespace Go.Proofs.Ytndfkbapoinmkaa
open Go Go.HL Go.Proofs Go.Wx Go.RowKit
set_option maxRecDepth 100000
end Go.Proofs.Ytndfkbapoinmkaa
/- Walks: the law on the first ones, over the reference. Conditions: as each theorem states. -/
namespace Go.Proofs.Ytndfkbapoinmkaa
open Go Go.HL Go.Proofs Go.Wx Go.RowKit
set_option maxRecDepth 100000
end Go.Proofs.Ytndfkbapoinmkaa
/- Walks: the law on other weather, over the reference. Conditions: as each theorem states. -/
namespace Go.Proofs.Ytndfkbapoinmkaa
open Go Go.HL Go.Proofs Go.Wx Go.RowKit
set_option maxRecDepth 100000
end Go.Proofs.Ytndfkbapoinmkaa
/- Walks: the law on wrong reports, over the reference. Conditions: as each theorem states. -/
namespace Go.Proofs.Ytndfkbapoinmkaa
open Go Go.HL Go.Proofs Go.Wx Go.RowKit
set_option maxRecDepth 100000
end Go.Proofs.Ytndfkbapoinmkaa
/- Walks: the law on looks, over the reference. Conditions: as each theorem states. -/
namespace Go.Proofs.Ytndfkbapoinmkaa
open Go Go.HL Go.Proofs Go.Wx Go.RowKit
set_option maxRecDepth 100000
set_option maxHeartbeats 16000000 in
theorem looks_calls (w : World) (s0 : Season) (A0 A1 A2 A3 : Option Addr) (c0 c1 c2 c3 : Nat) (R : SeasonR (absH w.heap) A0 A1 A2 A3 s0) (wt : Int) (wl : List Int) (AW : Option Addr) (cw : Nat) (RW0 : Row (absH w.heap) 1 intC AW wl) (hwm : wl.length ≤ maxLen) (l : List Int) (A : Option Addr) (c : Nat) (RL : Row (absH w.heap) 1 intC A l) (hl : l.length ≤ maxLen) :
    Calls Try.prog 7 #[seasonV A0 A1 A2 A3 c0 c1 c2 c3 s0, .int .i64 wt, .slice AW wl.length cw, .slice A l.length c] w (fun e w' => e = .returned (.bool true) ∧ Below w.heap.size w w') := by
  refine calls_body Try.func7 rfl Try.ntmps7 rfl Try.results7 rfl fun h hh => ?_
  rw [← hh] at R RL RW0
  refine xp_seq ?_
  refine xp_region rfl ?_
  refine op_box (v := .agg #[.slice _ _ _, .slice _ _ _, .slice _ _ _, .slice _ _ _]) (cs := [_, _, _, _]) rfl rfl fun b4 hb4 => ?_
  refine wp_norm [_] rfl ?_
  refine op_pure (pv_assign (v := .bool _) rfl) ?_
  refine xp_seq ?_
  refine xp_seq ?_
  refine xp_region rfl ?_
  refine op_loadPA 0 (vs := [.slice _ _ _, .slice _ _ _, .slice _ _ _, .slice _ _ _]) rfl rfl rfl rfl rfl ?_
  refine op_fn (caps := []) (vs := [.agg #[.slice _ _ _, .slice _ _ _, .slice _ _ _, .slice _ _ _]]) rfl rfl rfl (vast_ok s0 A0 A1 A2 A3 c0 c1 c2 c3 h (R.ext (Ext.refl _))) ?_
  rintro _ h1 E1 ⟨b, rfl, hb⟩
  rcases Bool.eq_false_or_eq_true b with e | e
  · skip
    subst e
    refine op_pure (pv_move (v := .bool _) rfl) ?_
    refine guard_no rfl rfl ?_
    refine guard_no rfl rfl ?_
    refine guard_no rfl rfl ?_
    refine op_pure (pv_pickT rfl rfl (v := .bool _) rfl) ?_
    refine xp_condT rfl (rfl) ?_
    refine xp_seq ?_
    refine xp_region rfl ?_
    refine op_fn (caps := []) (vs := []) rfl rfl rfl (warm_ok h1) ?_
    rintro _ h9 E9 rfl
    refine op_pure (pv_assign (v := .bool _) rfl) ?_
    refine xp_ret ?_
    exact ⟨rfl, fun V => (Ext.trans (Ext.trans E1 E9) (ext_wl V)), rfl⟩
  subst e
  refine op_pure (pv_move (v := .bool _) rfl) ?_
  refine guard_yes rfl rfl ?_
  refine op_pure (pv_move (v := .slice _ _ _) rfl) ?_
  refine guard_yes rfl rfl ?_
  refine op_pure (pv_len rfl rfl) ?_
  refine guard_yes rfl rfl ?_
  refine op_pure (pv_of (v := .bool _) rfl) ?_
  refine op_pure (pv_pickF rfl rfl (v := .bool _) rfl) ?_
  refine xp_cond rfl (fun hv => ?_) (fun hv => ?_)
  · skip
    refine xp_seq ?_
    refine xp_region rfl ?_
    refine op_fn (caps := []) (vs := []) rfl rfl rfl (warm_ok h1) ?_
    rintro _ h9 E9 rfl
    refine op_pure (pv_assign (v := .bool _) rfl) ?_
    refine xp_ret ?_
    exact ⟨rfl, fun V => (Ext.trans (Ext.trans E1 E9) (ext_wl V)), rfl⟩
  · skip
    have hs0 := hb rfl
    have hw20 : wl.length ≤ 20 := by have := of_decide_eq_false hv; omega
    refine xp_skip ?_
    refine xp_seq ?_
    refine xp_region rfl ?_
    refine op_pure (pv_move (v := .slice _ _ _) rfl) ?_
    refine op_fnMM [_] [] [] rfl rfl rfl ((NewPot_ok l (Nat.lt_of_le_of_lt hl (by decide)) A c h1 (RL.ext E1))) ?_
    rintro _ h2 _ E2 ⟨bp, x1, rfl, rfl⟩
    refine wp_norm [_, _] rfl ?_
    refine op_pure (pv_assign (v := .pointer _) rfl) ?_
    refine xp_seq ?_
    refine xp_region rfl ?_
    refine op_pure (pv_move (v := .pointer _) rfl) ?_
    refine op_fnMM [_] [_] [] (vs := _) rfl rfl rfl ((SeasonOf_ok bp x1 5 3 2 (by omega) (by omega) (by omega) (by omega) h2)) ?_
    rintro _ h3 _ E3 ⟨x2, s, ht, dt, fs, _, _, rfl, rfl, ⟨B0, B1, B2, B3, d0, d1, d2, d3, rfl, RS⟩, T, HA, hc, DA, dc, FA, fc, rfl, R1, R2, R3⟩
    refine wp_norm [_, _] rfl ?_
    have C : CheckS s := SeasonT.checkS T (by omega) (by omega) (by omega)
    have hsb := check_bd C
    have hw1 := C.w1
    have hw6 := C.w6
    refine op_pure (pv_move (v := .tuple #[.agg #[.slice _ _ _, .slice _ _ _, .slice _ _ _, .slice _ _ _], .agg #[.slice _ _ _, .slice _ _ _, .slice _ _ _]]) rfl) ?_
    refine op_pure (pv_of (v := .agg #[.slice _ _ _, .slice _ _ _, .slice _ _ _, .slice _ _ _]) rfl) ?_
    refine op_pure (pv_of (v := .agg #[.slice _ _ _, .slice _ _ _, .slice _ _ _]) rfl) ?_
    refine op_alloc (cs := [_, _, _, _]) rfl rfl fun b10 hb10 => ?_
    refine wp_norm [_, _, _] rfl ?_
    refine op_alloc (cs := [_, _, _]) rfl rfl fun b11 hb11 => ?_
    refine wp_norm [_, _, _, _] rfl ?_
    refine op_storeP 2 (v := .agg #[.slice _ _ _, .slice _ _ _, .slice _ _ _, .slice _ _ _]) (vs := [_, _, _, _]) (c' := [_, _, _, _]) rfl rfl rfl rfl rfl rfl rfl rfl rfl ?_
    refine wp_norm [_, _, _, _] rfl ?_
    refine op_storeP 3 (v := .agg #[.slice _ _ _, .slice _ _ _, .slice _ _ _]) (vs := [_, _, _]) (c' := [_, _, _]) rfl rfl rfl rfl rfl rfl rfl rfl rfl ?_
    refine wp_norm [_, _, _, _] rfl ?_
    refine xp_seq ?_
    refine xp_dw [false, true] rfl rfl rfl ?_
    refine dw_load (i := 0) rfl (by decide +kernel) ?_
    refine op_loadPA 0 (vs := [.slice _ _ _, .slice _ _ _, .slice _ _ _, .slice _ _ _]) rfl rfl rfl rfl rfl ?_
    refine dw_load (i := 1) rfl (by decide +kernel) ?_
    refine op_loadPA 2 (vs := [.slice _ _ _, .slice _ _ _, .slice _ _ _, .slice _ _ _]) rfl rfl rfl rfl rfl ?_
    refine dw_load (i := 2) rfl (by decide +kernel) ?_
    refine op_loadPA 2 (vs := [.slice _ _ _, .slice _ _ _, .slice _ _ _, .slice _ _ _]) rfl rfl rfl rfl rfl ?_
    refine dw_pure (i := 4) rfl (by decide +kernel) (pv_move (v := .int .i64 _) rfl) ?_
    refine dw_pure (i := 5) rfl (by decide +kernel) (pv_move (v := .pointer _) rfl) ?_
    refine dw_pure (i := 7) rfl (by decide +kernel) (pv_move (v := .int .i64 _) rfl) ?_
    refine dw_pure (i := 9) rfl (by decide +kernel) (pv_move (v := .slice _ _ _) rfl) ?_
    refine dw_pure (i := 10) rfl (by decide +kernel) (pv_move (v := .pointer _) rfl) ?_
    refine dw_pure (i := 11) rfl (by decide +kernel) (pv_fieldAddr rfl rfl rfl rfl 0 rfl) ?_
    refine dw_load (i := 12) rfl (by decide +kernel) ?_
    refine op_loadP 2 (v := .slice _ _ _) rfl rfl rfl rfl ?_
    refine dw_pure (i := 13) rfl (by decide +kernel) (pv_len rfl rfl) ?_
    refine dw_pure (i := 15) rfl (by decide +kernel) (pv_move (v := .slice _ _ _) rfl) ?_
    refine dw_eff (i := 6) rfl (by decide +kernel) ?_
    refine op_fnMM [_] [_] [_, _] (vs := [.pointer _, .int .i64 _]) rfl rfl rfl ((Upto_ok bp x2 3 (by omega) h3)) ?_
    rintro _ h4 _ E4 ⟨x3, z1, rfl, rfl, z1a, z1b⟩
    refine ⟨ext_wlm E4 _, ?_⟩
    refine dw_norm [_, _, _, _] rfl ?_
    refine dw_eff (i := 14) rfl (by decide +kernel) ?_
    refine op_fnMM [_] [_] [_, _] (vs := [.pointer _, .int .i64 _]) rfl rfl rfl ((Pick_ok bp x3 s.heats.length (by omega) h4)) ?_
    rintro _ h5 _ E5 ⟨x4, pl, rfl, ⟨PA, pc, rfl, RP⟩, p1, p2, p3⟩
    refine ⟨ext_wlm E5 _, ?_⟩
    refine dw_norm [_, _, _, _] rfl ?_
    refine dw_eff (i := 3) rfl (by decide +kernel) ?_
    refine op_buildSlice (zc := [_, _, _, _]) (vs := [(0, .agg #[.slice _ _ _, .slice _ _ _, .slice _ _ _, .slice _ _ _]), (1, .agg #[.slice _ _ _, .slice _ _ _, .slice _ _ _, .slice _ _ _]), (2, .agg #[.slice _ _ _, .slice _ _ _, .slice _ _ _, .slice _ _ _])]) (cs := [_, _, _, _, _, _, _, _, _, _, _, _]) rfl rfl rfl rfl rfl rfl rfl fun b44 hb44 => ?_
    refine ⟨ext_newM hb44 _, ?_⟩
    refine dw_norm [_, _, _, _, _] rfl ?_
    refine dw_pure (i := 17) rfl (by decide +kernel) (pv_assign (v := .slice _ _ _) rfl) ?_
    refine dw_eff (i := 8) rfl (by decide +kernel) ?_
    refine op_buildSlice (zc := [_]) (vs := [(0, .int .i64 _), (1, .int .i64 _), (2, .int .i64 _)]) (cs := [_, _, _]) rfl rfl rfl rfl rfl rfl rfl fun b49 hb49 => ?_
    refine ⟨ext_newM hb49 _, ?_⟩
    refine dw_norm [_, _, _, _, _, _] rfl ?_
    refine dw_pure (i := 18) rfl (by decide +kernel) (pv_assign (v := .slice _ _ _) rfl) ?_
    refine dw_eff (i := 16) rfl (by decide +kernel) ?_
    refine op_buildSlice (zc := [_]) (vs := [(0, .slice _ _ _), (1, .slice _ _ _), (2, .slice _ _ _)]) (cs := [_, _, _]) rfl rfl rfl rfl rfl rfl rfl fun b57 hb57 => ?_
    refine ⟨ext_newM hb57 _, ?_⟩
    refine dw_norm [_, _, _, _, _, _, _] rfl ?_
    refine dw_pure (i := 19) rfl (by decide +kernel) (pv_assign (v := .slice _ _ _) rfl) ?_
    refine dw_end rfl ?_
    refine goes_pub 6 rfl ?_
    intro gW GW QW
    refine goes_pub 4 rfl ?_
    intro g0 G0 Q0
    refine goes_pub 5 rfl ?_
    intro g1 GZ Q1
    obtain ⟨rs, ers⟩ : ∃ rs : List SRec, rs = [⟨A0, A1, A2, A3, c0, c1, c2, c3, s0⟩, ⟨B0, B1, B2, B3, d0, d1, d2, d3, s⟩, ⟨B0, B1, B2, B3, d0, d1, d2, d3, s⟩] := ⟨_, rfl⟩
    have RR : Row g1 4 srC (some ⟨b44, 0, none⟩) rs := (show Row g0 4 srC _ rs from by rw [ers]; exact row_junk (junk := []) (fun _ => rfl) Q0).ext GZ
    obtain ⟨zlw, ezlw⟩ : ∃ zl : List Int, zl = [wt, z1, wt] := ⟨_, rfl⟩
    have RIw : Row g1 1 intC (some ⟨b49, 0, none⟩) zlw := (show Row g1 1 intC _ zlw from by rw [ezlw]; exact row_junk (junk := []) (fun _ => rfl) Q1)
    have hzlw : zlw.length = 3 := by rw [ezlw]; rfl
    have hrl : rs.length = 3 := by rw [ers]; rfl
    have hok : ∀ r ∈ rs, SROk g1 r := by
      intro r hr
      rw [ers] at hr
      simp only [List.mem_cons, List.not_mem_nil, or_false] at hr
      rcases hr with rfl | rfl | rfl
      · exact ⟨R.ext (Ext.trans (Ext.trans (Ext.trans (Ext.trans (Ext.trans (Ext.trans (Ext.trans E1 E2) E3) E4) E5) GW) G0) GZ), by show s0.heats.length ≤ 30; omega, by show s0.damps.length ≤ 30; omega, by show s0.joints.length ≤ 30; omega, by show s0.reports.length ≤ 30; omega⟩
      · exact ⟨RS.ext (Ext.trans (Ext.trans (Ext.trans (Ext.trans E4 E5) GW) G0) GZ), hsb.1, hsb.2.1, hsb.2.2.1, hsb.2.2.2⟩
      · exact ⟨RS.ext (Ext.trans (Ext.trans (Ext.trans (Ext.trans E4 E5) GW) G0) GZ), hsb.1, hsb.2.1, hsb.2.2.1, hsb.2.2.2⟩
    clear ers ezlw
    obtain ⟨ls, els⟩ : ∃ ls : List (List Int), ls = [wl, pl, wl] := ⟨_, rfl⟩
    obtain ⟨vs, evs⟩ : ∃ vs : List Value, vs = [.slice AW wl.length cw, .slice PA pl.length pc, .slice AW wl.length cw] := ⟨_, rfl⟩
    have RV : Row g1 1 fnC (some ⟨b57, 0, none⟩) vs := (show Row gW 1 fnC _ vs from by rw [evs]; exact row_junk (junk := []) (fun _ => rfl) QW).ext (Ext.trans G0 GZ)
    have hvl : vs.length = 3 := by rw [evs]; rfl
    have hll : ls.length = 3 := by rw [els]; rfl
    have hls : ∀ x ∈ ls, x.length ≤ 20 := by
      intro x hx
      rw [els] at hx
      simp only [List.mem_cons, List.not_mem_nil, or_false] at hx
      rcases hx with rfl | rfl | rfl <;> omega
    have RLL : LLv g1 ls vs := by
      rw [els, evs]
      refine ⟨rfl, fun i l v a b => ?_⟩
      match i with
      | 0 => cases a; cases b; exact ⟨_, _, rfl, RW0.ext (Ext.trans (Ext.trans (Ext.trans (Ext.trans (Ext.trans (Ext.trans (Ext.trans E1 E2) E3) E4) E5) GW) G0) GZ)⟩
      | 1 => cases a; cases b; exact ⟨_, _, rfl, RP.ext (Ext.trans (Ext.trans GW G0) GZ)⟩
      | 2 => cases a; cases b; exact ⟨_, _, rfl, RW0.ext (Ext.trans (Ext.trans (Ext.trans (Ext.trans (Ext.trans (Ext.trans (Ext.trans E1 E2) E3) E4) E5) GW) G0) GZ)⟩
      | i + 3 => simp at a
    clear els evs
    refine xp_seq ?_
    refine xp_seq ?_
    refine xp_region rfl ?_
    refine op_pure (pv_assign (v := .int .i64 _) rfl) ?_
    refine xp_block ?_
    refine xp_loopB [8, 15, 16, 17, 18, 19, 20, 21, 22, 23, 24, 25, 58, 59, 60, 61, 62, 63, 64, 65, 66, 67, 68, 69, 70, 71, 72, 73, 74, 75, 76, 77, 78, 79, 80, 81, 82, 83, 84, 85, 86, 87, 88, 89, 90, 91, 92, 93, 94, 95, 96, 97, 98, 99, 100, 101, 102, 103, 104, 105, 106, 107, 108, 109, 110, 111, 112, 113, 114, 115, 116, 117, 118, 119, 120, 121, 122, 123, 124, 125, 126, 127, 128, 129, 130, 131, 132, 133, 134, 135, 136, 137, 138, 139, 140, 141, 142, 143, 144, 145, 146, 147, 148, 149] 7 (α := Nat) (fun i => [(15, .int .i64 i)]) (fun i => _) (fun i h_i => i ≤ 3) (fun i => 3 - i) (0) ⟨rfl, trivial⟩ (rfl) (Nat.zero_le _) ?_
    rintro i T1 h_i E_i J_i
    refine goes_norm [_, _, _, _, _, _, _] rfl ?_
    refine xp_seq ?_
    refine xp_seq ?_
    refine xp_region rfl ?_
    refine op_pure (pv_move (v := .int .i64 _) rfl) ?_
    refine op_pure (pv_move (v := .slice _ _ _) rfl) ?_
    refine op_pure (pv_len rfl rfl) ?_
    refine op_pure (pv_of (v := .bool _) rfl) ?_
    refine xp_cond rfl (fun hi => ?_) (fun hi => ?_)
    · skip
      have hi4 : i < 3 := by have := of_decide_eq_true hi; omega
      obtain ⟨r, er⟩ : ∃ r, r = rs[i]'(by omega) := ⟨_, rfl⟩
      have o := hok r (by rw [er]; exact List.getElem_mem _)
      have o0 := o.h0
      have o1 := o.h1
      have o2 := o.h2
      have o3 := o.h3
      obtain ⟨gr, or, hBr, hcr⟩ := RR.at (by omega) (show i < rs.length by omega)
      rw [← er] at hcr
      obtain ⟨gzw, ozw, hBzw, hczw⟩ := RIw.at (by omega) (show i < zlw.length by omega)
      obtain ⟨yw, eyw⟩ : ∃ y, y = zlw[i]'(by omega) := ⟨_, rfl⟩
      rw [← eyw] at hczw
      have Sm := o.small
      obtain ⟨li, eli⟩ : ∃ y, y = ls[i]'(by omega) := ⟨_, rfl⟩
      have hli := hls li (by rw [eli]; exact List.getElem_mem _)
      obtain ⟨gl, ol, hBl, hcl⟩ := RV.at (by omega) (show i < vs.length by omega)
      obtain ⟨AL, cL, eL, RLi⟩ := RLL.2 i li _ (by rw [eli]; exact List.getElem?_eq_getElem (by omega)) (List.getElem?_eq_getElem (show i < vs.length by omega))
      refine xp_skip ?_
      refine xp_seq ?_
      refine xp_block ?_
      refine xp_seq ?_
      refine xp_dw [] rfl rfl rfl ?_
      refine dw_pure (i := 0) rfl (by decide +kernel) (pv_move (v := .slice _ _ _) rfl) ?_
      refine dw_pure (i := 1) rfl (by decide +kernel) (pv_move (v := .int .i64 _) rfl) ?_
      refine dw_pure (i := 2) rfl (by decide +kernel) (pv_indexE rfl hBr rfl rfl rfl (by omega) (by omega)) ?_
      refine dw_load (i := 3) rfl (by decide +kernel) ?_
      refine op_loadA rfl rfl rfl rfl (hcr.ext E_i) ?_
      refine dw_pure (i := 5) rfl (by decide +kernel) (pv_move (v := .slice _ _ _) rfl) ?_
      refine dw_pure (i := 6) rfl (by decide +kernel) (pv_move (v := .int .i64 _) rfl) ?_
      refine dw_pure (i := 7) rfl (by decide +kernel) (pv_indexE rfl hBl rfl rfl rfl (by omega) (by omega)) ?_
      refine dw_load (i := 8) rfl (by decide +kernel) ?_
      refine op_load (v := .slice AL li.length cL) rfl rfl ((hcl.ext E_i) 0 _ (by rw [eL]; rfl)) ?_
      refine dw_eff (i := 4) rfl (by decide +kernel) ?_
      refine op_fn (caps := []) (vs := [.agg #[.slice _ _ _, .slice _ _ _, .slice _ _ _, .slice _ _ _]]) rfl rfl rfl (CopySeasonT_ok r.s r.A0 r.A1 r.A2 r.A3 r.c0 r.c1 r.c2 r.c3 h_i (o.R.ext E_i) (by omega) (by omega) (by omega) (by omega)) ?_
      rintro _ h6 E6 ⟨D0, D1, D2, D3, e0, e1, e2, e3, rfl, RO⟩
      refine ⟨ext_wlm E6 _, ?_⟩
      refine dw_last (i := 9) rfl (by decide +kernel) (by decide +kernel) ?_
      refine op_fn (caps := []) (vs := [.slice _ _ _]) rfl rfl rfl (IntsT_ok li (by omega) AL cL h6 (RLi.ext (Ext.trans E_i E6))) ?_
      rintro _ h16 E16 ⟨M1, mc, rfl, RM⟩
      refine dw_eff (i := 10) rfl (by decide +kernel) ?_
      refine op_alloc (cs := [_, _, _, _]) rfl rfl fun b16 hb16 => ?_
      refine ⟨ext_new hb16 _, ?_⟩
      refine dw_norm [_, _, _, _, _, _, _, _] rfl ?_
      refine dw_last (i := 11) rfl (by decide +kernel) (by decide +kernel) ?_
      refine op_storeP 7 (v := .agg #[.slice _ _ _, .slice _ _ _, .slice _ _ _, .slice _ _ _]) (vs := [_, _, _, _]) (c' := [_, _, _, _]) rfl rfl rfl rfl rfl rfl rfl rfl rfl ?_
      refine dw_norm [_, _, _, _, _, _, _, _] rfl ?_
      refine dw_pure (i := 12) rfl (by decide +kernel) (pv_assign (v := .slice _ _ _) rfl) ?_
      refine dw_end rfl ?_
      refine xp_seq ?_
      refine xp_dw [] rfl rfl rfl ?_
      refine dw_load (i := 0) rfl (by decide +kernel) ?_
      refine op_loadPA 7 (vs := [.slice _ _ _, .slice _ _ _, .slice _ _ _, .slice _ _ _]) rfl rfl rfl rfl rfl ?_
      refine dw_pure (i := 1) rfl (by decide +kernel) (pv_move (v := .slice _ _ _) rfl) ?_
      refine dw_pure (i := 2) rfl (by decide +kernel) (pv_move (v := .int .i64 _) rfl) ?_
      refine dw_pure (i := 3) rfl (by decide +kernel) (pv_indexE rfl hBzw rfl rfl rfl (by omega) (by omega)) ?_
      refine dw_load (i := 4) rfl (by decide +kernel) ?_
      refine op_load (v := .int .i64 yw) rfl rfl ((hczw.ext (Ext.trans (Ext.trans E_i E6) E16)) 0 _ rfl) ?_
      refine dw_last (i := 5) rfl (by decide +kernel) (by decide +kernel) ?_
      refine op_fn (caps := []) (vs := [.agg #[.slice _ _ _, .slice _ _ _, .slice _ _ _, .slice _ _ _], .int .i64 _]) rfl rfl rfl (Inspect_ok r.s Sm yw D0 D1 D2 D3 e0 e1 e2 e3 h16 (RO.ext E16)) ?_
      rintro _ h7 E7 ⟨_, rfl, V1, f1, rfl, W1⟩
      refine dw_pure (i := 6) rfl (by decide +kernel) (pv_move (v := .tuple #[.slice _ _ _, .int .i64 _]) rfl) ?_
      refine dw_pure (i := 7) rfl (by decide +kernel) (pv_of (v := .slice _ _ _) rfl) ?_
      refine dw_pure (i := 8) rfl (by decide +kernel) (pv_of (v := .int .i64 _) rfl) ?_
      refine dw_pure (i := 9) rfl (by decide +kernel) (pv_assign (v := .slice _ _ _) rfl) ?_
      refine dw_pure (i := 10) rfl (by decide +kernel) (pv_assign (v := .int .i64 _) rfl) ?_
      refine dw_end rfl ?_
      refine xp_seq ?_
      refine xp_dw [] rfl rfl rfl ?_
      refine dw_pure (i := 0) rfl (by decide +kernel) (pv_move (v := .slice _ _ _) rfl) ?_
      refine dw_pure (i := 1) rfl (by decide +kernel) (pv_move (v := .int .i64 _) rfl) ?_
      refine dw_pure (i := 2) rfl (by decide +kernel) (pv_indexE rfl hBr rfl rfl rfl (by omega) (by omega)) ?_
      refine dw_load (i := 3) rfl (by decide +kernel) ?_
      refine op_loadA rfl rfl rfl rfl (hcr.ext (Ext.trans (Ext.trans (Ext.trans E_i E6) E16) E7)) ?_
      refine dw_pure (i := 4) rfl (by decide +kernel) (pv_move (v := .slice _ _ _) rfl) ?_
      refine dw_pure (i := 5) rfl (by decide +kernel) (pv_move (v := .int .i64 _) rfl) ?_
      refine dw_pure (i := 6) rfl (by decide +kernel) (pv_indexE rfl hBzw rfl rfl rfl (by omega) (by omega)) ?_
      refine dw_load (i := 7) rfl (by decide +kernel) ?_
      refine op_load (v := .int .i64 yw) rfl rfl ((hczw.ext (Ext.trans (Ext.trans (Ext.trans E_i E6) E16) E7)) 0 _ rfl) ?_
      refine dw_last (i := 8) rfl (by decide +kernel) (by decide +kernel) ?_
      refine op_fn (caps := []) (vs := [.agg #[.slice _ _ _, .slice _ _ _, .slice _ _ _, .slice _ _ _], .int .i64 _]) rfl rfl rfl (rInspect_ok r.s Sm yw r.A0 r.A1 r.A2 r.A3 r.c0 r.c1 r.c2 r.c3 h7 (o.R.ext (Ext.trans (Ext.trans (Ext.trans E_i E6) E16) E7))) ?_
      rintro _ h8 E8 ⟨_, rfl, V2, f2, rfl, W2⟩
      refine dw_pure (i := 9) rfl (by decide +kernel) (pv_move (v := .tuple #[.slice _ _ _, .int .i64 _]) rfl) ?_
      refine dw_pure (i := 10) rfl (by decide +kernel) (pv_of (v := .slice _ _ _) rfl) ?_
      refine dw_pure (i := 11) rfl (by decide +kernel) (pv_of (v := .int .i64 _) rfl) ?_
      refine dw_pure (i := 12) rfl (by decide +kernel) (pv_assign (v := .slice _ _ _) rfl) ?_
      refine dw_pure (i := 13) rfl (by decide +kernel) (pv_assign (v := .int .i64 _) rfl) ?_
      refine dw_end rfl ?_
      refine xp_seq ?_
      refine xp_region rfl ?_
      refine op_loadPA 7 (vs := [.slice _ _ _, .slice _ _ _, .slice _ _ _, .slice _ _ _]) rfl rfl rfl rfl rfl ?_
      refine op_pure (pv_move (v := .slice _ _ _) rfl) ?_
      refine op_fn (caps := []) (vs := [.agg #[.slice _ _ _, .slice _ _ _, .slice _ _ _, .slice _ _ _], .slice _ _ _]) rfl rfl rfl (Unseen_ok r.s Sm li (by omega) M1 mc D0 D1 D2 D3 e0 e1 e2 e3 h8 (RO.ext (Ext.trans (Ext.trans E16 E7) E8)) (RM.ext (Ext.trans E7 E8))) ?_
      rintro _ h9 E9 rfl
      refine op_pure (pv_move (v := .tuple #[.int .i64 _, .int .i64 _]) rfl) ?_
      refine op_pure (pv_of (v := .int .i64 _) rfl) ?_
      refine op_pure (pv_of (v := .int .i64 _) rfl) ?_
      refine op_pure (pv_assign (v := .int .i64 _) rfl) ?_
      refine op_pure (pv_assign (v := .int .i64 _) rfl) ?_
      refine xp_seq ?_
      refine xp_dw [] rfl rfl rfl ?_
      refine dw_pure (i := 0) rfl (by decide +kernel) (pv_move (v := .slice _ _ _) rfl) ?_
      refine dw_pure (i := 1) rfl (by decide +kernel) (pv_move (v := .int .i64 _) rfl) ?_
      refine dw_pure (i := 2) rfl (by decide +kernel) (pv_indexE rfl hBr rfl rfl rfl (by omega) (by omega)) ?_
      refine dw_load (i := 3) rfl (by decide +kernel) ?_
      refine op_loadA rfl rfl rfl rfl (hcr.ext (Ext.trans (Ext.trans (Ext.trans (Ext.trans (Ext.trans E_i E6) E16) E7) E8) E9)) ?_
      refine dw_pure (i := 4) rfl (by decide +kernel) (pv_move (v := .slice _ _ _) rfl) ?_
      refine dw_pure (i := 5) rfl (by decide +kernel) (pv_move (v := .int .i64 _) rfl) ?_
      refine dw_pure (i := 6) rfl (by decide +kernel) (pv_indexE rfl hBl rfl rfl rfl (by omega) (by omega)) ?_
      refine dw_load (i := 7) rfl (by decide +kernel) ?_
      refine op_load (v := .slice AL li.length cL) rfl rfl ((hcl.ext (Ext.trans (Ext.trans (Ext.trans (Ext.trans (Ext.trans E_i E6) E16) E7) E8) E9)) 0 _ (by rw [eL]; rfl)) ?_
      refine dw_last (i := 8) rfl (by decide +kernel) (by decide +kernel) ?_
      refine op_fn (caps := []) (vs := [.agg #[.slice _ _ _, .slice _ _ _, .slice _ _ _, .slice _ _ _], .slice _ _ _]) rfl rfl rfl (rUnseen_ok r.s Sm li (by omega) AL cL r.A0 r.A1 r.A2 r.A3 r.c0 r.c1 r.c2 r.c3 h9 (o.R.ext (Ext.trans (Ext.trans (Ext.trans (Ext.trans (Ext.trans E_i E6) E16) E7) E8) E9)) (RLi.ext (Ext.trans (Ext.trans (Ext.trans (Ext.trans (Ext.trans E_i E6) E16) E7) E8) E9))) ?_
      rintro _ h10 E10 rfl
      have q0 : (inspectE r.s yw != inspectE r.s yw) = false := by simp
      have q1 : (unseenV r.s li != unseenV r.s li) = false := by simp
      have q2 : (unseenE r.s li != unseenE r.s li) = false := by simp
      have q3 : (!decide (inspectL r.s yw = inspectL r.s yw)) = false := by simp
      have q4 : (!decide (r.s = r.s)) = false := by simp
      refine dw_pure (i := 9) rfl (by decide +kernel) (pv_move (v := .tuple #[.int .i64 _, .int .i64 _]) rfl) ?_
      refine dw_pure (i := 10) rfl (by decide +kernel) (pv_of (v := .int .i64 _) rfl) ?_
      refine dw_pure (i := 11) rfl (by decide +kernel) (pv_of (v := .int .i64 _) rfl) ?_
      refine dw_pure (i := 12) rfl (by decide +kernel) (pv_assign (v := .int .i64 _) rfl) ?_
      refine dw_pure (i := 13) rfl (by decide +kernel) (pv_assign (v := .int .i64 _) rfl) ?_
      refine dw_end rfl ?_
      refine xp_seq ?_
      refine xp_dw [] rfl rfl rfl ?_
      refine dw_pure (i := 0) rfl (by decide +kernel) (pv_move (v := .int .i64 _) rfl) ?_
      refine dw_pure (i := 1) rfl (by decide +kernel) (pv_move (v := .int .i64 _) rfl) ?_
      refine dw_pure (i := 2) rfl (by decide +kernel) (pv_of (v := .bool _) rfl) ?_
      refine dw_pure (i := 3) rfl (by decide +kernel) (pv_move (v := .bool _) rfl) ?_
      refine dw_pureG (i := 4) rfl (by decide +kernel) rfl q0 (pv_move (v := .int .i64 _) rfl) ?_
      refine dw_pureG (i := 5) rfl (by decide +kernel) rfl q0 (pv_move (v := .int .i64 _) rfl) ?_
      refine dw_pureG (i := 6) rfl (by decide +kernel) rfl q0 (pv_of (v := .bool _) rfl) ?_
      refine dw_pure (i := 7) rfl (by decide +kernel) (pv_pickF rfl q0 (v := .bool _) rfl) ?_
      refine dw_pure (i := 8) rfl (by decide +kernel) (pv_move (v := .bool _) rfl) ?_
      refine dw_pureG (i := 9) rfl (by decide +kernel) rfl q1 (pv_move (v := .int .i64 _) rfl) ?_
      refine dw_pureG (i := 10) rfl (by decide +kernel) rfl q1 (pv_move (v := .int .i64 _) rfl) ?_
      refine dw_pureG (i := 11) rfl (by decide +kernel) rfl q1 (pv_of (v := .bool _) rfl) ?_
      refine dw_pure (i := 12) rfl (by decide +kernel) (pv_pickF rfl q1 (v := .bool _) rfl) ?_
      refine dw_pure (i := 13) rfl (by decide +kernel) (pv_move (v := .bool _) rfl) ?_
      refine dw_pureG (i := 14) rfl (by decide +kernel) rfl q2 (pv_move (v := .slice _ _ _) rfl) ?_
      refine dw_pureG (i := 15) rfl (by decide +kernel) rfl q2 (pv_move (v := .slice _ _ _) rfl) ?_
      refine dw_lastG (i := 16) rfl (by decide +kernel) (by decide +kernel) rfl q2 ?_
      refine op_fn (caps := []) (vs := [.slice _ _ _, .slice _ _ _]) rfl rfl rfl (sameInts_ok (inspectL r.s yw) (inspectL r.s yw) V1 V2 f1 f2 h10 (W1.ext (Ext.trans (Ext.trans E8 E9) E10)) (W2.ext (Ext.trans E9 E10)) (by have := fewest_len r.s.heats.length (fun l => decide (unseenOf r.s.heats.length (listM (failingM r.s)) l ≤ yw)) (r.s.heats.length + 1); unfold inspectL; split <;> simp <;> omega)) ?_
      rintro _ h14 E14 rfl
      refine dw_pureG (i := 17) rfl (by decide +kernel) rfl q2 (pv_of (v := .bool _) rfl) ?_
      refine dw_pure (i := 18) rfl (by decide +kernel) (pv_pickF rfl q2 (v := .bool _) rfl) ?_
      refine dw_pure (i := 19) rfl (by decide +kernel) (pv_move (v := .bool _) rfl) ?_
      refine dw_loadG (i := 20) rfl (by decide +kernel) rfl q3 ?_
      refine op_loadPA 7 (vs := [.slice _ _ _, .slice _ _ _, .slice _ _ _, .slice _ _ _]) rfl rfl rfl rfl rfl ?_
      refine dw_pureG (i := 21) rfl (by decide +kernel) rfl q3 (pv_move (v := .slice _ _ _) rfl) ?_
      refine dw_pureG (i := 22) rfl (by decide +kernel) rfl q3 (pv_move (v := .int .i64 _) rfl) ?_
      refine dw_pureG (i := 23) rfl (by decide +kernel) rfl q3 (pv_indexE rfl hBr rfl rfl rfl (by omega) (by omega)) ?_
      refine dw_loadG (i := 24) rfl (by decide +kernel) rfl q3 ?_
      refine op_loadA rfl rfl rfl rfl (hcr.ext (Ext.trans (Ext.trans (Ext.trans (Ext.trans (Ext.trans (Ext.trans (Ext.trans E_i E6) E16) E7) E8) E9) E10) E14)) ?_
      refine dw_lastG (i := 25) rfl (by decide +kernel) (by decide +kernel) rfl q3 ?_
      refine op_fn (caps := []) (vs := [.agg #[.slice _ _ _, .slice _ _ _, .slice _ _ _, .slice _ _ _], .agg #[.slice _ _ _, .slice _ _ _, .slice _ _ _, .slice _ _ _]]) rfl rfl rfl (sameSeasons_ok r.s r.s D0 D1 D2 D3 r.A0 r.A1 r.A2 r.A3 e0 e1 e2 e3 r.c0 r.c1 r.c2 r.c3 h14 (RO.ext (Ext.trans (Ext.trans (Ext.trans (Ext.trans (Ext.trans E16 E7) E8) E9) E10) E14)) (o.R.ext (Ext.trans (Ext.trans (Ext.trans (Ext.trans (Ext.trans (Ext.trans (Ext.trans E_i E6) E16) E7) E8) E9) E10) E14)) Sm.h0 Sm.h1 Sm.h2 Sm.h3) ?_
      rintro _ h12 E12 rfl
      refine dw_pureG (i := 26) rfl (by decide +kernel) rfl q3 (pv_of (v := .bool _) rfl) ?_
      refine dw_pure (i := 27) rfl (by decide +kernel) (pv_pickF rfl q3 (v := .bool _) rfl) ?_
      refine dw_pure (i := 28) rfl (by decide +kernel) (pv_move (v := .bool _) rfl) ?_
      refine dw_pureG (i := 29) rfl (by decide +kernel) rfl q4 (pv_move (v := .slice _ _ _) rfl) ?_
      refine dw_pureG (i := 30) rfl (by decide +kernel) rfl q4 (pv_move (v := .slice _ _ _) rfl) ?_
      refine dw_pureG (i := 31) rfl (by decide +kernel) rfl q4 (pv_move (v := .int .i64 _) rfl) ?_
      refine dw_pureG (i := 32) rfl (by decide +kernel) rfl q4 (pv_indexE rfl hBl rfl rfl rfl (by omega) (by omega)) ?_
      refine dw_loadG (i := 33) rfl (by decide +kernel) rfl q4 ?_
      refine op_load (v := .slice AL li.length cL) rfl rfl ((hcl.ext (Ext.trans (Ext.trans (Ext.trans (Ext.trans (Ext.trans (Ext.trans (Ext.trans (Ext.trans E_i E6) E16) E7) E8) E9) E10) E14) E12)) 0 _ (by rw [eL]; rfl)) ?_
      refine dw_lastG (i := 34) rfl (by decide +kernel) (by decide +kernel) rfl q4 ?_
      refine op_fn (caps := []) (vs := [.slice _ _ _, .slice _ _ _]) rfl rfl rfl (sameInts_ok li li M1 AL mc cL h12 (RM.ext (Ext.trans (Ext.trans (Ext.trans (Ext.trans (Ext.trans E7 E8) E9) E10) E14) E12)) (RLi.ext (Ext.trans (Ext.trans (Ext.trans (Ext.trans (Ext.trans (Ext.trans (Ext.trans (Ext.trans E_i E6) E16) E7) E8) E9) E10) E14) E12)) (by omega)) ?_
      rintro _ h15 E15 rfl
      refine dw_pureG (i := 35) rfl (by decide +kernel) rfl q4 (pv_of (v := .bool _) rfl) ?_
      refine dw_pure (i := 36) rfl (by decide +kernel) (pv_pickF rfl q4 (v := .bool _) rfl) ?_
      refine dw_end rfl ?_
      refine xp_condF rfl ((by simp)) ?_
      refine xp_skip ?_
      refine xp_region rfl ?_
      refine op_pure (pv_move (v := .int .i64 _) rfl) ?_
      refine op_pure (pv_arith rfl (by omega)) ?_
      refine op_pure (pv_assign (v := .int .i64 _) rfl) ?_
      refine ⟨i + 1, ⟨rfl, trivial⟩, rfl, rfl, (Ext.trans (Ext.trans (Ext.trans (Ext.trans (Ext.trans (Ext.trans (Ext.trans (Ext.trans (Ext.trans E_i E6) E16) E7) E8) E9) E10) E14) E12) E15), fun h3 E3 => hi4, by first | omega | (dsimp only; omega), ?_⟩
      repeat (first | exact off_base _ _ _ | refine off_upd (by decide) ?_ | refine off_updL rfl ?_ | refine off_mix rfl ?_)
    · skip
      refine xp_exit ?_
      refine xp_seq ?_
      refine xp_region rfl ?_
      refine op_fn (caps := []) (vs := []) rfl rfl rfl (warm_ok h_i) ?_
      rintro _ h9 E9 rfl
      refine op_pure (pv_assign (v := .bool _) rfl) ?_
      refine xp_ret ?_
      exact ⟨rfl, fun V => (Ext.trans (Ext.trans (Ext.trans (Ext.trans (Ext.trans (Ext.trans (Ext.trans (Ext.trans (Ext.trans (Ext.trans E1 E2) E3) E4) E5) GW) G0) GZ) E_i) E9) (ext_wl V)), rfl⟩
end Go.Proofs.Ytndfkbapoinmkaa
