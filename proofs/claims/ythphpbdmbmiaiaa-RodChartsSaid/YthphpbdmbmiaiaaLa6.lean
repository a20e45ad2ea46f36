/- An own logic over the model, its walks and its plain laws, joined of parts R37 R38 GT R39 Rt R40 R41 R42 Ru R54 R55 R57 R22 Ud GU R56 R58 R59. Conditions: as each theorem states. -/
import Derived.Test.YthphpbdmbmiaiaaLa5
import Derived.Test.YthphpbdmbmiaiaaLa3
import Derived.Test.YthphpbdmbmiaiaaLa2
import Derived.Test.YthphpbdmbmiaiaaRows
import Derived.Deep.Slices
import Derived.ProofKit
import Derived.Test.YthphpbdmbmiaiaaLa1
set_option linter.all false
/- Walks of the reference: all sets, all hands. Conditions: as each theorem states. -/
namespace Go.Proofs.Ythphpbdmbmiaiaa
open Go Go.HL Go.Proofs Go.Wx Go.Rd
section
variable [Lvl]
set_option maxRecDepth 100000
set_option maxHeartbeats 4000000 in
theorem choicesR_ok (n : Nat) (hn : n ≤ 20) : ∀ (many a : Nat) (h : AH) (a' m' : Int), a' = a → m' = many → many ≤ 40 → a ≤ 40 →
    FnT Try.prog 125 #[.int .i64 a', .int .i64 n, .int .i64 m'] h (fun v h' => SlL h' (chosM n many a) v) := by
  intro many
  induction many with
  | zero =>
    intro a h a' m' ea em _ _
    subst ea em
    refine call_body Try.func125 rfl Try.ntmps125 rfl ?_
    refine xp_seq ?_
    refine xp_region rfl ?_
    refine op_pure (pv_assign (v := .slice _ _ _) rfl) ?_
    refine xp_seq ?_
    refine xp_seq ?_
    refine xp_region rfl ?_
    refine op_pure (pv_move (v := .int .i64 _) rfl) ?_
    refine op_pure (pv_of (v := .bool _) rfl) ?_
    refine xp_condT rfl (rfl) ?_
    refine xp_seq ?_
    refine xp_region rfl ?_
    refine op_buildSlice (zc := [_]) (vs := [(0, .slice _ _ _)]) (cs := [_]) rfl rfl rfl rfl rfl rfl rfl fun b13 hb13 => ?_
    refine wp_norm [_] rfl ?_
    refine op_pure (pv_assign (v := .slice _ _ _) rfl) ?_
    refine xp_ret ?_
    refine res_list (vs := [_]) Try.results125 ⟨resV_tmp rfl rfl, trivial⟩ fun V => ?_
    exact ⟨(ext_wl V), SlX.of (cs := [[.slice none 0 0]]) ⟨fun x hx => by simp at hx; subst hx; rfl, fun _ => ⟨b13, 0, rfl, cellsB (cs := [.slice none 0 0]) (wl_get V (i := 0) rfl)⟩⟩ (els_one ⟨_, rfl, none, 0, rfl, row_nil _ _⟩) rfl⟩
  | succ m ih =>
    intro a h a' m' ea em hm ha
    subst ea em
    obtain ⟨f, hf⟩ : ∃ f, f = fun i : Nat => (chosM n m (i + 1)).map ((i : Int) :: ·) := ⟨_, rfl⟩
    have hlt : ∀ d, d ≤ n - a → (choP f a d).length ≤ 2 ^ n := fun d hd => by rw [hf]; exact chos_lt hd
    have h2n : 2 ^ n ≤ 2 ^ 20 := Nat.pow_le_pow_right (by omega) hn
    rw [show chosM n (m + 1) a = choP f a (n - a) by rw [hf]; rfl]
    refine call_body Try.func125 rfl Try.ntmps125 rfl ?_
    refine xp_seq ?_
    refine xp_region rfl ?_
    refine op_pure (pv_assign (v := .slice _ _ _) rfl) ?_
    refine xp_seq ?_
    refine xp_seq ?_
    refine xp_region rfl ?_
    refine op_pure (pv_move (v := .int .i64 _) rfl) ?_
    refine op_pure (pv_of (v := .bool _) rfl) ?_
    refine xp_condF rfl (by simp; omega) ?_
    refine xp_skip ?_
    refine goes_more ?_
    refine goes_norm [_] rfl ?_
    refine xp_seq ?_
    refine xp_region rfl ?_
    refine op_pure (pv_assign (v := .slice _ _ _) rfl) ?_
    refine xp_seq ?_
    refine xp_seq ?_
    refine xp_region rfl ?_
    refine op_pure (pv_move (v := .int .i64 _) rfl) ?_
    refine op_pure (pv_assign (v := .int .i64 _) rfl) ?_
    refine xp_block ?_
    refine xp_loopL [7, 8, 9, 10, 15, 16, 17, 18, 19, 20, 21, 22, 23, 24, 25, 26, 27, 28, 29, 30, 31, 32, 33, 34, 35, 36, 37, 38, 39, 40, 41] 1 (α := Nat × Acc × List (List Value)) (fun ⟨d, ac, cs⟩ => [(8, .int .i64 ((a + d : Nat) : Int)), (7, .slice ac.A ac.n ac.c)]) (fun ⟨d, ac, cs⟩ L => L.set 0 (ac.p)) (fun ⟨d, ac, cs⟩ h_d => d ≤ n - a ∧ AccR 22 1 (cs.flatMap id) ac ∧ Els h_d TL (choP f a d) cs ∧ ∀ x ∈ cs, x.length = 1) (fun ⟨d, ac, cs⟩ => n - a - d) ((0, acc0, [])) ⟨rfl, rfl, trivial⟩ (rfl) (⟨Nat.zero_le _, accR0, Els.nil _ _, fun _ hx => absurd hx List.not_mem_nil⟩) ?_
    rintro ⟨d, ac, cs⟩ T1 h_d E_d J_d
    refine goes_norm [_] rfl ?_
    obtain ⟨J1, J2, J3, J4⟩ := J_d
    refine xp_seq ?_
    refine xp_seq ?_
    refine xp_region rfl ?_
    refine op_pure (pv_move (v := .int .i64 _) rfl) ?_
    refine op_pure (pv_move (v := .int .i64 _) rfl) ?_
    refine op_pure (pv_of (v := .bool _) rfl) ?_
    refine xp_cond rfl (fun hd => ?_) (fun hd => ?_)
    · skip
      have hd' : a + d < n := by have := of_decide_eq_true hd; omega
      have hstep : choP f a (d + 1) = choP f a d ++ (chosM n m (a + d + 1)).map (((a + d : Nat) : Int) :: ·) := by rw [choP_succ, hf]
      have htot := hlt (d + 1) (by omega)
      rw [hstep, List.length_append, List.length_map] at htot
      refine xp_skip ?_
      refine xp_seq ?_
      refine xp_block ?_
      refine xp_seq ?_
      refine xp_region rfl ?_
      refine op_pure (pv_move (v := .int .i64 _) rfl) ?_
      refine op_pure (pv_arith rfl (by omega)) ?_
      refine op_pure (pv_move (v := .int .i64 _) rfl) ?_
      refine op_pure (pv_move (v := .int .i64 _) rfl) ?_
      refine op_pure (pv_arith rfl (by omega)) ?_
      refine op_fn (caps := []) (vs := [.int .i64 _, .int .i64 _, .int .i64 _]) rfl rfl rfl (ih (a + d + 1) h_d _ _ (by omega) (by omega) (by omega) (by omega)) ?_
      rintro _ h1 E1 S1
      obtain ⟨gs, RA, cR, rfl, RR, EE⟩ := SlX.els S1
      obtain ⟨rs, hrs⟩ : ∃ rs, rs = chosM n m (a + d + 1) := ⟨_, rfl⟩
      have hrm : ∀ x ∈ rs, x.length = m := fun x hx => (chos_set (by rw [← hrs]; exact hx)).2
      rw [← hrs] at EE htot hstep ⊢
      refine op_pure (pv_assign (v := .slice _ _ _) rfl) ?_
      refine xp_seq ?_
      refine xp_region rfl ?_
      refine op_pure (pv_assign (v := .int .i64 _) rfl) ?_
      refine xp_block ?_
      refine xp_loopL [7, 10, 26, 27, 28, 29, 30, 31, 32, 33, 34, 35, 36, 37, 38, 39, 40, 41] 1 (α := Nat × Acc × List (List Value)) (fun ⟨k, a2, ds⟩ => [(10, .int .i64 k), (7, .slice a2.A a2.n a2.c)]) (fun ⟨k, a2, ds⟩ L => L.set 0 (a2.p)) (fun ⟨k, a2, ds⟩ h_k => k ≤ rs.length ∧ AccR 22 1 (ds.flatMap id) a2 ∧ Els h_k TL (choP f a d ++ (rs.take k).map (((a + d : Nat) : Int) :: ·)) ds ∧ ∀ x ∈ ds, x.length = 1) (fun ⟨k, a2, ds⟩ => rs.length - k) ((0, ac, cs)) ⟨rfl, rfl, trivial⟩ (rfl) (⟨Nat.zero_le _, J2, by simpa using J3.ext TL.mono E1, J4⟩) ?_
      rintro ⟨k, a2, ds⟩ T2 h_k E_k J_k
      refine goes_norm [_] rfl ?_
      obtain ⟨K1, K2, K3, K4⟩ := J_k
      refine xp_seq ?_
      refine xp_seq ?_
      refine xp_region rfl ?_
      refine op_pure (pv_move (v := .int .i64 _) rfl) ?_
      refine op_pure (pv_move (v := .slice _ _ _) rfl) ?_
      refine op_pure (pv_len rfl rfl) ?_
      refine op_pure (pv_of (v := .bool _) rfl) ?_
      refine xp_cond rfl (fun hk => ?_) (fun hk => ?_)
      · skip
        have hkl : k < rs.length := ltI hk
        have hkm := hrm _ (List.getElem_mem hkl)
        obtain ⟨hkc, y0, e0, XA, cX, rfl, RX⟩ := (EE.ext TL.mono E_k).at hkl
        obtain ⟨g, off, hA, hc⟩ := (RR.ext E_k).at (by omega) hkc
        have hc : Cells h_k g (off + k * 1) [.slice XA rs[k].length cX] := by rw [← e0]; exact hc
        have hdl : (ds.flatMap id).length = (choP f a d).length + k := by rw [flat_len (enc := id) (m := 1) K4, K3.1]; simp; omega
        refine xp_skip ?_
        refine xp_seq ?_
        refine xp_block ?_
        refine xp_region rfl ?_
        refine op_pure (pv_move (v := .slice _ _ _) rfl) ?_
        refine op_pure (pv_move (v := .int .i64 _) rfl) ?_
        refine op_buildSlice (zc := [_]) (vs := [(0, .int .i64 _)]) (cs := [_]) rfl rfl rfl rfl rfl rfl rfl fun b34 hb34 => ?_
        refine wp_norm [_, _] rfl ?_
        refine op_pure (pv_move (v := .slice _ _ _) rfl) ?_
        refine op_pure (pv_move (v := .int .i64 _) rfl) ?_
        refine op_pure (pv_indexE (m := 1) rfl hA rfl rfl rfl (by omega) (by omega)) ?_
        refine op_load (v := .slice _ _ _) rfl rfl ((hc) 0 _ rfl) ?_
        refine op_appendR 1 accR_one rfl rfl rfl (fun V => RX.2.ext (ext_wl V)) (flat_len RX.1) (flat_plain intP2 rs[k]) rfl rfl rfl rfl rfl rfl rfl (by omega) rfl (by rw [flat_len RX.1]; simp; omega) fun a3 h3a E3a ha3 => ?_
        refine wp_norm [_, _] rfl ?_
        refine wp_pubO 1 rfl rfl ?_
        intro g8 G8 P8
        refine wp_norm [_, _] rfl ?_
        have R8 : Row g8 1 intC a3.A (((a + d : Nat) : Int) :: rs[k]) := ⟨fun _ _ => rfl, AccR.rd ha3 P8⟩
        have n8 : a3.n = (((a + d : Nat) : Int) :: rs[k]).length := by have := AccR.len ha3; rw [List.length_append, flat_len RX.1] at this; simp at this; simp; omega
        refine op_buildSlice (zc := [_]) (vs := [(0, .slice _ _ _)]) (cs := [_]) rfl rfl rfl rfl rfl rfl rfl fun b40 hb40 => ?_
        refine wp_norm [_, _, _] rfl ?_
        refine op_appendR 0 K2 rfl rfl rfl (fun V => rdP V (i := 2) rfl) rfl rfl rfl rfl rfl rfl rfl rfl rfl (by omega) rfl (by rw [hdl]; simp; omega) fun a4 h4a E4a ha4 => ?_
        refine wp_norm [_, _, _] rfl ?_
        refine op_pure (pv_assign (v := .slice _ _ _) rfl) ?_
        refine xp_region rfl ?_
        refine op_pure (pv_move (v := .int .i64 _) rfl) ?_
        refine op_pure (pv_arith rfl (by omega)) ?_
        refine op_pure (pv_assign (v := .int .i64 _) rfl) ?_
        refine ⟨(k + 1, a4, ds ++ [[.slice a3.A a3.n a3.c]]), ⟨rfl, rfl, trivial⟩, rfl, rfl, (Ext.trans (Ext.trans (Ext.trans E_k E3a) G8) E4a), fun h3 E3 => ⟨hkl, by rw [List.flatMap_append]; exact ha4, by rw [take_snoc hkl, List.map_append, ← List.append_assoc]; exact ((K3.ext TL.mono (Ext.trans (Ext.trans E3a G8) E4a)).snoc ⟨_, rfl, a3.A, a3.c, by rw [n8], R8.ext E4a⟩).ext TL.mono E3, one_len K4 rfl⟩, by first | omega | (dsimp only; omega), ?_⟩
        repeat (first | exact off_base _ _ _ | refine off_upd (by decide) ?_ | refine off_updL rfl ?_ | refine off_mix rfl ?_)
      · skip
        have hke : k = rs.length := by have := geI hk; omega
        subst hke
        rw [List.take_length, ← hstep] at K3
        refine xp_exit ?_
        refine xp_region rfl ?_
        refine op_pure (pv_move (v := .int .i64 _) rfl) ?_
        refine op_pure (pv_arith rfl (by omega)) ?_
        refine op_pure (pv_assign (v := .int .i64 _) rfl) ?_
        refine ⟨(d + 1, a2, ds), ⟨intE (by omega), rfl, trivial⟩, rfl, rfl, (Ext.trans (Ext.trans E_d E1) E_k), fun h3 E3 => ⟨by omega, K2, (K3.ext TL.mono (Ext.refl _)).ext TL.mono E3, K4⟩, by first | omega | (dsimp only; omega), ?_⟩
        repeat (first | exact off_base _ _ _ | refine off_upd (by decide) ?_ | refine off_updL rfl ?_ | refine off_mix rfl ?_)
    · skip
      have hde : d = n - a := by have := of_decide_eq_false hd; omega
      subst hde
      refine xp_exit ?_
      refine xp_seq ?_
      refine xp_region rfl ?_
      refine op_pure (pv_move (v := .slice _ _ _) rfl) ?_
      refine op_pure (pv_assign (v := .slice _ _ _) rfl) ?_
      refine xp_ret ?_
      refine res_list (vs := [_]) Try.results125 ⟨resV_tmp rfl rfl, trivial⟩ fun V => ?_
      exact ⟨(Ext.trans E_d (ext_wl V)), SlX.acc (i := 0) J2 (by omega) J4 V rfl (J3.ext TL.mono (ext_wl V))⟩
theorem els_app {α : Type} {h : AH} {T : AH → α → List Value → Prop} {l l' : List α} {cs cs' : List (List Value)} (r : Els h T l cs) (r' : Els h T l' cs') : Els h T (l ++ l') (cs ++ cs') := by
  refine ⟨by simp [r.1, r'.1], fun i y d h1 h2 => ?_⟩
  rw [List.getElem?_append] at h1 h2
  rw [r.1] at h2
  split at h1
  · rename_i hi; rw [if_pos hi] at h2; exact r.2 i y d h1 h2
  · rename_i hi; rw [if_neg hi] at h2; exact r'.2 _ y d h1 h2
theorem app_len1 {cs ds : List (List Value)} {m : Nat} (h : ∀ x ∈ cs, x.length = m) (h' : ∀ x ∈ ds, x.length = m) : ∀ x ∈ cs ++ ds, x.length = m := fun x hx => (List.mem_append.1 hx).elim (h x) (h' x)
theorem els_plain {h : AH} {l : List (List Int)} {cs : List (List Value)} (r : Els h TL l cs) : (cs.flatMap id).all plainB = true := by
  rw [List.all_eq_true]
  intro v hv
  obtain ⟨c, hc, hvc⟩ := List.mem_flatMap.1 hv
  obtain ⟨i, hi, rfl⟩ := List.getElem_of_mem hc
  obtain ⟨hci, y, e, A, cp, rfl, _⟩ := r.at (i := i) (by rw [← r.1]; exact hi)
  rw [e] at hvc
  simp at hvc
  subst hvc
  rfl
theorem sets_len {n : Nat} (hn : n ≤ 6) : ∀ k, k ≤ n + 1 → (choP (fun m => chosM n m 0) 0 k).length ≤ k * 2 ^ 6
  | 0, _ => by simp [choP_zero]
  | k + 1, hk => by
    have ih := sets_len hn k (by omega)
    have h1 := chos_len (n := n) (0 + k) 0
    have h2 : 2 ^ (n - 0) ≤ 2 ^ 6 := Nat.pow_le_pow_right (by omega) (by omega)
    rw [choP_succ, List.length_append, Nat.add_mul]
    omega
set_option maxHeartbeats 4000000 in
theorem setsR_ok (n : Nat) (hn : n ≤ 6) (n' : Int) (en : n' = n) (h : AH) :
    FnT Try.prog 101 #[.int .i64 n'] h (fun v h' => SlL h' (setsM n) v) := by
  subst en
  rw [setsM_eq]
  refine call_body Try.func101 rfl Try.ntmps101 rfl ?_
  refine xp_seq ?_
  refine xp_region rfl ?_
  refine op_pure (pv_assign (v := .slice _ _ _) rfl) ?_
  refine goes_more ?_
  refine goes_norm [_] rfl ?_
  refine xp_seq ?_
  refine xp_region rfl ?_
  refine op_pure (pv_assign (v := .slice _ _ _) rfl) ?_
  refine xp_seq ?_
  refine xp_seq ?_
  refine xp_region rfl ?_
  refine op_pure (pv_assign (v := .int .i64 _) rfl) ?_
  refine xp_block ?_
  refine xp_loopL [3, 4, 5, 6, 7, 8, 9, 10, 11, 12, 13, 14] 1 (α := Nat × Acc × List (List Value)) (fun ⟨k, ac, cs⟩ => [(4, .int .i64 k), (3, .slice ac.A ac.n ac.c)]) (fun ⟨k, ac, cs⟩ L => L.set 0 (ac.p)) (fun ⟨k, ac, cs⟩ h_k => k ≤ n + 1 ∧ AccR 22 1 (cs.flatMap id) ac ∧ Els h_k TL (choP (fun m => chosM n m 0) 0 k) cs ∧ ∀ x ∈ cs, x.length = 1) (fun ⟨k, ac, cs⟩ => n + 1 - k) ((0, acc0, [])) ⟨rfl, rfl, trivial⟩ (rfl) (⟨Nat.zero_le _, accR0, Els.nil _ _, fun _ hx => absurd hx List.not_mem_nil⟩) ?_
  rintro ⟨k, ac, cs⟩ T1 h_k E_k J_k
  refine goes_norm [_] rfl ?_
  obtain ⟨J1, J2, J3, J4⟩ := J_k
  refine xp_seq ?_
  refine xp_seq ?_
  refine xp_region rfl ?_
  refine op_pure (pv_move (v := .int .i64 _) rfl) ?_
  refine op_pure (pv_move (v := .int .i64 _) rfl) ?_
  refine op_pure (pv_of (v := .bool _) rfl) ?_
  refine xp_cond rfl (fun hk => ?_) (fun hk => ?_)
  · skip
    have hkl : k ≤ n := by have := of_decide_eq_true hk; omega
    have hs := sets_len hn k (by omega)
    have h1 := chos_len (n := n) k 0
    have h2 : 2 ^ (n - 0) ≤ 2 ^ 6 := Nat.pow_le_pow_right (by omega) (by omega)
    have hstep : choP (fun m => chosM n m 0) 0 (k + 1) = choP (fun m => chosM n m 0) 0 k ++ chosM n k 0 := by rw [choP_succ, Nat.zero_add]
    refine xp_skip ?_
    refine xp_seq ?_
    refine xp_block ?_
    refine xp_region rfl ?_
    refine op_pure (pv_move (v := .slice _ _ _) rfl) ?_
    refine op_pure (pv_move (v := .int .i64 _) rfl) ?_
    refine op_pure (pv_move (v := .int .i64 _) rfl) ?_
    refine op_fn (caps := []) (vs := [.int .i64 _, .int .i64 _, .int .i64 _]) rfl rfl rfl (choicesR_ok n (by omega) k 0 h_k _ _ rfl rfl (by omega) (by omega)) ?_
    rintro _ h5 E5 S5
    obtain ⟨gs, RA, cR, rfl, RR, EE⟩ := SlX.els S5
    have hdl : (cs.flatMap id).length = (choP (fun m => chosM n m 0) 0 k).length := by rw [flat_len (enc := id) (m := 1) J4, J3.1]; omega
    have hgl : (gs.flatMap id).length = (chosM n k 0).length * 1 := by rw [flat_len (enc := id) (m := 1) RR.1, EE.1]
    refine op_appendR 0 J2 rfl rfl rfl (fun V => RR.2.ext (ext_wl V)) hgl (els_plain EE) rfl rfl rfl rfl rfl rfl rfl (by omega) rfl (by rw [hdl, hgl]; omega) fun a4 h2a E2a ha4 => ?_
    refine wp_norm [_] rfl ?_
    refine op_pure (pv_assign (v := .slice _ _ _) rfl) ?_
    refine xp_region rfl ?_
    refine op_pure (pv_move (v := .int .i64 _) rfl) ?_
    refine op_pure (pv_arith rfl (by omega)) ?_
    refine op_pure (pv_assign (v := .int .i64 _) rfl) ?_
    refine ⟨(k + 1, a4, cs ++ gs), ⟨rfl, rfl, trivial⟩, rfl, rfl, (Ext.trans (Ext.trans E_k E5) E2a), fun h3 E3 => ⟨by omega, by rw [List.flatMap_append]; exact ha4, by rw [hstep]; exact (els_app (J3.ext TL.mono (Ext.trans E5 E2a)) (EE.ext TL.mono E2a)).ext TL.mono E3, app_len1 J4 RR.1⟩, by first | omega | (dsimp only; omega), ?_⟩
    repeat (first | exact off_base _ _ _ | refine off_upd (by decide) ?_ | refine off_updL rfl ?_ | refine off_mix rfl ?_)
  · skip
    have hke : k = n + 1 := by have := of_decide_eq_false hk; omega
    subst hke
    refine xp_exit ?_
    refine xp_seq ?_
    refine xp_region rfl ?_
    refine op_pure (pv_move (v := .slice _ _ _) rfl) ?_
    refine op_pure (pv_assign (v := .slice _ _ _) rfl) ?_
    refine xp_ret ?_
    refine res_list (vs := [_]) Try.results101 ⟨resV_tmp rfl rfl, trivial⟩ fun V => ?_
    exact ⟨(Ext.trans E_k (ext_wl V)), SlX.acc (i := 0) J2 (by omega) J4 V rfl (J3.ext TL.mono (ext_wl V))⟩
end
end Go.Proofs.Ythphpbdmbmiaiaa
/- Walks of the reference: all hands; equal lists; sets with a number more, or without one. Conditions: as each theorem states. -/
namespace Go.Proofs.Ythphpbdmbmiaiaa
open Go Go.HL Go.Proofs Go.Wx Go.Rd
section
variable [Lvl]
set_option maxRecDepth 100000
theorem setsM_len {n : Nat} (hn : n ≤ 6) : (setsM n).length ≤ 448 := by
  have h := sets_len hn (n + 1) (Nat.le_refl _)
  rw [setsM_eq]
  omega
theorem sameR_ok (a b : List Int) (A B : Option Addr) (ca cb : Nat) (h : AH) (Ra : Row h 1 intC A a) (Rb : Row h 1 intC B b) (ha : a.length < 2 ^ 40) (hb : b.length < 2 ^ 40) :
    FnT Try.prog 103 #[.slice A a.length ca, .slice B b.length cb] h (fun v _ => v = .bool (decide (a = b))) := by
  refine call_body Try.func103 rfl Try.ntmps103 rfl ?_
  refine xp_seq ?_
  refine xp_region rfl ?_
  refine op_pure (pv_assign (v := .bool _) rfl) ?_
  refine xp_seq ?_
  refine xp_seq ?_
  refine xp_region rfl ?_
  refine op_pure (pv_move (v := .slice _ _ _) rfl) ?_
  refine op_pure (pv_len rfl rfl) ?_
  refine op_pure (pv_move (v := .slice _ _ _) rfl) ?_
  refine op_pure (pv_len rfl rfl) ?_
  refine op_pure (pv_of (v := .bool _) rfl) ?_
  refine xp_cond rfl (fun hn => ?_) (fun hn => ?_)
  · skip
    have hn' : a.length ≠ b.length := by have : ((a.length : Int) != b.length) = true := hn; simp at this; omega
    refine xp_seq ?_
    refine xp_region rfl ?_
    refine op_pure (pv_assign (v := .bool _) rfl) ?_
    refine xp_ret ?_
    refine res_list (vs := [_]) Try.results103 ⟨resV_tmp rfl rfl, trivial⟩ fun V => ?_
    exact ⟨(ext_wl V), boolE (decide_eq_false fun e => hn' (by rw [e])).symm⟩
  · skip
    have hn' : a.length = b.length := by have : ((a.length : Int) != b.length) = false := hn; simp at this; omega
    refine xp_skip ?_
    refine xp_seq ?_
    refine xp_seq ?_
    refine xp_region rfl ?_
    refine op_pure (pv_assign (v := .int .i64 _) rfl) ?_
    refine xp_block ?_
    refine xp_loopB [4, 5, 11, 12, 13, 14, 15, 16, 17, 18, 19, 20, 21, 22, 23, 24, 25] 0 (α := Nat) (fun k => [(5, .int .i64 k)]) (fun k => _) (fun k h_k => k ≤ a.length ∧ a.take k = b.take k) (fun k => a.length - k) (0) ⟨rfl, trivial⟩ (rfl) (⟨Nat.zero_le _, by simp⟩) ?_
    rintro k T1 h_k E_k J_k
    refine goes_norm [] rfl ?_
    obtain ⟨K1, K2⟩ := J_k
    refine xp_seq ?_
    refine xp_seq ?_
    refine xp_region rfl ?_
    refine op_pure (pv_move (v := .int .i64 _) rfl) ?_
    refine op_pure (pv_move (v := .slice _ _ _) rfl) ?_
    refine op_pure (pv_len rfl rfl) ?_
    refine op_pure (pv_of (v := .bool _) rfl) ?_
    refine xp_cond rfl (fun hk => ?_) (fun hk => ?_)
    · skip
      have hka : k < a.length := ltI hk
      have hkb : k < b.length := by omega
      obtain ⟨g, off, hA, hc⟩ := (Ra.ext E_k).at (by omega) hka
      obtain ⟨g2, off2, hA2, hc2⟩ := (Rb.ext E_k).at (by omega) hkb
      refine xp_skip ?_
      refine xp_seq ?_
      refine xp_block ?_
      refine xp_seq ?_
      refine xp_dw [] rfl rfl rfl ?_
      refine dw_pure (i := 0) rfl (by decide +kernel) (pv_move (v := .slice _ _ _) rfl) ?_
      refine dw_pure (i := 1) rfl (by decide +kernel) (pv_move (v := .int .i64 _) rfl) ?_
      refine dw_pure (i := 2) rfl (by decide +kernel) (pv_indexE rfl hA rfl rfl rfl (by omega) (by omega)) ?_
      refine dw_load (i := 3) rfl (by decide +kernel) ?_
      refine op_load (v := .int .i64 _) rfl rfl ((hc) 0 _ rfl) ?_
      refine dw_pure (i := 4) rfl (by decide +kernel) (pv_move (v := .slice _ _ _) rfl) ?_
      refine dw_pure (i := 5) rfl (by decide +kernel) (pv_move (v := .int .i64 _) rfl) ?_
      refine dw_pure (i := 6) rfl (by decide +kernel) (pv_indexE rfl hA2 rfl rfl rfl (by omega) (by omega)) ?_
      refine dw_load (i := 7) rfl (by decide +kernel) ?_
      refine op_load (v := .int .i64 _) rfl rfl ((hc2) 0 _ rfl) ?_
      refine dw_pure (i := 8) rfl (by decide +kernel) (pv_of (v := .bool _) rfl) ?_
      refine dw_end rfl ?_
      refine xp_cond rfl (fun hd => ?_) (fun hd => ?_)
      · skip
        have hd' : a[k] ≠ b[k] := by simpa using hd
        refine xp_seq ?_
        refine xp_region rfl ?_
        refine op_pure (pv_assign (v := .bool _) rfl) ?_
        refine xp_ret ?_
        refine res_list (vs := [_]) Try.results103 ⟨resV_tmp rfl rfl, trivial⟩ fun V => ?_
        exact ⟨(Ext.trans E_k (ext_wl V)), boolE (decide_eq_false fun e => hd' (by subst e; rfl)).symm⟩
      · skip
        have hd' : a[k] = b[k] := by simpa using hd
        refine xp_skip ?_
        refine xp_region rfl ?_
        refine op_pure (pv_move (v := .int .i64 _) rfl) ?_
        refine op_pure (pv_arith rfl (by omega)) ?_
        refine op_pure (pv_assign (v := .int .i64 _) rfl) ?_
        refine ⟨k + 1, ⟨rfl, trivial⟩, rfl, rfl, E_k, fun h3 E3 => ⟨hka, by rw [take_snoc hka, take_snoc hkb, K2, hd']⟩, by first | omega | (dsimp only; omega), ?_⟩
        repeat (first | exact off_base _ _ _ | refine off_upd (by decide) ?_ | refine off_updL rfl ?_ | refine off_mix rfl ?_)
    · skip
      have hke : k = a.length := by have := geI hk; omega
      subst hke
      rw [List.take_length, hn', List.take_length] at K2
      refine xp_exit ?_
      refine xp_seq ?_
      refine xp_region rfl ?_
      refine op_pure (pv_assign (v := .bool _) rfl) ?_
      refine xp_ret ?_
      refine res_list (vs := [_]) Try.results103 ⟨resV_tmp rfl rfl, trivial⟩ fun V => ?_
      exact ⟨(Ext.trans E_k (ext_wl V)), boolE (decide_eq_true K2).symm⟩
end
end Go.Proofs.Ythphpbdmbmiaiaa
/- The own logic, part GT: the first and the last part of a slice. Conditions: none. -/
namespace Go.HL
open Go
variable [Lvl]
section
variable {P : Program} {n : Nat} {d : Option Tmp} {ty : TypeId} {ps : String} {af : Array Edge} {S : Sl}
end
end Go.HL
/- Walks of the reference: a machine without a pin, without a link; all faults. Conditions: as each theorem states. -/
namespace Go.Proofs.Ythphpbdmbmiaiaa
open Go Go.HL Go.Proofs Go.Wx Go.Rd
section
variable [Lvl]
set_option maxRecDepth 100000
theorem row_acc {α : Type} {e : TypeId} {m : Nat} {enc : α → List Value} {l : List α} {a : Acc} {L : Pv} {h : AH} {i : Nat} (r : AccR e m (l.flatMap enc) a) (hm : 0 < m) (hl : ∀ x ∈ l, (enc x).length = m) (V : Valid h L) (hi : L[i]? = some a.p) : Row (wl h L) m enc a.A l := by
  obtain ⟨A', c', e, r⟩ := AccP.row r hm hl V hi
  injection e with e1 e2 e3
  rw [e1]
  exact r
end
end Go.Proofs.Ythphpbdmbmiaiaa
/- Plain: a machine without pins and links sounds like one in which they lift and turn nothing. Conditions: none. -/
namespace Go.Rd
open Go Go.HL Go.Wx
variable [Lvl]
/-- m' is m without some pins and links that do nothing. -/
structure Mut (m m' : MachP) : Prop where
  lv : m'.levers = m.levers
  op : m'.opn = m.opn
  tv : m'.travel = m.travel
  bt : m'.buttons = m.buttons
  p1 : ∀ p ∈ m'.pins, p ∈ m.pins
  p2 : ∀ p ∈ m.pins, p.lag = m.travel ∨ p ∈ m'.pins
  l1 : ∀ l ∈ m'.links, l ∈ m.links
  l2 : ∀ l ∈ m.links, l.lag = m.travel ∨ l ∈ m'.links
end Go.Rd
/- Walks of the reference: what sounds with faults. Conditions: as each theorem states. -/
namespace Go.Proofs.Ythphpbdmbmiaiaa
open Go Go.HL Go.Proofs Go.Wx Go.Rd
section
variable [Lvl]
set_option maxRecDepth 100000
end
end Go.Proofs.Ythphpbdmbmiaiaa
/- Walks of the reference: Broken, told, Left; what is heard of a machine with faults. Conditions: as each theorem states. -/
namespace Go.Proofs.Ythphpbdmbmiaiaa
open Go Go.HL Go.Proofs Go.Wx Go.Rd
section
variable [Lvl]
set_option maxRecDepth 100000
end
end Go.Proofs.Ythphpbdmbmiaiaa
/- Walks: copies of what was heard; how many are left. Conditions: as each theorem states. -/
namespace Go.Proofs.Ythphpbdmbmiaiaa
open Go Go.HL Go.Proofs Go.Wx Go.Rd
section
variable [Lvl]
set_option maxRecDepth 100000
theorem Ints_ok (l : List Int) (A : Option Addr) (c : Nat) (h : AH) (R : Row h 1 intC A l) (hl : l.length < 2 ^ 20) :
    FnT Try.prog 56 #[.slice A l.length c] h (fun v h' => SlR h' 1 intC l v) := by
  refine call_body Try.func56 rfl Try.ntmps56 rfl ?_
  refine xp_seq ?_
  refine xp_region rfl ?_
  refine op_pure (pv_assign (v := .slice _ _ _) rfl) ?_
  refine xp_seq ?_
  refine xp_region rfl ?_
  refine op_buildSlice (zc := [_]) (vs := []) (cs := []) rfl rfl rfl rfl rfl rfl rfl fun b3 hb3 => ?_
  refine wp_norm [_] rfl ?_
  refine op_pure (pv_move (v := .slice _ _ _) rfl) ?_
  refine op_appendR 0 accR_new rfl rfl rfl (fun V => R.2.ext (Ext.trans (Ext.refl _) (ext_wl V))) (flat_len R.1) (flat_plain intP2 l) rfl rfl rfl rfl rfl rfl rfl (by omega) rfl (by rw [flat_len R.1, List.length_nil]; omega) fun a0 h1a E1a ha0 => ?_
  refine wp_norm [_] rfl ?_
  refine op_pure (pv_assign (v := .slice _ _ _) rfl) ?_
  refine xp_ret ?_
  refine res_list (vs := [_]) Try.results56 ⟨resV_tmp rfl rfl, trivial⟩ fun V => ?_
  exact ⟨(Ext.trans E1a (ext_wl V)), AccP.row (i := 0) ha0 (by omega) (fun _ _ => rfl) V rfl⟩
end
end Go.Proofs.Ythphpbdmbmiaiaa
/- Plain facts of package rod: the reference's sweeps at any depth. Conditions: as each theorem states. -/
namespace Go.Rd
open Go Go.HL Go.Wx
variable [Lvl]
/-- One list is another one, less c, but nothing below nothing. -/
def Cut (c : Int) (t t' : List Int) : Prop := t.length = t'.length ∧ ∀ j, t.getD j 0 = max 0 (t'.getD j 0 - c)
theorem press_cut {bs : List Int} {d D : Int} (hd : 0 ≤ d) (hD : d ≤ D) : ∀ (hb t t' : List Int), Cut (D - d) t t' → Cut (D - d) (pressR bs d hb t) (pressR bs D hb t')
  | [], _, _, h => h
  | b :: hb, t, t', h => press_cut hd hD hb _ _ ⟨by rw [List.length_set, List.length_set]; exact h.1, fun j => by
      show (t.set (bs.getD b.toNat 0).toNat d).getD j 0 = max 0 ((t'.set (bs.getD b.toNat 0).toNat D).getD j 0 - (D - d))
      rw [set_getD, set_getD, ← h.1]
      split
      · omega
      · exact h.2 j⟩
theorem links_cut {on : List Int} {c : Int} (hc : 0 ≤ c) : ∀ (ls : List LinkP) (t t' : List Int), (∀ l ∈ ls, 0 ≤ l.lag) → Cut c t t' → Cut c (linkM on ls t) (linkM on ls t')
  | [], _, _, _, h => h
  | l :: ls, t, t', hl, h => by
    have h0 := hl l (List.mem_cons_self ..)
    refine links_cut hc ls (if active on l then rise t l.to.toNat (t.getD l.frm.toNat 0 - l.lag) else t) (if active on l then rise t' l.to.toNat (t'.getD l.frm.toNat 0 - l.lag) else t') (fun x hx => hl x (List.mem_cons_of_mem _ hx)) ?_
    split
    · refine ⟨by rw [rise_len, rise_len]; exact h.1, fun j => ?_⟩
      rw [rise_getD, rise_getD, ← h.1]
      have e1 := h.2 l.to.toNat
      have e2 := h.2 l.frm.toNat
      split
      · omega
      · exact h.2 j
    · exact h
theorem sweep_cut {m : MachP} {a : HandP} (F : Fit m a) {d D : Int} (hd : 0 ≤ d) (hD : d ≤ D) : ∀ k, Cut (D - d) (sweepN m a (startR m a d) k) (sweepN m a (startR m a D) k)
  | 0 => press_cut hd hD _ _ _ ⟨rfl, fun j => by rw [repl_getD]; omega⟩
  | k + 1 => links_cut (by omega) m.links _ _ F.lag (sweep_cut F hd hD k)
theorem turnsR_at {m : MachP} {a : HandP} (M : MOK m) (F : Fit m a) {d : Int} (hd : 0 ≤ d) (hD : d ≤ m.travel) {r : Int} (h0 : 0 ≤ r) (h1 : r < m.rods) : (turnsR m a d).getD r.toNat 0 = turnF m a d r := by
  have e1 := (sweep_cut F hd hD m.rods.toNat).2 r.toNat
  have e2 := turnsR_getD M F h0 h1
  have e3 := turn_deep F hd hD h0
  rw [turnsR] at e2 ⊢
  rw [e1, e2, e3]
theorem liftsR_at {m : MachP} {a : HandP} (M : MOK m) (F : Fit m a) {d : Int} (hd : 0 ≤ d) (hD : d ≤ m.travel) : liftedM m (turnsR m a d) = liftedM m (turnedM m a d) :=
  pinsR m.pins _ fun p hp => turnsR_at M F hd hD (M.pin p hp).1.1 (M.pin p hp).1.2
/-- No lever is lifted by a button that is not pressed down at all. -/
theorem lift_none {m : MachP} {a : HandP} (M : MOK m) (F : Fit m a) {v : Int} (h0 : 0 ≤ v) (h1 : v < m.levers) : (liftedM m (turnedM m a 0)).getD v.toNat 0 < m.opn := by
  have := lift_le (D := 0) F (Int.le_refl _) (fun p hp => ⟨(M.pin p hp).1.1, (M.pin p hp).2.1.1, (M.pin p hp).2.2.1⟩) h0 h1
  unfold liftF at this
  have := M.opn
  omega
end Go.Rd
/- Walks of the reference: Turns, Lifts, Sounds, Force of any machine and hand; copies, equal machines. Conditions: as each theorem states. -/
namespace Go.Proofs.Ythphpbdmbmiaiaa
open Go Go.HL Go.Proofs Go.Wx Go.Rd
section
variable [Lvl]
set_option maxRecDepth 100000
/-- A machine with lists of some length. -/
structure Sml (m : MachP) : Prop where
  b : m.buttons.length < 2 ^ 20
  q : m.pins.length < 2 ^ 20
  l : m.links.length < 2 ^ 20
  w : m.weights.length < 2 ^ 20
structure SmlH (a : HandP) : Prop where
  b : a.buttons.length < 2 ^ 20
  o : a.on.length < 2 ^ 20
theorem checkS_ok (m : MachP) (S : Sml m) (a : HandP) (H : SmlH a) (AB AQ AL AW HA OA : Option Addr) (cB cQ cL cW cH cO : Nat) (h : AH) (RM : MachR h AB AQ AL AW m) (RH : HandR h HA OA a) :
    FnT Try.prog 83 #[machV AB AQ AL AW cB cQ cL cW m, handV HA OA cH cO a] h (fun v _ => v = .int .i64 (checkHandM m a)) :=
  checkG_ok m a AB AQ AL AW HA OA cB cQ cL cW cH cO h RM RH (Nat.lt_trans S.w (by decide)) (Nat.lt_trans S.b (by decide)) (Nat.lt_trans S.q (by decide)) (Nat.lt_trans S.l (by decide)) (Nat.lt_trans H.b (by decide)) (Nat.lt_trans H.o (by decide))
theorem SoundsG_ok (m : MachP) (S : Sml m) (a : HandP) (SH : SmlH a) (AB AQ AL AW HA OA : Option Addr) (cB cQ cL cW cH cO : Nat) (h : AH) (RM : MachR h AB AQ AL AW m) (RH : HandR h HA OA a) :
    FnT Try.prog 36 #[machV AB AQ AL AW cB cQ cL cW m, handV HA OA cH cO a] h (fun v h' => ∃ L, v = .tuple #[L, .int .i64 (checkHandM m a)] ∧ SlR h' 1 intC (soundsL m a) L) := by
  refine call_body Try.func36 rfl Try.ntmps36 rfl ?_
  refine xp_seq ?_
  refine xp_region rfl ?_
  refine op_box (v := .agg #[.int .i64 _, .int .i64 _, .int .i64 _, .int .i64 _, .int .i64 _, .slice _ _ _, .slice _ _ _, .slice _ _ _, .slice _ _ _]) (cs := [_, _, _, _, _, _, _, _, _]) rfl rfl fun b2 hb2 => ?_
  refine wp_norm [_] rfl ?_
  refine op_box (v := .agg #[.slice _ _ _, .slice _ _ _]) (cs := [_, _]) rfl rfl fun b3 hb3 => ?_
  refine wp_norm [_, _] rfl ?_
  refine op_pure (pv_assign (v := .slice _ _ _) rfl) ?_
  refine op_pure (pv_assign (v := .int .i64 _) rfl) ?_
  refine xp_seq ?_
  refine xp_seq ?_
  refine xp_region rfl ?_
  refine op_loadPA 0 (vs := [.int .i64 _, .int .i64 _, .int .i64 _, .int .i64 _, .int .i64 _, .slice _ _ _, .slice _ _ _, .slice _ _ _, .slice _ _ _]) rfl rfl rfl rfl rfl ?_
  refine op_loadPA 1 (vs := [.slice _ _ _, .slice _ _ _]) rfl rfl rfl rfl rfl ?_
  refine op_fn (caps := []) (vs := [.agg #[.int .i64 _, .int .i64 _, .int .i64 _, .int .i64 _, .int .i64 _, .slice _ _ _, .slice _ _ _, .slice _ _ _, .slice _ _ _], .agg #[.slice _ _ _, .slice _ _ _]]) rfl rfl rfl (checkS_ok m S a SH AB AQ AL AW HA OA cB cQ cL cW cH cO h (RM.ext (Ext.refl _)) (RH.ext (Ext.refl _))) ?_
  rintro _ h3 E3 rfl
  refine op_pure (pv_assign (v := .int .i64 _) rfl) ?_
  refine xp_seq ?_
  refine xp_region rfl ?_
  refine op_pure (pv_move (v := .int .i64 _) rfl) ?_
  refine op_pure (pv_of (v := .bool _) rfl) ?_
  refine xp_cond rfl (fun hc => ?_) (fun hc => ?_)
  · skip
    have hc' : checkHandM m a ≠ 0 := by simpa using hc
    refine xp_seq ?_
    refine xp_region rfl ?_
    refine op_pure (pv_move (v := .int .i64 _) rfl) ?_
    refine op_pure (pv_assign (v := .slice _ _ _) rfl) ?_
    refine op_pure (pv_assign (v := .int .i64 _) rfl) ?_
    refine xp_ret ?_
    refine res_list (vs := [_, _]) Try.results36 ⟨resV_tmp rfl rfl, resV_tmp rfl rfl, trivial⟩ fun V => ?_
    exact ⟨(Ext.trans E3 (ext_wl V)), _, rfl, none, 0, by rw [soundsL, if_neg hc']; rfl, by rw [soundsL, if_neg hc']; exact row_nil _ _⟩
  · skip
    have hc' : checkHandM m a = 0 := by simpa using hc
    obtain ⟨M, H⟩ := checkHand_ok0 hc'
    have F := fit_of M H
    refine xp_skip ?_
    refine xp_seq ?_
    refine xp_region rfl ?_
    refine op_loadPA 0 (vs := [.int .i64 _, .int .i64 _, .int .i64 _, .int .i64 _, .int .i64 _, .slice _ _ _, .slice _ _ _, .slice _ _ _, .slice _ _ _]) rfl rfl rfl rfl rfl ?_
    refine op_loadPA 1 (vs := [.slice _ _ _, .slice _ _ _]) rfl rfl rfl rfl rfl ?_
    refine op_fn (caps := []) (vs := [.agg #[.int .i64 _, .int .i64 _, .int .i64 _, .int .i64 _, .int .i64 _, .slice _ _ _, .slice _ _ _, .slice _ _ _, .slice _ _ _], .agg #[.slice _ _ _, .slice _ _ _]]) rfl rfl rfl (soundsR_ok m M a F AB AQ AL AW HA OA cB cQ cL cW cH cO h3 (RM.ext E3) (RH.ext E3)) ?_
    rintro _ h4 E4 ⟨A4, c4, rfl, S4⟩
    refine op_pure (pv_assign (v := .slice _ _ _) rfl) ?_
    refine op_pure (pv_assign (v := .int .i64 _) rfl) ?_
    refine xp_ret ?_
    refine res_list (vs := [_, _]) Try.results36 ⟨resV_tmp rfl rfl, resV_tmp rfl rfl, trivial⟩ fun V => ?_
    rw [hc', soundsL, if_pos hc']
    exact ⟨(Ext.trans (Ext.trans E3 E4) (ext_wl V)), _, rfl, A4, c4, rfl, S4.ext (ext_wl V)⟩
end
end Go.Proofs.Ythphpbdmbmiaiaa
/- Walks: copies of machines, equal machines; the reference's Force; lists that are too long. Conditions: as each theorem states. -/
namespace Go.Proofs.Ythphpbdmbmiaiaa
open Go Go.HL Go.Proofs Go.Wx Go.Rd
section
variable [Lvl]
set_option maxRecDepth 100000
/-- A machine's cells. -/
abbrev machC (AB AQ AL AW : Option Addr) (cB cQ cL cW : Nat) (m : MachP) : List Value := [.int .i64 m.rods, .int .i64 m.levers, .int .i64 m.regs, .int .i64 m.travel, .int .i64 m.opn, .slice AB m.buttons.length cB, .slice AQ m.pins.length cQ, .slice AL m.links.length cL, .slice AW m.weights.length cW]
/-- Machines as elements: pins and links have room. -/
def TMa (h : AH) (m : MachP) (c : List Value) : Prop := ∃ AB AQ AL AW cB cQ cL cW, c = machC AB AQ AL AW cB cQ cL cW m ∧ MachR h AB AQ AL AW m ∧ m.pins.length ≤ cQ ∧ m.links.length ≤ cL
theorem TMa.mono : Mono TMa := fun h h' m c e ⟨AB, AQ, AL, AW, cB, cQ, cL, cW, hc, r, s⟩ => ⟨AB, AQ, AL, AW, cB, cQ, cL, cW, hc, r.ext e, s⟩
theorem CopyMachine_ok (m : MachP) (S : Sml m) (AB AQ AL AW : Option Addr) (cB cQ cL cW : Nat) (h : AH) (R : MachR h AB AQ AL AW m) :
    FnT Try.prog 20 #[machV AB AQ AL AW cB cQ cL cW m] h (fun v h' => ∃ AB AQ AL AW cB cQ cL cW, v = machV AB AQ AL AW cB cQ cL cW m ∧ MachR h' AB AQ AL AW m) := by
  have s1 := S.b
  have s2 := S.q
  have s3 := S.l
  have s4 := S.w
  refine call_body Try.func20 rfl Try.ntmps20 rfl ?_
  refine xp_seq ?_
  refine xp_region rfl ?_
  refine op_box (v := .agg #[.int .i64 _, .int .i64 _, .int .i64 _, .int .i64 _, .int .i64 _, .slice _ _ _, .slice _ _ _, .slice _ _ _, .slice _ _ _]) (cs := [_, _, _, _, _, _, _, _, _]) rfl rfl fun b1 hb1 => ?_
  refine wp_norm [_] rfl ?_
  refine op_alloc (cs := [_, _, _, _, _, _, _, _, _]) rfl rfl fun b2 hb2 => ?_
  refine wp_norm [_, _] rfl ?_
  refine xp_seq ?_
  refine xp_dw [] rfl rfl rfl ?_
  refine dw_pure (i := 0) rfl (by decide +kernel) (pv_fieldAddr rfl rfl rfl rfl 5 rfl) ?_
  refine dw_load (i := 1) rfl (by decide +kernel) ?_
  refine op_loadP 0 (v := .slice _ _ _) rfl rfl rfl rfl ?_
  refine dw_pure (i := 3) rfl (by decide +kernel) (pv_fieldAddr rfl rfl rfl rfl 8 rfl) ?_
  refine dw_load (i := 4) rfl (by decide +kernel) ?_
  refine op_loadP 0 (v := .slice _ _ _) rfl rfl rfl rfl ?_
  refine dw_eff (i := 2) rfl (by decide +kernel) ?_
  refine op_fn (caps := []) (vs := [.slice _ _ _]) rfl rfl rfl (Ints_ok m.buttons AB cB h (R.b.ext (Ext.refl _)) s1) ?_
  rintro _ g0 G0 ⟨A1, c1, rfl, R1⟩
  refine ⟨ext_wlm G0 _, ?_⟩
  refine dw_pure (i := 6) rfl (by decide +kernel) (pv_fieldAddr rfl rfl rfl rfl 5 rfl) ?_
  refine dw_last (i := 5) rfl (by decide +kernel) (by decide +kernel) ?_
  refine op_fn (caps := []) (vs := [.slice _ _ _]) rfl rfl rfl (Ints_ok m.weights AW cW g0 (R.w.ext G0) s4) ?_
  rintro _ g1 G1 ⟨A4, c4, rfl, R4⟩
  refine dw_last (i := 7) rfl (by decide +kernel) (by decide +kernel) ?_
  refine op_storeP 0 (v := .slice _ _ _) (vs := [_]) (c' := [_, _, _, _, _, _, _, _, _]) rfl rfl rfl rfl rfl rfl rfl rfl rfl ?_
  refine dw_norm [_, _] rfl ?_
  refine dw_pure (i := 8) rfl (by decide +kernel) (pv_fieldAddr rfl rfl rfl rfl 8 rfl) ?_
  refine dw_last (i := 9) rfl (by decide +kernel) (by decide +kernel) ?_
  refine op_storeP 0 (v := .slice _ _ _) (vs := [_]) (c' := [_, _, _, _, _, _, _, _, _]) rfl rfl rfl rfl rfl rfl rfl rfl rfl ?_
  refine dw_norm [_, _] rfl ?_
  refine dw_end rfl ?_
  refine xp_seq ?_
  refine xp_dw [false, false, true, true] rfl rfl rfl ?_
  refine dw_pure (i := 1) rfl (by decide +kernel) (pv_fieldAddr rfl rfl rfl rfl 6 rfl) ?_
  refine dw_load (i := 2) rfl (by decide +kernel) ?_
  refine op_loadP 0 (v := .slice _ _ _) rfl rfl rfl rfl ?_
  refine dw_pure (i := 5) rfl (by decide +kernel) (pv_fieldAddr rfl rfl rfl rfl 7 rfl) ?_
  refine dw_load (i := 6) rfl (by decide +kernel) ?_
  refine op_loadP 0 (v := .slice _ _ _) rfl rfl rfl rfl ?_
  refine dw_eff (i := 0) rfl (by decide +kernel) ?_
  refine op_buildSlice (zc := [_, _, _]) (vs := []) (cs := []) rfl rfl rfl rfl rfl rfl rfl fun b11 hb11 => ?_
  refine ⟨ext_newM hb11 _, ?_⟩
  refine dw_norm [_, _, _] rfl ?_
  refine dw_eff (i := 3) rfl (by decide +kernel) ?_
  refine op_appendR 2 accR_new rfl rfl rfl (fun V => R.q.2.ext (Ext.trans (Ext.trans G0 G1) (ext_wl V))) (flat_len R.q.1) (flat_plain pinP m.pins) rfl rfl rfl rfl rfl rfl rfl (by omega) rfl (by rw [flat_len R.q.1, List.length_nil]; omega) fun a2 h1a E1a ha2 => ?_
  refine ⟨ext_wlm E1a _, ?_⟩
  refine dw_norm [_, _, _] rfl ?_
  refine dw_pure (i := 8) rfl (by decide +kernel) (pv_fieldAddr rfl rfl rfl rfl 6 rfl) ?_
  refine dw_eff (i := 4) rfl (by decide +kernel) ?_
  refine op_buildSlice (zc := [_, _, _, _]) (vs := []) (cs := []) rfl rfl rfl rfl rfl rfl rfl fun b15 hb15 => ?_
  refine ⟨ext_newM hb15 _, ?_⟩
  refine dw_norm [_, _, _, _] rfl ?_
  refine dw_last (i := 7) rfl (by decide +kernel) (by decide +kernel) ?_
  refine op_appendR 3 accR_new rfl rfl rfl (fun V => R.l.2.ext (Ext.trans (Ext.trans (Ext.trans G0 G1) E1a) (ext_wl V))) (flat_len R.l.1) (flat_plain linkP m.links) rfl rfl rfl rfl rfl rfl rfl (by omega) rfl (by rw [flat_len R.l.1, List.length_nil]; omega) fun a3 h2a E2a ha3 => ?_
  refine dw_norm [_, _, _, _] rfl ?_
  refine dw_last (i := 9) rfl (by decide +kernel) (by decide +kernel) ?_
  refine op_storeP 0 (v := .slice _ _ _) (vs := [_]) (c' := [_, _, _, _, _, _, _, _, _]) rfl rfl rfl rfl rfl rfl rfl rfl rfl ?_
  refine dw_norm [_, _, _, _] rfl ?_
  refine dw_pure (i := 10) rfl (by decide +kernel) (pv_fieldAddr rfl rfl rfl rfl 7 rfl) ?_
  refine dw_last (i := 11) rfl (by decide +kernel) (by decide +kernel) ?_
  refine op_storeP 0 (v := .slice _ _ _) (vs := [_]) (c' := [_, _, _, _, _, _, _, _, _]) rfl rfl rfl rfl rfl rfl rfl rfl rfl ?_
  refine dw_norm [_, _, _, _] rfl ?_
  refine dw_end rfl ?_
  refine xp_seq ?_
  refine xp_region rfl ?_
  refine op_loadPA 0 (vs := [.int .i64 _, .int .i64 _, .int .i64 _, .int .i64 _, .int .i64 _, .slice _ _ _, .slice _ _ _, .slice _ _ _, .slice _ _ _]) rfl rfl rfl rfl rfl ?_
  refine op_storeP 1 (v := .agg #[.int .i64 _, .int .i64 _, .int .i64 _, .int .i64 _, .int .i64 _, .slice _ _ _, .slice _ _ _, .slice _ _ _, .slice _ _ _]) (vs := [_, _, _, _, _, _, _, _, _]) (c' := [_, _, _, _, _, _, _, _, _]) rfl rfl rfl rfl rfl rfl rfl rfl rfl ?_
  refine wp_norm [_, _, _, _] rfl ?_
  refine xp_ret ?_
  refine res_list (vs := [_]) Try.results20 ⟨resV_agg 1 rfl rfl rfl rfl rfl (vs := [.int .i64 _, .int .i64 _, .int .i64 _, .int .i64 _, .int .i64 _, .slice _ _ _, .slice _ _ _, .slice _ _ _, .slice _ _ _]) rfl, trivial⟩ fun V => ?_
  have n2 : a2.n = m.pins.length := by have := AccR.len ha2; rw [List.nil_append, flat_len (m := 3) (fun _ _ => rfl)] at this; omega
  have n3 : a3.n = m.links.length := by have := AccR.len ha3; rw [List.nil_append, flat_len (m := 4) (fun _ _ => rfl)] at this; omega
  refine ⟨(Ext.trans (Ext.trans (Ext.trans (Ext.trans G0 G1) E1a) E2a) (ext_wl V)), A1, a2.A, a3.A, A4, c1, a2.c, a3.c, c4, by rw [n2, n3]; rfl, ⟨(R1.ext (Ext.trans (Ext.trans G1 E1a) E2a)).ext (ext_wl V), row_acc (i := 2) ha2 (by omega) (fun _ _ => rfl) V rfl, row_acc (i := 3) ha3 (by omega) (fun _ _ => rfl) V rfl, (R4.ext (Ext.trans E1a E2a)).ext (ext_wl V)⟩⟩
theorem pinEq (a b : PinP) : pev Try.prog (Op.equalIn Op.maxDepth 36 (.agg (pinC a).toArray) (.agg (pinC b).toArray)) = some (decide (a.rod = b.rod ∧ a.lever = b.lever ∧ a.lag = b.lag)) := by
  have h1 := eq_struct (P := Try.prog) (t := 36) (d := 9999) (fs := [_, _, _]) (xs := (pinC a).toArray) (ys := (pinC b).toArray) (rs := [a.rod == b.rod, a.lever == b.lever, a.lag == b.lag]) rfl (by kernel_rfl) rfl ?_
  · refine h1.trans ?_
    simp only [List.all_cons, List.all_nil, id, Bool.and_true, Option.some.injEq]
    rw [Bool.eq_iff_iff]
    simp
  · intro i f r hf hr
    match i, hf, hr with
    | 0, hf, hr => cases hf; cases hr; exact ⟨by decide, _, _, rfl, rfl, eq_int rfl _ _⟩
    | 1, hf, hr => cases hf; cases hr; exact ⟨by decide, _, _, rfl, rfl, eq_int rfl _ _⟩
    | 2, hf, hr => cases hf; cases hr; exact ⟨by decide, _, _, rfl, rfl, eq_int rfl _ _⟩
    | i + 3, hf, hr => simp at hf
theorem linkEq (a b : LinkP) : pev Try.prog (Op.equalIn Op.maxDepth 39 (.agg (linkC a).toArray) (.agg (linkC b).toArray)) = some (decide (a.frm = b.frm ∧ a.to = b.to ∧ a.reg = b.reg ∧ a.lag = b.lag)) := by
  have h1 := eq_struct (P := Try.prog) (t := 39) (d := 9999) (fs := [_, _, _, _]) (xs := (linkC a).toArray) (ys := (linkC b).toArray) (rs := [a.frm == b.frm, a.to == b.to, a.reg == b.reg, a.lag == b.lag]) rfl (by kernel_rfl) rfl ?_
  · refine h1.trans ?_
    simp only [List.all_cons, List.all_nil, id, Bool.and_true, Option.some.injEq]
    rw [Bool.eq_iff_iff]
    simp
  · intro i f r hf hr
    match i, hf, hr with
    | 0, hf, hr => cases hf; cases hr; exact ⟨by decide, _, _, rfl, rfl, eq_int rfl _ _⟩
    | 1, hf, hr => cases hf; cases hr; exact ⟨by decide, _, _, rfl, rfl, eq_int rfl _ _⟩
    | 2, hf, hr => cases hf; cases hr; exact ⟨by decide, _, _, rfl, rfl, eq_int rfl _ _⟩
    | 3, hf, hr => cases hf; cases hr; exact ⟨by decide, _, _, rfl, rfl, eq_int rfl _ _⟩
    | i + 4, hf, hr => simp at hf
theorem pinSelf (a : PinP) : pev Try.prog (Op.equalIn Op.maxDepth 36 (.agg (pinC a).toArray) (.agg (pinC a).toArray)) = some true := by rw [pinEq]; simp
theorem linkSelf (a : LinkP) : pev Try.prog (Op.equalIn Op.maxDepth 39 (.agg (linkC a).toArray) (.agg (linkC a).toArray)) = some true := by rw [linkEq]; simp
theorem sameIntsS_ok (a : List Int) (A B : Option Addr) (ca cb : Nat) (h : AH) (Ra : Row h 1 intC A a) (Rb : Row h 1 intC B a) (ha : a.length < 2 ^ 40) :
    FnT Try.prog 40 #[.slice A a.length ca, .slice B a.length cb] h (fun v _ => v = .bool true) :=
  (sameInts_ok a a A B ca cb h Ra Rb ha).mono (fun v _ e => ⟨e.1, e.2.trans (boolE (decide_eq_true rfl))⟩) fun _ _ e => e
/-- Two copies of one machine are the same. -/
theorem SameMachines_ok (m : MachP) (S : Sml m) (AB AQ AL AW : Option Addr) (cB cQ cL cW : Nat) (AB' AQ' AL' AW' : Option Addr) (cB' cQ' cL' cW' : Nat) (h : AH) (R : MachR h AB AQ AL AW m) (R' : MachR h AB' AQ' AL' AW' m) :
    FnT Try.prog 41 #[machV AB AQ AL AW cB cQ cL cW m, machV AB' AQ' AL' AW' cB' cQ' cL' cW' m] h (fun v _ => v = .bool true) := by
  have s1 := S.b
  have s2 := S.q
  have s3 := S.l
  have s4 := S.w
  have q1 : (m.rods == m.rods) = true := by simp
  have q2 : (m.levers == m.levers) = true := by simp
  have q3 : (m.regs == m.regs) = true := by simp
  have q4 : (m.travel == m.travel) = true := by simp
  have q5 : (m.opn == m.opn) = true := by simp
  have q6 : ((m.pins.length : Int) == (m.pins.length : Int)) = true := by simp
  have q7 : ((m.links.length : Int) == (m.links.length : Int)) = true := by simp
  refine call_body Try.func41 rfl Try.ntmps41 rfl ?_
  refine xp_seq ?_
  refine xp_region rfl ?_
  refine op_box (v := .agg #[.int .i64 _, .int .i64 _, .int .i64 _, .int .i64 _, .int .i64 _, .slice _ _ _, .slice _ _ _, .slice _ _ _, .slice _ _ _]) (cs := [_, _, _, _, _, _, _, _, _]) rfl rfl fun b2 hb2 => ?_
  refine wp_norm [_] rfl ?_
  refine op_box (v := .agg #[.int .i64 _, .int .i64 _, .int .i64 _, .int .i64 _, .int .i64 _, .slice _ _ _, .slice _ _ _, .slice _ _ _, .slice _ _ _]) (cs := [_, _, _, _, _, _, _, _, _]) rfl rfl fun b3 hb3 => ?_
  refine wp_norm [_, _] rfl ?_
  refine op_pure (pv_assign (v := .bool _) rfl) ?_
  refine xp_seq ?_
  refine xp_region rfl ?_
  refine op_pure (pv_fieldAddr rfl rfl rfl rfl 0 rfl) ?_
  refine op_loadP 0 (v := .int .i64 _) rfl rfl rfl rfl ?_
  refine op_pure (pv_fieldAddr rfl rfl rfl rfl 0 rfl) ?_
  refine op_loadP 1 (v := .int .i64 _) rfl rfl rfl rfl ?_
  refine op_pure (pv_of (v := .bool _) rfl) ?_
  refine op_pure (pv_move (v := .bool _) rfl) ?_
  refine guard_yes rfl q1 ?_
  refine op_pure (pv_fieldAddr rfl rfl rfl rfl 1 rfl) ?_
  refine guard_yes rfl q1 ?_
  refine op_loadP 0 (v := .int .i64 _) rfl rfl rfl rfl ?_
  refine guard_yes rfl q1 ?_
  refine op_pure (pv_fieldAddr rfl rfl rfl rfl 1 rfl) ?_
  refine guard_yes rfl q1 ?_
  refine op_loadP 1 (v := .int .i64 _) rfl rfl rfl rfl ?_
  refine guard_yes rfl q1 ?_
  refine op_pure (pv_of (v := .bool _) rfl) ?_
  refine op_pure (pv_pickT rfl q1 (v := .bool _) rfl) ?_
  refine op_pure (pv_move (v := .bool _) rfl) ?_
  refine guard_yes rfl q2 ?_
  refine op_pure (pv_fieldAddr rfl rfl rfl rfl 2 rfl) ?_
  refine guard_yes rfl q2 ?_
  refine op_loadP 0 (v := .int .i64 _) rfl rfl rfl rfl ?_
  refine guard_yes rfl q2 ?_
  refine op_pure (pv_fieldAddr rfl rfl rfl rfl 2 rfl) ?_
  refine guard_yes rfl q2 ?_
  refine op_loadP 1 (v := .int .i64 _) rfl rfl rfl rfl ?_
  refine guard_yes rfl q2 ?_
  refine op_pure (pv_of (v := .bool _) rfl) ?_
  refine op_pure (pv_pickT rfl q2 (v := .bool _) rfl) ?_
  refine op_pure (pv_move (v := .bool _) rfl) ?_
  refine guard_yes rfl q3 ?_
  refine op_pure (pv_fieldAddr rfl rfl rfl rfl 3 rfl) ?_
  refine guard_yes rfl q3 ?_
  refine op_loadP 0 (v := .int .i64 _) rfl rfl rfl rfl ?_
  refine guard_yes rfl q3 ?_
  refine op_pure (pv_fieldAddr rfl rfl rfl rfl 3 rfl) ?_
  refine guard_yes rfl q3 ?_
  refine op_loadP 1 (v := .int .i64 _) rfl rfl rfl rfl ?_
  refine guard_yes rfl q3 ?_
  refine op_pure (pv_of (v := .bool _) rfl) ?_
  refine op_pure (pv_pickT rfl q3 (v := .bool _) rfl) ?_
  refine op_pure (pv_move (v := .bool _) rfl) ?_
  refine guard_yes rfl q4 ?_
  refine op_pure (pv_fieldAddr rfl rfl rfl rfl 4 rfl) ?_
  refine guard_yes rfl q4 ?_
  refine op_loadP 0 (v := .int .i64 _) rfl rfl rfl rfl ?_
  refine guard_yes rfl q4 ?_
  refine op_pure (pv_fieldAddr rfl rfl rfl rfl 4 rfl) ?_
  refine guard_yes rfl q4 ?_
  refine op_loadP 1 (v := .int .i64 _) rfl rfl rfl rfl ?_
  refine guard_yes rfl q4 ?_
  refine op_pure (pv_of (v := .bool _) rfl) ?_
  refine op_pure (pv_pickT rfl q4 (v := .bool _) rfl) ?_
  refine op_pure (pv_move (v := .bool _) rfl) ?_
  refine guard_yes rfl q5 ?_
  refine op_pure (pv_fieldAddr rfl rfl rfl rfl 5 rfl) ?_
  refine guard_yes rfl q5 ?_
  refine op_loadP 0 (v := .slice _ _ _) rfl rfl rfl rfl ?_
  refine guard_yes rfl q5 ?_
  refine op_pure (pv_fieldAddr rfl rfl rfl rfl 5 rfl) ?_
  refine guard_yes rfl q5 ?_
  refine op_loadP 1 (v := .slice _ _ _) rfl rfl rfl rfl ?_
  refine guard_yes rfl q5 ?_
  refine op_fn (caps := []) (vs := [.slice _ _ _, .slice _ _ _]) rfl rfl rfl (sameIntsS_ok m.buttons _ _ _ _ h (R.b.ext (Ext.refl _)) (R'.b.ext (Ext.refl _)) (by omega)) ?_
  rintro _ h3 E3 rfl
  refine op_pure (pv_pickT rfl q5 (v := .bool _) rfl) ?_
  refine op_pure (pv_move (v := .bool _) rfl) ?_
  refine guard_yes rfl rfl ?_
  refine op_pure (pv_fieldAddr rfl rfl rfl rfl 8 rfl) ?_
  refine guard_yes rfl rfl ?_
  refine op_loadP 0 (v := .slice _ _ _) rfl rfl rfl rfl ?_
  refine guard_yes rfl rfl ?_
  refine op_pure (pv_fieldAddr rfl rfl rfl rfl 8 rfl) ?_
  refine guard_yes rfl rfl ?_
  refine op_loadP 1 (v := .slice _ _ _) rfl rfl rfl rfl ?_
  refine guard_yes rfl rfl ?_
  refine op_fn (caps := []) (vs := [.slice _ _ _, .slice _ _ _]) rfl rfl rfl (sameIntsS_ok m.weights _ _ _ _ h3 (R.w.ext E3) (R'.w.ext E3) (by omega)) ?_
  rintro _ h4 E4 rfl
  refine op_pure (pv_pickT rfl rfl (v := .bool _) rfl) ?_
  refine op_pure (pv_move (v := .bool _) rfl) ?_
  refine guard_yes rfl rfl ?_
  refine op_pure (pv_fieldAddr rfl rfl rfl rfl 6 rfl) ?_
  refine guard_yes rfl rfl ?_
  refine op_loadP 0 (v := .slice _ _ _) rfl rfl rfl rfl ?_
  refine guard_yes rfl rfl ?_
  refine op_pure (pv_len rfl rfl) ?_
  refine guard_yes rfl rfl ?_
  refine op_pure (pv_fieldAddr rfl rfl rfl rfl 6 rfl) ?_
  refine guard_yes rfl rfl ?_
  refine op_loadP 1 (v := .slice _ _ _) rfl rfl rfl rfl ?_
  refine guard_yes rfl rfl ?_
  refine op_pure (pv_len rfl rfl) ?_
  refine guard_yes rfl rfl ?_
  refine op_pure (pv_of (v := .bool _) rfl) ?_
  refine op_pure (pv_pickT rfl rfl (v := .bool _) rfl) ?_
  refine op_pure (pv_move (v := .bool _) rfl) ?_
  refine guard_yes rfl q6 ?_
  refine op_pure (pv_fieldAddr rfl rfl rfl rfl 7 rfl) ?_
  refine guard_yes rfl q6 ?_
  refine op_loadP 0 (v := .slice _ _ _) rfl rfl rfl rfl ?_
  refine guard_yes rfl q6 ?_
  refine op_pure (pv_len rfl rfl) ?_
  refine guard_yes rfl q6 ?_
  refine op_pure (pv_fieldAddr rfl rfl rfl rfl 7 rfl) ?_
  refine guard_yes rfl q6 ?_
  refine op_loadP 1 (v := .slice _ _ _) rfl rfl rfl rfl ?_
  refine guard_yes rfl q6 ?_
  refine op_pure (pv_len rfl rfl) ?_
  refine guard_yes rfl q6 ?_
  refine op_pure (pv_of (v := .bool _) rfl) ?_
  refine op_pure (pv_pickT rfl q6 (v := .bool _) rfl) ?_
  refine op_pure (pv_assign (v := .bool _) rfl) ?_
  refine xp_seq ?_
  refine xp_seq ?_
  refine xp_region rfl ?_
  refine op_pure (pv_assign (v := .int .i64 _) rfl) ?_
  refine xp_block ?_
  refine xp_loopB [5, 6, 73, 74, 75, 76, 77, 78, 79, 80, 81, 82, 83, 84, 85, 86, 87, 88, 89, 90, 91, 92, 93] 2 (α := Nat) (fun k => [(5, .bool true), (6, .int .i64 k)]) (fun k => _) (fun k h_k => k ≤ m.pins.length) (fun k => m.pins.length - k) (0) ⟨boolE q7, rfl, trivial⟩ (rfl) (Nat.zero_le _) ?_
  rintro k T1 h_k E_k J_k
  refine goes_norm [_, _] rfl ?_
  refine xp_seq ?_
  refine xp_seq ?_
  refine xp_region rfl ?_
  refine op_pure (pv_move (v := .bool _) rfl) ?_
  refine op_pure (pv_move (v := .bool _) rfl) ?_
  refine guard_yes rfl rfl ?_
  refine op_pure (pv_move (v := .int .i64 _) rfl) ?_
  refine guard_yes rfl rfl ?_
  refine op_pure (pv_fieldAddr rfl rfl rfl rfl 6 rfl) ?_
  refine guard_yes rfl rfl ?_
  refine op_loadP 0 (v := .slice _ _ _) rfl rfl rfl rfl ?_
  refine guard_yes rfl rfl ?_
  refine op_pure (pv_len rfl rfl) ?_
  refine guard_yes rfl rfl ?_
  refine op_pure (pv_of (v := .bool _) rfl) ?_
  refine op_pure (pv_pickT rfl rfl (v := .bool _) rfl) ?_
  refine xp_cond rfl (fun ht => ?_) (fun ht => ?_)
  · skip
    have hkl : k < m.pins.length := ltI ht
    obtain ⟨g, off, hA, hc⟩ := (R.q.ext (Ext.trans (Ext.trans E3 E4) E_k)).at (by omega) hkl
    obtain ⟨g2, off2, hB, hd⟩ := (R'.q.ext (Ext.trans (Ext.trans E3 E4) E_k)).at (by omega) hkl
    refine xp_skip ?_
    refine xp_seq ?_
    refine xp_block ?_
    refine xp_dw [] rfl rfl rfl ?_
    refine dw_pure (i := 0) rfl (by decide +kernel) (pv_fieldAddr rfl rfl rfl rfl 6 rfl) ?_
    refine dw_load (i := 1) rfl (by decide +kernel) ?_
    refine op_loadP 0 (v := .slice _ _ _) rfl rfl rfl rfl ?_
    refine dw_pure (i := 2) rfl (by decide +kernel) (pv_move (v := .int .i64 _) rfl) ?_
    refine dw_pure (i := 3) rfl (by decide +kernel) (pv_indexE rfl hA rfl rfl rfl (by omega) (by omega)) ?_
    refine dw_load (i := 4) rfl (by decide +kernel) ?_
    refine op_loadA rfl rfl rfl rfl (hc) ?_
    refine dw_pure (i := 5) rfl (by decide +kernel) (pv_fieldAddr rfl rfl rfl rfl 6 rfl) ?_
    refine dw_load (i := 6) rfl (by decide +kernel) ?_
    refine op_loadP 1 (v := .slice _ _ _) rfl rfl rfl rfl ?_
    refine dw_pure (i := 7) rfl (by decide +kernel) (pv_move (v := .int .i64 _) rfl) ?_
    refine dw_pure (i := 8) rfl (by decide +kernel) (pv_indexE rfl hB rfl rfl rfl (by omega) (by omega)) ?_
    refine dw_load (i := 9) rfl (by decide +kernel) ?_
    refine op_loadA rfl rfl rfl rfl (hd) ?_
    refine dw_pure (i := 10) rfl (by decide +kernel) (pv_eqA rfl rfl (by kernel_rfl) (pinSelf _)) ?_
    refine dw_pure (i := 11) rfl (by decide +kernel) (pv_assign (v := .bool _) rfl) ?_
    refine dw_end rfl ?_
    refine xp_region rfl ?_
    refine op_pure (pv_move (v := .int .i64 _) rfl) ?_
    refine op_pure (pv_arith rfl (by omega)) ?_
    refine op_pure (pv_assign (v := .int .i64 _) rfl) ?_
    refine ⟨k + 1, ⟨rfl, rfl, trivial⟩, rfl, rfl, E_k, fun h3 E3 => hkl, by first | omega | (dsimp only; omega), ?_⟩
    repeat (first | exact off_base _ _ _ | refine off_upd (by decide) ?_ | refine off_updL rfl ?_ | refine off_mix rfl ?_)
  · skip
    have hke : k = m.pins.length := by have := geI ht; omega
    subst hke
    refine xp_exit ?_
    refine xp_seq ?_
    refine xp_seq ?_
    refine xp_region rfl ?_
    refine op_pure (pv_assign (v := .int .i64 _) rfl) ?_
    refine xp_block ?_
    refine xp_loopB [5, 7, 94, 95, 96, 97, 98, 99, 100, 101, 102, 103, 104, 105, 106, 107, 108, 109, 110, 111, 112, 113, 114] 2 (α := Nat) (fun j => [(5, .bool true), (7, .int .i64 j)]) (fun j => _) (fun j h_j => j ≤ m.links.length) (fun j => m.links.length - j) (0) ⟨rfl, rfl, trivial⟩ (rfl) (Nat.zero_le _) ?_
    rintro j T2 h_j E_j J_j
    refine goes_norm [_, _] rfl ?_
    refine xp_seq ?_
    refine xp_seq ?_
    refine xp_region rfl ?_
    refine op_pure (pv_move (v := .bool _) rfl) ?_
    refine op_pure (pv_move (v := .bool _) rfl) ?_
    refine guard_yes rfl rfl ?_
    refine op_pure (pv_move (v := .int .i64 _) rfl) ?_
    refine guard_yes rfl rfl ?_
    refine op_pure (pv_fieldAddr rfl rfl rfl rfl 7 rfl) ?_
    refine guard_yes rfl rfl ?_
    refine op_loadP 0 (v := .slice _ _ _) rfl rfl rfl rfl ?_
    refine guard_yes rfl rfl ?_
    refine op_pure (pv_len rfl rfl) ?_
    refine guard_yes rfl rfl ?_
    refine op_pure (pv_of (v := .bool _) rfl) ?_
    refine op_pure (pv_pickT rfl rfl (v := .bool _) rfl) ?_
    refine xp_cond rfl (fun hj => ?_) (fun hj => ?_)
    · skip
      have hkl : j < m.links.length := ltI hj
      obtain ⟨g, off, hA, hc⟩ := (R.l.ext (Ext.trans (Ext.trans (Ext.trans E3 E4) E_k) E_j)).at (by omega) hkl
      obtain ⟨g2, off2, hB, hd⟩ := (R'.l.ext (Ext.trans (Ext.trans (Ext.trans E3 E4) E_k) E_j)).at (by omega) hkl
      refine xp_skip ?_
      refine xp_seq ?_
      refine xp_block ?_
      refine xp_dw [] rfl rfl rfl ?_
      refine dw_pure (i := 0) rfl (by decide +kernel) (pv_fieldAddr rfl rfl rfl rfl 7 rfl) ?_
      refine dw_load (i := 1) rfl (by decide +kernel) ?_
      refine op_loadP 0 (v := .slice _ _ _) rfl rfl rfl rfl ?_
      refine dw_pure (i := 2) rfl (by decide +kernel) (pv_move (v := .int .i64 _) rfl) ?_
      refine dw_pure (i := 3) rfl (by decide +kernel) (pv_indexE rfl hA rfl rfl rfl (by omega) (by omega)) ?_
      refine dw_load (i := 4) rfl (by decide +kernel) ?_
      refine op_loadA rfl rfl rfl rfl (hc) ?_
      refine dw_pure (i := 5) rfl (by decide +kernel) (pv_fieldAddr rfl rfl rfl rfl 7 rfl) ?_
      refine dw_load (i := 6) rfl (by decide +kernel) ?_
      refine op_loadP 1 (v := .slice _ _ _) rfl rfl rfl rfl ?_
      refine dw_pure (i := 7) rfl (by decide +kernel) (pv_move (v := .int .i64 _) rfl) ?_
      refine dw_pure (i := 8) rfl (by decide +kernel) (pv_indexE rfl hB rfl rfl rfl (by omega) (by omega)) ?_
      refine dw_load (i := 9) rfl (by decide +kernel) ?_
      refine op_loadA rfl rfl rfl rfl (hd) ?_
      refine dw_pure (i := 10) rfl (by decide +kernel) (pv_eqA rfl rfl (by kernel_rfl) (linkSelf _)) ?_
      refine dw_pure (i := 11) rfl (by decide +kernel) (pv_assign (v := .bool _) rfl) ?_
      refine dw_end rfl ?_
      refine xp_region rfl ?_
      refine op_pure (pv_move (v := .int .i64 _) rfl) ?_
      refine op_pure (pv_arith rfl (by omega)) ?_
      refine op_pure (pv_assign (v := .int .i64 _) rfl) ?_
      refine ⟨j + 1, ⟨rfl, rfl, trivial⟩, rfl, rfl, E_j, fun h3 E3 => hkl, by first | omega | (dsimp only; omega), ?_⟩
      repeat (first | exact off_base _ _ _ | refine off_upd (by decide) ?_ | refine off_updL rfl ?_ | refine off_mix rfl ?_)
    · skip
      refine xp_exit ?_
      refine xp_seq ?_
      refine xp_region rfl ?_
      refine op_pure (pv_move (v := .bool _) rfl) ?_
      refine op_pure (pv_assign (v := .bool _) rfl) ?_
      refine xp_ret ?_
      refine res_list (vs := [_]) Try.results41 ⟨resV_tmp rfl rfl, trivial⟩ fun V => ?_
      exact ⟨(Ext.trans (Ext.trans (Ext.trans (Ext.trans E3 E4) E_k) E_j) (ext_wl V)), rfl⟩
def largeB (m : MachP) (a : HandP) : Bool := decide ((m.buttons.length : Int) > 20) || decide ((m.pins.length : Int) > 20) || decide ((m.links.length : Int) > 20) || decide ((m.weights.length : Int) > 20) || decide ((a.buttons.length : Int) > 20) || decide ((a.on.length : Int) > 20)
theorem large_ok (m : MachP) (a : HandP) (AB AQ AL AW HA OA : Option Addr) (cB cQ cL cW cH cO : Nat) (h : AH) :
    FnT Try.prog 32 #[machV AB AQ AL AW cB cQ cL cW m, handV HA OA cH cO a] h (fun v _ => v = .bool (largeB m a)) := by
  refine call_body Try.func32 rfl Try.ntmps32 rfl ?_
  refine xp_seq ?_
  refine xp_region rfl ?_
  refine op_box (v := .agg #[.int .i64 _, .int .i64 _, .int .i64 _, .int .i64 _, .int .i64 _, .slice _ _ _, .slice _ _ _, .slice _ _ _, .slice _ _ _]) (cs := [_, _, _, _, _, _, _, _, _]) rfl rfl fun b2 hb2 => ?_
  refine wp_norm [_] rfl ?_
  refine op_box (v := .agg #[.slice _ _ _, .slice _ _ _]) (cs := [_, _]) rfl rfl fun b3 hb3 => ?_
  refine wp_norm [_, _] rfl ?_
  refine op_pure (pv_assign (v := .bool _) rfl) ?_
  rcases Bool.eq_false_or_eq_true (decide ((m.buttons.length : Int) > 20)) with e0 | e0
  · skip
    refine xp_seq ?_
    refine xp_region rfl ?_
    refine op_pure (pv_fieldAddr rfl rfl rfl rfl 5 rfl) ?_
    refine op_loadP 0 (v := .slice _ _ _) rfl rfl rfl rfl ?_
    refine op_pure (pv_len rfl rfl) ?_
    refine op_pure (pv_of (v := .bool _) rfl) ?_
    refine op_pure (pv_move (v := .bool _) rfl) ?_
    refine guard_no rfl e0 ?_
    refine guard_no rfl e0 ?_
    refine guard_no rfl e0 ?_
    refine guard_no rfl e0 ?_
    refine op_pure (pv_pickT rfl e0 (v := .bool _) rfl) ?_
    refine op_pure (pv_move (v := .bool _) rfl) ?_
    refine guard_no rfl rfl ?_
    refine guard_no rfl rfl ?_
    refine guard_no rfl rfl ?_
    refine guard_no rfl rfl ?_
    refine op_pure (pv_pickT rfl rfl (v := .bool _) rfl) ?_
    refine op_pure (pv_move (v := .bool _) rfl) ?_
    refine guard_no rfl rfl ?_
    refine guard_no rfl rfl ?_
    refine guard_no rfl rfl ?_
    refine guard_no rfl rfl ?_
    refine op_pure (pv_pickT rfl rfl (v := .bool _) rfl) ?_
    refine op_pure (pv_move (v := .bool _) rfl) ?_
    refine guard_no rfl rfl ?_
    refine guard_no rfl rfl ?_
    refine guard_no rfl rfl ?_
    refine guard_no rfl rfl ?_
    refine op_pure (pv_pickT rfl rfl (v := .bool _) rfl) ?_
    refine op_pure (pv_move (v := .bool _) rfl) ?_
    refine guard_no rfl rfl ?_
    refine guard_no rfl rfl ?_
    refine guard_no rfl rfl ?_
    refine guard_no rfl rfl ?_
    refine op_pure (pv_pickT rfl rfl (v := .bool _) rfl) ?_
    refine op_pure (pv_assign (v := .bool _) rfl) ?_
    refine xp_ret ?_
    refine res_list (vs := [_]) Try.results32 ⟨resV_tmp rfl rfl, trivial⟩ fun V => ?_
    exact ⟨(ext_wl V), boolE (by rw [largeB, e0]; simp)⟩
  · skip
    rcases Bool.eq_false_or_eq_true (decide ((m.pins.length : Int) > 20)) with e1 | e1
    · skip
      refine xp_seq ?_
      refine xp_region rfl ?_
      refine op_pure (pv_fieldAddr rfl rfl rfl rfl 5 rfl) ?_
      refine op_loadP 0 (v := .slice _ _ _) rfl rfl rfl rfl ?_
      refine op_pure (pv_len rfl rfl) ?_
      refine op_pure (pv_of (v := .bool _) rfl) ?_
      refine op_pure (pv_move (v := .bool _) rfl) ?_
      refine guard_yes rfl e0 ?_
      refine op_pure (pv_fieldAddr rfl rfl rfl rfl 6 rfl) ?_
      refine guard_yes rfl e0 ?_
      refine op_loadP 0 (v := .slice _ _ _) rfl rfl rfl rfl ?_
      refine guard_yes rfl e0 ?_
      refine op_pure (pv_len rfl rfl) ?_
      refine guard_yes rfl e0 ?_
      refine op_pure (pv_of (v := .bool _) rfl) ?_
      refine op_pure (pv_pickF rfl e0 (v := .bool _) rfl) ?_
      refine op_pure (pv_move (v := .bool _) rfl) ?_
      refine guard_no rfl e1 ?_
      refine guard_no rfl e1 ?_
      refine guard_no rfl e1 ?_
      refine guard_no rfl e1 ?_
      refine op_pure (pv_pickT rfl e1 (v := .bool _) rfl) ?_
      refine op_pure (pv_move (v := .bool _) rfl) ?_
      refine guard_no rfl rfl ?_
      refine guard_no rfl rfl ?_
      refine guard_no rfl rfl ?_
      refine guard_no rfl rfl ?_
      refine op_pure (pv_pickT rfl rfl (v := .bool _) rfl) ?_
      refine op_pure (pv_move (v := .bool _) rfl) ?_
      refine guard_no rfl rfl ?_
      refine guard_no rfl rfl ?_
      refine guard_no rfl rfl ?_
      refine guard_no rfl rfl ?_
      refine op_pure (pv_pickT rfl rfl (v := .bool _) rfl) ?_
      refine op_pure (pv_move (v := .bool _) rfl) ?_
      refine guard_no rfl rfl ?_
      refine guard_no rfl rfl ?_
      refine guard_no rfl rfl ?_
      refine guard_no rfl rfl ?_
      refine op_pure (pv_pickT rfl rfl (v := .bool _) rfl) ?_
      refine op_pure (pv_assign (v := .bool _) rfl) ?_
      refine xp_ret ?_
      refine res_list (vs := [_]) Try.results32 ⟨resV_tmp rfl rfl, trivial⟩ fun V => ?_
      exact ⟨(ext_wl V), boolE (by rw [largeB, e0, e1]; simp)⟩
    · skip
      rcases Bool.eq_false_or_eq_true (decide ((m.links.length : Int) > 20)) with e2 | e2
      · skip
        refine xp_seq ?_
        refine xp_region rfl ?_
        refine op_pure (pv_fieldAddr rfl rfl rfl rfl 5 rfl) ?_
        refine op_loadP 0 (v := .slice _ _ _) rfl rfl rfl rfl ?_
        refine op_pure (pv_len rfl rfl) ?_
        refine op_pure (pv_of (v := .bool _) rfl) ?_
        refine op_pure (pv_move (v := .bool _) rfl) ?_
        refine guard_yes rfl e0 ?_
        refine op_pure (pv_fieldAddr rfl rfl rfl rfl 6 rfl) ?_
        refine guard_yes rfl e0 ?_
        refine op_loadP 0 (v := .slice _ _ _) rfl rfl rfl rfl ?_
        refine guard_yes rfl e0 ?_
        refine op_pure (pv_len rfl rfl) ?_
        refine guard_yes rfl e0 ?_
        refine op_pure (pv_of (v := .bool _) rfl) ?_
        refine op_pure (pv_pickF rfl e0 (v := .bool _) rfl) ?_
        refine op_pure (pv_move (v := .bool _) rfl) ?_
        refine guard_yes rfl e1 ?_
        refine op_pure (pv_fieldAddr rfl rfl rfl rfl 7 rfl) ?_
        refine guard_yes rfl e1 ?_
        refine op_loadP 0 (v := .slice _ _ _) rfl rfl rfl rfl ?_
        refine guard_yes rfl e1 ?_
        refine op_pure (pv_len rfl rfl) ?_
        refine guard_yes rfl e1 ?_
        refine op_pure (pv_of (v := .bool _) rfl) ?_
        refine op_pure (pv_pickF rfl e1 (v := .bool _) rfl) ?_
        refine op_pure (pv_move (v := .bool _) rfl) ?_
        refine guard_no rfl e2 ?_
        refine guard_no rfl e2 ?_
        refine guard_no rfl e2 ?_
        refine guard_no rfl e2 ?_
        refine op_pure (pv_pickT rfl e2 (v := .bool _) rfl) ?_
        refine op_pure (pv_move (v := .bool _) rfl) ?_
        refine guard_no rfl rfl ?_
        refine guard_no rfl rfl ?_
        refine guard_no rfl rfl ?_
        refine guard_no rfl rfl ?_
        refine op_pure (pv_pickT rfl rfl (v := .bool _) rfl) ?_
        refine op_pure (pv_move (v := .bool _) rfl) ?_
        refine guard_no rfl rfl ?_
        refine guard_no rfl rfl ?_
        refine guard_no rfl rfl ?_
        refine guard_no rfl rfl ?_
        refine op_pure (pv_pickT rfl rfl (v := .bool _) rfl) ?_
        refine op_pure (pv_assign (v := .bool _) rfl) ?_
        refine xp_ret ?_
        refine res_list (vs := [_]) Try.results32 ⟨resV_tmp rfl rfl, trivial⟩ fun V => ?_
        exact ⟨(ext_wl V), boolE (by rw [largeB, e0, e1, e2]; simp)⟩
      · skip
        rcases Bool.eq_false_or_eq_true (decide ((m.weights.length : Int) > 20)) with e3 | e3
        · skip
          refine xp_seq ?_
          refine xp_region rfl ?_
          refine op_pure (pv_fieldAddr rfl rfl rfl rfl 5 rfl) ?_
          refine op_loadP 0 (v := .slice _ _ _) rfl rfl rfl rfl ?_
          refine op_pure (pv_len rfl rfl) ?_
          refine op_pure (pv_of (v := .bool _) rfl) ?_
          refine op_pure (pv_move (v := .bool _) rfl) ?_
          refine guard_yes rfl e0 ?_
          refine op_pure (pv_fieldAddr rfl rfl rfl rfl 6 rfl) ?_
          refine guard_yes rfl e0 ?_
          refine op_loadP 0 (v := .slice _ _ _) rfl rfl rfl rfl ?_
          refine guard_yes rfl e0 ?_
          refine op_pure (pv_len rfl rfl) ?_
          refine guard_yes rfl e0 ?_
          refine op_pure (pv_of (v := .bool _) rfl) ?_
          refine op_pure (pv_pickF rfl e0 (v := .bool _) rfl) ?_
          refine op_pure (pv_move (v := .bool _) rfl) ?_
          refine guard_yes rfl e1 ?_
          refine op_pure (pv_fieldAddr rfl rfl rfl rfl 7 rfl) ?_
          refine guard_yes rfl e1 ?_
          refine op_loadP 0 (v := .slice _ _ _) rfl rfl rfl rfl ?_
          refine guard_yes rfl e1 ?_
          refine op_pure (pv_len rfl rfl) ?_
          refine guard_yes rfl e1 ?_
          refine op_pure (pv_of (v := .bool _) rfl) ?_
          refine op_pure (pv_pickF rfl e1 (v := .bool _) rfl) ?_
          refine op_pure (pv_move (v := .bool _) rfl) ?_
          refine guard_yes rfl e2 ?_
          refine op_pure (pv_fieldAddr rfl rfl rfl rfl 8 rfl) ?_
          refine guard_yes rfl e2 ?_
          refine op_loadP 0 (v := .slice _ _ _) rfl rfl rfl rfl ?_
          refine guard_yes rfl e2 ?_
          refine op_pure (pv_len rfl rfl) ?_
          refine guard_yes rfl e2 ?_
          refine op_pure (pv_of (v := .bool _) rfl) ?_
          refine op_pure (pv_pickF rfl e2 (v := .bool _) rfl) ?_
          refine op_pure (pv_move (v := .bool _) rfl) ?_
          refine guard_no rfl e3 ?_
          refine guard_no rfl e3 ?_
          refine guard_no rfl e3 ?_
          refine guard_no rfl e3 ?_
          refine op_pure (pv_pickT rfl e3 (v := .bool _) rfl) ?_
          refine op_pure (pv_move (v := .bool _) rfl) ?_
          refine guard_no rfl rfl ?_
          refine guard_no rfl rfl ?_
          refine guard_no rfl rfl ?_
          refine guard_no rfl rfl ?_
          refine op_pure (pv_pickT rfl rfl (v := .bool _) rfl) ?_
          refine op_pure (pv_assign (v := .bool _) rfl) ?_
          refine xp_ret ?_
          refine res_list (vs := [_]) Try.results32 ⟨resV_tmp rfl rfl, trivial⟩ fun V => ?_
          exact ⟨(ext_wl V), boolE (by rw [largeB, e0, e1, e2, e3]; simp)⟩
        · skip
          rcases Bool.eq_false_or_eq_true (decide ((a.buttons.length : Int) > 20)) with e4 | e4
          · skip
            refine xp_seq ?_
            refine xp_region rfl ?_
            refine op_pure (pv_fieldAddr rfl rfl rfl rfl 5 rfl) ?_
            refine op_loadP 0 (v := .slice _ _ _) rfl rfl rfl rfl ?_
            refine op_pure (pv_len rfl rfl) ?_
            refine op_pure (pv_of (v := .bool _) rfl) ?_
            refine op_pure (pv_move (v := .bool _) rfl) ?_
            refine guard_yes rfl e0 ?_
            refine op_pure (pv_fieldAddr rfl rfl rfl rfl 6 rfl) ?_
            refine guard_yes rfl e0 ?_
            refine op_loadP 0 (v := .slice _ _ _) rfl rfl rfl rfl ?_
            refine guard_yes rfl e0 ?_
            refine op_pure (pv_len rfl rfl) ?_
            refine guard_yes rfl e0 ?_
            refine op_pure (pv_of (v := .bool _) rfl) ?_
            refine op_pure (pv_pickF rfl e0 (v := .bool _) rfl) ?_
            refine op_pure (pv_move (v := .bool _) rfl) ?_
            refine guard_yes rfl e1 ?_
            refine op_pure (pv_fieldAddr rfl rfl rfl rfl 7 rfl) ?_
            refine guard_yes rfl e1 ?_
            refine op_loadP 0 (v := .slice _ _ _) rfl rfl rfl rfl ?_
            refine guard_yes rfl e1 ?_
            refine op_pure (pv_len rfl rfl) ?_
            refine guard_yes rfl e1 ?_
            refine op_pure (pv_of (v := .bool _) rfl) ?_
            refine op_pure (pv_pickF rfl e1 (v := .bool _) rfl) ?_
            refine op_pure (pv_move (v := .bool _) rfl) ?_
            refine guard_yes rfl e2 ?_
            refine op_pure (pv_fieldAddr rfl rfl rfl rfl 8 rfl) ?_
            refine guard_yes rfl e2 ?_
            refine op_loadP 0 (v := .slice _ _ _) rfl rfl rfl rfl ?_
            refine guard_yes rfl e2 ?_
            refine op_pure (pv_len rfl rfl) ?_
            refine guard_yes rfl e2 ?_
            refine op_pure (pv_of (v := .bool _) rfl) ?_
            refine op_pure (pv_pickF rfl e2 (v := .bool _) rfl) ?_
            refine op_pure (pv_move (v := .bool _) rfl) ?_
            refine guard_yes rfl e3 ?_
            refine op_pure (pv_fieldAddr rfl rfl rfl rfl 0 rfl) ?_
            refine guard_yes rfl e3 ?_
            refine op_loadP 1 (v := .slice _ _ _) rfl rfl rfl rfl ?_
            refine guard_yes rfl e3 ?_
            refine op_pure (pv_len rfl rfl) ?_
            refine guard_yes rfl e3 ?_
            refine op_pure (pv_of (v := .bool _) rfl) ?_
            refine op_pure (pv_pickF rfl e3 (v := .bool _) rfl) ?_
            refine op_pure (pv_move (v := .bool _) rfl) ?_
            refine guard_no rfl e4 ?_
            refine guard_no rfl e4 ?_
            refine guard_no rfl e4 ?_
            refine guard_no rfl e4 ?_
            refine op_pure (pv_pickT rfl e4 (v := .bool _) rfl) ?_
            refine op_pure (pv_assign (v := .bool _) rfl) ?_
            refine xp_ret ?_
            refine res_list (vs := [_]) Try.results32 ⟨resV_tmp rfl rfl, trivial⟩ fun V => ?_
            exact ⟨(ext_wl V), boolE (by rw [largeB, e0, e1, e2, e3, e4]; simp)⟩
          · skip
            refine xp_seq ?_
            refine xp_region rfl ?_
            refine op_pure (pv_fieldAddr rfl rfl rfl rfl 5 rfl) ?_
            refine op_loadP 0 (v := .slice _ _ _) rfl rfl rfl rfl ?_
            refine op_pure (pv_len rfl rfl) ?_
            refine op_pure (pv_of (v := .bool _) rfl) ?_
            refine op_pure (pv_move (v := .bool _) rfl) ?_
            refine guard_yes rfl e0 ?_
            refine op_pure (pv_fieldAddr rfl rfl rfl rfl 6 rfl) ?_
            refine guard_yes rfl e0 ?_
            refine op_loadP 0 (v := .slice _ _ _) rfl rfl rfl rfl ?_
            refine guard_yes rfl e0 ?_
            refine op_pure (pv_len rfl rfl) ?_
            refine guard_yes rfl e0 ?_
            refine op_pure (pv_of (v := .bool _) rfl) ?_
            refine op_pure (pv_pickF rfl e0 (v := .bool _) rfl) ?_
            refine op_pure (pv_move (v := .bool _) rfl) ?_
            refine guard_yes rfl e1 ?_
            refine op_pure (pv_fieldAddr rfl rfl rfl rfl 7 rfl) ?_
            refine guard_yes rfl e1 ?_
            refine op_loadP 0 (v := .slice _ _ _) rfl rfl rfl rfl ?_
            refine guard_yes rfl e1 ?_
            refine op_pure (pv_len rfl rfl) ?_
            refine guard_yes rfl e1 ?_
            refine op_pure (pv_of (v := .bool _) rfl) ?_
            refine op_pure (pv_pickF rfl e1 (v := .bool _) rfl) ?_
            refine op_pure (pv_move (v := .bool _) rfl) ?_
            refine guard_yes rfl e2 ?_
            refine op_pure (pv_fieldAddr rfl rfl rfl rfl 8 rfl) ?_
            refine guard_yes rfl e2 ?_
            refine op_loadP 0 (v := .slice _ _ _) rfl rfl rfl rfl ?_
            refine guard_yes rfl e2 ?_
            refine op_pure (pv_len rfl rfl) ?_
            refine guard_yes rfl e2 ?_
            refine op_pure (pv_of (v := .bool _) rfl) ?_
            refine op_pure (pv_pickF rfl e2 (v := .bool _) rfl) ?_
            refine op_pure (pv_move (v := .bool _) rfl) ?_
            refine guard_yes rfl e3 ?_
            refine op_pure (pv_fieldAddr rfl rfl rfl rfl 0 rfl) ?_
            refine guard_yes rfl e3 ?_
            refine op_loadP 1 (v := .slice _ _ _) rfl rfl rfl rfl ?_
            refine guard_yes rfl e3 ?_
            refine op_pure (pv_len rfl rfl) ?_
            refine guard_yes rfl e3 ?_
            refine op_pure (pv_of (v := .bool _) rfl) ?_
            refine op_pure (pv_pickF rfl e3 (v := .bool _) rfl) ?_
            refine op_pure (pv_move (v := .bool _) rfl) ?_
            refine guard_yes rfl e4 ?_
            refine op_pure (pv_fieldAddr rfl rfl rfl rfl 1 rfl) ?_
            refine guard_yes rfl e4 ?_
            refine op_loadP 1 (v := .slice _ _ _) rfl rfl rfl rfl ?_
            refine guard_yes rfl e4 ?_
            refine op_pure (pv_len rfl rfl) ?_
            refine guard_yes rfl e4 ?_
            refine op_pure (pv_of (v := .bool _) rfl) ?_
            refine op_pure (pv_pickF rfl e4 (v := .bool _) rfl) ?_
            refine op_pure (pv_assign (v := .bool _) rfl) ?_
            refine xp_ret ?_
            refine res_list (vs := [_]) Try.results32 ⟨resV_tmp rfl rfl, trivial⟩ fun V => ?_
            exact ⟨(ext_wl V), boolE (by rw [largeB, e0, e1, e2, e3, e4]; rfl)⟩
theorem large_sml {m : MachP} {a : HandP} (h : largeB m a = false) : Sml m ∧ SmlH a := by
  simp only [largeB, Bool.or_eq_false_iff, decide_eq_false_iff_not] at h
  obtain ⟨⟨⟨⟨⟨h1, h2⟩, h3⟩, h4⟩, h5⟩, h6⟩ := h
  exact ⟨⟨by omega, by omega, by omega, by omega⟩, ⟨by omega, by omega⟩⟩
end
end Go.Proofs.Ythphpbdmbmiaiaa
/- Walks of the reference: Force, Depth, Chart, Chord of any machine. Conditions: as each theorem states. -/
namespace Go.Proofs.Ythphpbdmbmiaiaa
open Go Go.HL Go.Proofs Go.Wx Go.Rd
section
variable [Lvl]
set_option maxRecDepth 100000
end
end Go.Proofs.Ythphpbdmbmiaiaa
/- Walks: more buttons, pins and links. Conditions: as each theorem states. -/
namespace Go.Proofs.Ythphpbdmbmiaiaa
open Go Go.HL Go.Proofs Go.Wx Go.Rd
section
variable [Lvl]
set_option maxRecDepth 100000
end
end Go.Proofs.Ythphpbdmbmiaiaa
/- The own logic, part Ud: machines, hands, links, events and what was heard, read out of a row's arguments. Conditions: none. -/
namespace Go.HL
open Go Go.Wx Go.RowKit Go.ChangeShapes Go.WideShapes
variable [Lvl]
section
variable {H : Type} {enc : TypeId × Value → H} {P : Program} {w : World} {base : Nat} {spare : Nat → Bool} {held : Bool}
theorem row_sliceC {α : Type} (en : α → List Value) {t e : TypeId} {m fuel : Nat} {cs : List Value} {x : DataW H × List MemPlace} (ht : P.underlying t = some (.slice e)) (hc : P.cellsOf e = m) (hm : 0 < m) (he : ∀ a, (en a).length = m)
    (leaf : ∀ n cs x, DataW.trod enc P w base spare held n e cs = some x → ∃ a, cs = en a) (h : DataW.trod enc P w base spare held fuel t cs = some x) :
    ∃ (A : Option Addr) (len cap : Nat) (l : List α), cs = [.slice A len cap] ∧ l.length = len ∧ Row (absH w.heap) m en A l ∧ len ≤ cap ∧ cap ≤ maxLen := by
  rcases Go.Deep.open_slice ht h with ⟨rfl, _⟩ | ⟨a, len, cap, mm, n, D, Pl, rfl, hb, hl, hmx, hmm, _, hel⟩
  · exact ⟨none, 0, 0, [], rfl, rfl, ⟨fun _ h => (by cases h), Rd.nil _ _⟩, Nat.le_refl _, Nat.zero_le _⟩
  · have hlm : len ≤ mm := by rw [hmm]; split <;> omega
    have key : ∀ i : _root_.Fin len, ∃ v : α, w.cells? base (a.add (i.val * m)) m = some (en v) := by
      intro i
      obtain ⟨cs', h1, h2⟩ := hel i.val (by have := i.isLt; omega)
      obtain ⟨v, rfl⟩ := leaf _ _ _ h2
      rw [hc] at h1
      exact ⟨v, h1⟩
    let l := List.ofFn fun i : _root_.Fin len => Classical.choose (key i)
    have hll : l.length = len := by simp [l]
    have hat : ∀ (i : Nat) (hi : i < l.length), w.cells? base (a.add (i * m)) m = some (en l[i]) := by
      intro i hi
      have := Classical.choose_spec (key ⟨i, by omega⟩)
      simpa [l] using this
    refine ⟨some a, len, cap, l, rfl, hll, ⟨fun x _ => he x, fun hne => ?_⟩, hl, hmx⟩
    have hpos : 0 < l.length := by
      rcases Nat.eq_zero_or_pos l.length with h0 | h0
      · rw [List.eq_nil_of_length_eq_zero h0] at hne; simp at hne
      · exact h0
    obtain ⟨g, off, sp⟩ := a
    have h0 := hat 0 hpos
    obtain ⟨_, _, hcell⟩ := World.cells?_some h0
    have h00 := hcell 0 hm
    rw [Go.Deep.add_add, Nat.zero_mul, Nat.add_zero, List.getElem?_eq_getElem (by rw [he]; exact hm)] at h00
    have hsp : sp = none := by
      cases sp with
      | none => rfl
      | some s =>
        exfalso
        have : w.cell? ((⟨g, off, some s⟩ : Addr).add 0) = none := by
          simp only [Addr.add]
          rw [cell_abs]
          unfold cellA
          split <;> simp
        rw [this] at h00
        cases h00
    subst hsp
    refine ⟨g, off, rfl, fun j u hu => ?_⟩
    have hj : j < l.length * m := by
      have := (List.getElem?_eq_some_iff.1 hu).1
      rwa [flat_len (fun x _ => he x)] at this
    have hi : j / m < l.length := Nat.div_lt_of_lt_mul (by rw [Nat.mul_comm]; exact hj)
    have hr : j % m < m := Nat.mod_lt _ hm
    have hjm : j / m * m + j % m = j := by rw [Nat.mul_comm]; exact Nat.div_add_mod j m
    obtain ⟨_, _, hcl⟩ := World.cells?_some (hat (j / m) hi)
    have h1 := hcl (j % m) hr
    have h2 : (en l[j / m])[j % m]? = some ((en l[j / m])[j % m]'(by rw [he]; exact hr)) := List.getElem?_eq_getElem _
    have h3 := flat_get en m l (fun x _ => he x) (j / m) _ (List.getElem?_eq_getElem hi) (j % m) _ h2
    rw [hjm, hu] at h3
    rw [h2, ← h3, Go.Deep.add_add, hjm, cell_abs, add_none] at h1
    exact h1
end
end Go.HL

namespace Go.Rd
structure EvP where
  kind : Int
  which : Int
end Go.Rd
namespace Go.Proofs.Ythphpbdmbmiaiaa
open Go Go.HL Go.Wx Go.Rd Go.RowKit Go.ChangeShapes Go.WideShapes
variable [Lvl]
set_option maxRecDepth 100000
theorem cellsT_int : Try.prog.cellsOf 3 = 1 := by kernel_rfl
theorem cellsT_ints : Try.prog.cellsOf 22 = 1 := by kernel_rfl
theorem cellsT_pins : Try.prog.cellsOf 25 = 1 := by kernel_rfl
theorem cellsT_links : Try.prog.cellsOf 26 = 1 := by kernel_rfl
theorem cellsT_pin : Try.prog.cellsOf 36 = 3 := by kernel_rfl
theorem cellsT_link : Try.prog.cellsOf 39 = 4 := by kernel_rfl
theorem cellsT_mach : Try.prog.cellsOf 28 = 9 := by kernel_rfl
section
variable {H : Type} {enc : TypeId × Value → H} {w : World} {base : Nat} {spare : Nat → Bool} {held : Bool}
theorem ud_at {α : Type} {xs : List α} {n i : Nat} (h : xs.length = n) (hi : i < n) : ∃ y, xs[i]? = some y := ⟨_, List.getElem?_eq_getElem (by omega)⟩
theorem leaf_int {n : Nat} {cs : List Value} {x : DataW H × List MemPlace} (h : DataW.trod enc Try.prog w base spare held n 3 cs = some x) : ∃ z : Int, cs = [.int .i64 z] := by
  obtain ⟨z, e, _⟩ := DataW.trod_int Try.underlying3 h
  exact ⟨z, e⟩
theorem leaf_pin {n : Nat} {cs : List Value} {x : DataW H × List MemPlace} (h : DataW.trod enc Try.prog w base spare held n 36 cs = some x) : ∃ p : PinP, cs = pinC p := by
  obtain ⟨xs, m, _, _, hl, hx, hf⟩ := DataW.trod_struct Try.underlying36 h
  rw [cellsT_pin] at hl
  obtain ⟨y0, e0⟩ := ud_at (i := 0) hx (by decide)
  obtain ⟨a0, h0⟩ := leaf_int ((show DataW.trod enc Try.prog w base spare held m 3 ((cs.drop 0).take (Try.prog.cellsOf 3)) = xs[0]? from hf 0 _ rfl).trans e0)
  obtain ⟨y1, e1⟩ := ud_at (i := 1) hx (by decide)
  obtain ⟨a1, h1⟩ := leaf_int ((show DataW.trod enc Try.prog w base spare held m 3 ((cs.drop 1).take (Try.prog.cellsOf 3)) = xs[1]? from hf 1 _ rfl).trans e1)
  obtain ⟨y2, e2⟩ := ud_at (i := 2) hx (by decide)
  obtain ⟨a2, h2⟩ := leaf_int ((show DataW.trod enc Try.prog w base spare held m 3 ((cs.drop 2).take (Try.prog.cellsOf 3)) = xs[2]? from hf 2 _ rfl).trans e2)
  rw [cellsT_int] at h0 h1 h2
  match cs, hl with
  | [u0, u1, u2], _ =>
    simp at h0 h1 h2
    exact ⟨⟨a0, a1, a2⟩, by rw [h0, h1, h2]; rfl⟩
theorem leaf_link {n : Nat} {cs : List Value} {x : DataW H × List MemPlace} (h : DataW.trod enc Try.prog w base spare held n 39 cs = some x) : ∃ p : LinkP, cs = linkC p := by
  obtain ⟨xs, m, _, _, hl, hx, hf⟩ := DataW.trod_struct Try.underlying39 h
  rw [cellsT_link] at hl
  obtain ⟨y0, e0⟩ := ud_at (i := 0) hx (by decide)
  obtain ⟨a0, h0⟩ := leaf_int ((show DataW.trod enc Try.prog w base spare held m 3 ((cs.drop 0).take (Try.prog.cellsOf 3)) = xs[0]? from hf 0 _ rfl).trans e0)
  obtain ⟨y1, e1⟩ := ud_at (i := 1) hx (by decide)
  obtain ⟨a1, h1⟩ := leaf_int ((show DataW.trod enc Try.prog w base spare held m 3 ((cs.drop 1).take (Try.prog.cellsOf 3)) = xs[1]? from hf 1 _ rfl).trans e1)
  obtain ⟨y2, e2⟩ := ud_at (i := 2) hx (by decide)
  obtain ⟨a2, h2⟩ := leaf_int ((show DataW.trod enc Try.prog w base spare held m 3 ((cs.drop 2).take (Try.prog.cellsOf 3)) = xs[2]? from hf 2 _ rfl).trans e2)
  obtain ⟨y3, e3⟩ := ud_at (i := 3) hx (by decide)
  obtain ⟨a3, h3⟩ := leaf_int ((show DataW.trod enc Try.prog w base spare held m 3 ((cs.drop 3).take (Try.prog.cellsOf 3)) = xs[3]? from hf 3 _ rfl).trans e3)
  rw [cellsT_int] at h0 h1 h2 h3
  match cs, hl with
  | [u0, u1, u2, u3], _ =>
    simp at h0 h1 h2 h3
    exact ⟨⟨a0, a1, a2, a3⟩, by rw [h0, h1, h2, h3]; rfl⟩
/-- A machine that came in. -/
theorem mach_in {r : Reach} {b0 : Nat} {v : Value} {d : DataW H} {p : List MemPlace} (hv : Value.okWide Try.prog w r b0 28 v) (h : DataW.Trod enc Try.prog w base spare held 28 v d p) :
    ∃ (m : MachP) (AB AQ AL AW : Option Addr) (cB cQ cL cW : Nat), v = machV AB AQ AL AW cB cQ cL cW m ∧ MachR (absH w.heap) AB AQ AL AW m ∧ m.pins.length ≤ cQ ∧ m.links.length ≤ cL := by
  obtain ⟨⟨cs⟩, rfl, hs⟩ := okWide_struct Try.underlying28 hv
  obtain ⟨fuel, hf0⟩ := h
  have hcs : (Value.agg ⟨cs⟩).cells.toList = cs := rfl
  rw [hcs] at hf0
  obtain ⟨xs, m, _, _, hl, hx, hf⟩ := DataW.trod_struct Try.underlying28 hf0
  rw [cellsT_mach] at hl
  obtain ⟨y0, e0⟩ := ud_at (i := 0) hx (by decide)
  obtain ⟨y1, e1⟩ := ud_at (i := 1) hx (by decide)
  obtain ⟨y2, e2⟩ := ud_at (i := 2) hx (by decide)
  obtain ⟨y3, e3⟩ := ud_at (i := 3) hx (by decide)
  obtain ⟨y4, e4⟩ := ud_at (i := 4) hx (by decide)
  obtain ⟨y5, e5⟩ := ud_at (i := 5) hx (by decide)
  obtain ⟨y6, e6⟩ := ud_at (i := 6) hx (by decide)
  obtain ⟨y7, e7⟩ := ud_at (i := 7) hx (by decide)
  obtain ⟨y8, e8⟩ := ud_at (i := 8) hx (by decide)
  obtain ⟨a0, h0⟩ := leaf_int ((show DataW.trod enc Try.prog w base spare held m 3 ((cs.drop 0).take (Try.prog.cellsOf 3)) = xs[0]? from hf 0 _ rfl).trans e0)
  obtain ⟨a1, h1⟩ := leaf_int ((show DataW.trod enc Try.prog w base spare held m 3 ((cs.drop 1).take (Try.prog.cellsOf 3)) = xs[1]? from hf 1 _ rfl).trans e1)
  obtain ⟨a2, h2⟩ := leaf_int ((show DataW.trod enc Try.prog w base spare held m 3 ((cs.drop 2).take (Try.prog.cellsOf 3)) = xs[2]? from hf 2 _ rfl).trans e2)
  obtain ⟨a3, h3⟩ := leaf_int ((show DataW.trod enc Try.prog w base spare held m 3 ((cs.drop 3).take (Try.prog.cellsOf 3)) = xs[3]? from hf 3 _ rfl).trans e3)
  obtain ⟨a4, h4⟩ := leaf_int ((show DataW.trod enc Try.prog w base spare held m 3 ((cs.drop 4).take (Try.prog.cellsOf 3)) = xs[4]? from hf 4 _ rfl).trans e4)
  obtain ⟨A5, n5, c5, l5, h5, k5, R5, hc5, _⟩ := row_sliceC intC Try.underlying22 cellsT_int (by omega) (fun _ => rfl) (fun _ _ _ => leaf_int) ((show DataW.trod enc Try.prog w base spare held m 22 ((cs.drop 5).take (Try.prog.cellsOf 22)) = xs[5]? from hf 5 _ rfl).trans e5)
  obtain ⟨A6, n6, c6, l6, h6, k6, R6, hc6, _⟩ := row_sliceC pinC Try.underlying25 cellsT_pin (by omega) (fun _ => rfl) (fun _ _ _ => leaf_pin) ((show DataW.trod enc Try.prog w base spare held m 25 ((cs.drop 6).take (Try.prog.cellsOf 25)) = xs[6]? from hf 6 _ rfl).trans e6)
  obtain ⟨A7, n7, c7, l7, h7, k7, R7, hc7, _⟩ := row_sliceC linkC Try.underlying26 cellsT_link (by omega) (fun _ => rfl) (fun _ _ _ => leaf_link) ((show DataW.trod enc Try.prog w base spare held m 26 ((cs.drop 7).take (Try.prog.cellsOf 26)) = xs[7]? from hf 7 _ rfl).trans e7)
  obtain ⟨A8, n8, c8, l8, h8, k8, R8, hc8, _⟩ := row_sliceC intC Try.underlying22 cellsT_int (by omega) (fun _ => rfl) (fun _ _ _ => leaf_int) ((show DataW.trod enc Try.prog w base spare held m 22 ((cs.drop 8).take (Try.prog.cellsOf 22)) = xs[8]? from hf 8 _ rfl).trans e8)
  rw [cellsT_int] at h0 h1 h2 h3 h4
  rw [cellsT_ints] at h5 h8
  rw [cellsT_pins] at h6
  rw [cellsT_links] at h7
  match cs, hl with
  | [u0, u1, u2, u3, u4, u5, u6, u7, u8], _ =>
    simp at h0 h1 h2 h3 h4 h5 h6 h7 h8
    refine ⟨⟨a0, a1, a2, a3, a4, l5, l6, l7, l8⟩, A5, A6, A7, A8, c5, c6, c7, c8, ?_, ⟨R5, R6, R7, R8⟩, by show l6.length ≤ c6; omega, by show l7.length ≤ c7; omega⟩
    rw [h0, h1, h2, h3, h4, h5, h6, h7, h8, ← k5, ← k6, ← k7, ← k8]
theorem ints_in {r : Reach} {b0 : Nat} {v : Value} {d : DataW H} {p : List MemPlace} (hv : Value.okWide Try.prog w r b0 22 v) (h : DataW.Trod enc Try.prog w base spare held 22 v d p) :
    ∃ (l : List Int) (A : Option Addr) (c : Nat), v = .slice A l.length c ∧ Row (absH w.heap) 1 intC A l ∧ l.length ≤ maxLen := by
  obtain ⟨a0, len0, cap0, rfl⟩ := okWide_slice Try.underlying22 hv
  obtain ⟨fuel, hf⟩ := h
  obtain ⟨A, n, c, l, e, k, R, h1, h2⟩ := row_sliceC intC Try.underlying22 cellsT_int (by omega) (fun _ => rfl) (fun _ _ _ => leaf_int) hf
  have hcs : (Value.slice a0 len0 cap0).cells.toList = [.slice a0 len0 cap0] := rfl
  rw [hcs] at e
  simp at e
  obtain ⟨rfl, rfl, rfl⟩ := e
  subst k
  exact ⟨l, _, _, rfl, R, Nat.le_trans h1 h2⟩
end
end Go.Proofs.Ythphpbdmbmiaiaa
/- The own logic, part GU: slice literals of things of many cells. Conditions: none. -/
namespace Go.HL
open Go
variable [Lvl]
theorem wrL_mid : ∀ (c pre j : List Value), c.length ≤ j.length → wrL (pre ++ j) pre.length c = pre ++ c ++ j.drop c.length
  | [], pre, j, _ => by simp [wrL]
  | v :: c, pre, [], h => absurd h (by simp)
  | v :: c, pre, x :: j, h => by
    have e : (pre ++ x :: j).set pre.length v = (pre ++ [v]) ++ j := by simp
    have ih := wrL_mid c (pre ++ [v]) j (by simpa using h)
    rw [List.length_append, List.length_singleton] at ih
    rw [wrL, e, ih]
    simp
/-- What is put where, in a row of things. -/
def rowP : Nat → List (List Value) → List (Nat × Value)
  | _, [] => []
  | k, c :: els => (k, .agg c.toArray) :: rowP (k + 1) els
theorem fill_row {m : Nat} : ∀ (els : List (List Value)) (k : Nat) (pre j : List Value), (∀ c ∈ els, c.length = m) → pre.length = k * m → j.length = els.length * m → fillL (fun i => some (i * m, m)) (pre ++ j) (rowP k els) = some (pre ++ els.flatMap id)
  | [], k, pre, j, _, _, hj => by
    have : j = [] := List.length_eq_zero_iff.1 (by simpa using hj)
    subst this
    rfl
  | c :: els, k, pre, j, hm, hp, hj => by
    have hc := hm c (List.mem_cons_self ..)
    have hj' : j.length = els.length * m + m := by rw [hj, List.length_cons, Nat.add_mul, Nat.one_mul]
    have e1 : ((Value.agg c.toArray).cells.size == m && Nat.ble (k * m + m) (pre ++ j).length) = true := by
      rw [Bool.and_eq_true]
      refine ⟨by show (c.toArray.size == m) = true; simp [hc], Nat.ble_eq_true_of_le ?_⟩
      rw [List.length_append]
      omega
    have e2 : wrL (pre ++ j) (k * m) (Value.agg c.toArray).cells.toList = (pre ++ c) ++ j.drop m := by
      rw [← hp, show (Value.agg c.toArray).cells.toList = c from rfl, wrL_mid c pre j (by omega), hc]
    rw [rowP, fillL]
    simp only
    rw [if_pos e1, e2]
    rw [fill_row els (k + 1) (pre ++ c) (j.drop m) (fun x hx => hm x (List.mem_cons_of_mem _ hx)) (by rw [List.length_append, hp, hc, Nat.add_mul, Nat.one_mul]) (by rw [List.length_drop, hj']; omega)]
    simp
variable {P : Program} {n : Nat} {ops : Array Oper} {os : List Oper} {K : Sl → Pv → AH → Prop} {E : Value → Sl → Pv → AH → Prop} {S : Sl} {L : Pv} {h : AH} {d : Option Tmp} {ty : TypeId} {ps : String} {af : Array Edge}
/-- A slice literal of things of m cells. -/
theorem op_buildSliceR (els : List (List Value)) {t e : TypeId} {m len : Nat} {z : Value} {zc : List Value} {pts : List (Nat × Operand)} (ht : pev P (underlying t) = some (.slice e)) (hs : pev P (sizeOf e) = some m)
    (hz : pev P (zeroValue e) = some z) (hzc : z.cells = zc.toArray) (hl : Nat.ble (len * m) 16777216 = true) (hn : els.length = len) (hm : els.all (fun c => c.length == m) = true) (hv : pts.map (fun q => (q.1, ev n S q.2)) = rowP 0 els)
    (k : ∀ b, wl h L b = none → wpL P n ops os K E (put S d (.slice (some ⟨b, 0, none⟩) len len)) (L ++ [some (b, .cells (els.flatMap id).toArray e (0, 0))]) h) : wpL P n ops (⟨d, .buildSlice t len pts.toArray, ty, ps, af, none⟩ :: os) K E S L h := by
  refine op_buildSlice ht hs hz hzc hl hv ?_ k
  have := fill_row (m := m) els 0 [] ((List.range (len * m)).map fun i => zc[i % zc.length]!) (fun c hc => by have := List.all_eq_true.1 hm c hc; simpa using this) (by simp) (by simp [hn])
  simpa using this
end Go.HL
/- Walks: RodSounds. Conditions: as each theorem states. -/
namespace Go.Proofs.Ythphpbdmbmiaiaa
open Go Go.HL Go.Proofs Go.Wx Go.Rd
section
variable [Lvl]
set_option maxRecDepth 100000
theorem sounds_le (m : MachP) (a : HandP) : (soundsL m a).length ≤ 6 := by
  unfold soundsL
  split
  · exact listN_len _ 6
  · simp
theorem AccR.room {e : TypeId} {m : Nat} {cs : List Value} {a : Acc} (r : AccR e m cs a) (hm : 0 < m) : a.n ≤ a.c := by
  rcases r with ⟨_, _, A, ev⟩ | ⟨b, len, cap, junk, hl, ev, _, hc⟩
  · injection ev with _ h1 h2; omega
  · injection ev with _ h1 h2
    rw [List.length_append, hl] at hc
    have : len * m ≤ cap * m := by omega
    have := Nat.le_of_mul_le_mul_right this hm
    omega
theorem Made.sml {s p l : Int} {m : MachP} (M : Made s p l m) : Sml m := by
  have h1 := M.ok.bl
  have h2 := M.ok.pl
  have h3 := M.ok.ll
  have h4 := M.ok.wl
  have h5 := M.ok.levers
  exact ⟨by omega, by omega, by omega, by omega⟩
theorem HOK.sml {m : MachP} {a : HandP} (M : MOK m) (H : HOK m a) : SmlH a := by
  have F := fit_of M H
  have h1 := F.hl
  have h2 := F.ol
  exact ⟨by omega, by omega⟩
end
end Go.Proofs.Ythphpbdmbmiaiaa
/- Walks of the reference: Depth, Chart, Chord of any machine. Conditions: as each theorem states. -/
namespace Go.Proofs.Ythphpbdmbmiaiaa
open Go Go.HL Go.Proofs Go.Wx Go.Rd
section
variable [Lvl]
set_option maxRecDepth 100000
theorem smlH_on {on : List Int} (h : on.length < 2 ^ 20) : SmlH ⟨[], on⟩ := ⟨by show 0 < _; decide, h⟩
theorem depth_zero {m : MachP} {on : List Int} (M : MOK m) {q : Nat} (F : Fit m ⟨[(q : Int)], on⟩) {v : Int} (h0 : 0 ≤ v) (h1 : v < m.levers) : depthP m on q v 0 = false := by
  rw [depthP, sounds_bit (by omega)]
  have := lift_none M F h0 h1
  rw [liftF]
  refine decide_eq_false ?_
  rw [Int.toNat_of_nonneg h0]
  show ¬ m.opn ≤ (liftedM m (turnedM m ⟨[(q : Int)], on⟩ ((0 : Nat) : Int))).getD v.toNat 0
  simp only [Int.natCast_zero]
  omega
set_option maxHeartbeats 4000000 in
theorem DepthG_ok (m : MachP) (S : Sml m) (on : List Int) (b v : Int) (hon : on.length < 2 ^ 20) (AB AQ AL AW OA : Option Addr) (cB cQ cL cW cO : Nat) (h : AH) (RM : MachR h AB AQ AL AW m) (RO : Row h 1 intC OA on) :
    FnT Try.prog 57 #[machV AB AQ AL AW cB cQ cL cW m, .slice OA on.length cO, .int .i64 b, .int .i64 v] h (fun w _ => w = .tuple #[.int .i64 (depthR m on b v).1, .int .i64 (depthR m on b v).2]) := by
  refine call_body Try.func57 rfl Try.ntmps57 rfl ?_
  refine xp_seq ?_
  refine xp_region rfl ?_
  refine op_box (v := .agg #[.int .i64 _, .int .i64 _, .int .i64 _, .int .i64 _, .int .i64 _, .slice _ _ _, .slice _ _ _, .slice _ _ _, .slice _ _ _]) (cs := [_, _, _, _, _, _, _, _, _]) rfl rfl fun b4 hb4 => ?_
  refine wp_norm [_] rfl ?_
  refine op_pure (pv_assign (v := .int .i64 _) rfl) ?_
  refine op_pure (pv_assign (v := .int .i64 _) rfl) ?_
  refine xp_seq ?_
  refine xp_seq ?_
  refine xp_region rfl ?_
  refine op_loadPA 0 (vs := [.int .i64 _, .int .i64 _, .int .i64 _, .int .i64 _, .int .i64 _, .slice _ _ _, .slice _ _ _, .slice _ _ _, .slice _ _ _]) rfl rfl rfl rfl rfl ?_
  refine op_pure (pv_move (v := .slice _ _ _) rfl) ?_
  refine op_pure (pv_build (zc := [_, _]) (vs := [(1, .slice _ _ _)]) (cs := [_, _]) rfl rfl rfl rfl rfl rfl) ?_
  refine op_fn (caps := []) (vs := [.agg #[.int .i64 _, .int .i64 _, .int .i64 _, .int .i64 _, .int .i64 _, .slice _ _ _, .slice _ _ _, .slice _ _ _, .slice _ _ _], .agg #[.slice _ _ _, .slice _ _ _]]) rfl rfl rfl (checkS_ok m S ⟨[], on⟩ (smlH_on hon) AB AQ AL AW none OA cB cQ cL cW 0 cO h (RM.ext (Ext.refl _)) ⟨row_nil _ _, RO.ext (Ext.refl _)⟩) ?_
  rintro _ h3 E3 rfl
  refine op_pure (pv_assign (v := .int .i64 _) rfl) ?_
  refine xp_seq ?_
  refine xp_region rfl ?_
  refine op_pure (pv_move (v := .int .i64 _) rfl) ?_
  refine op_pure (pv_of (v := .bool _) rfl) ?_
  refine xp_cond rfl (fun hc => ?_) (fun hc => ?_)
  · skip
    have hc' : checkHandM m ⟨[], on⟩ ≠ 0 := by simpa using hc
    refine xp_seq ?_
    refine xp_region rfl ?_
    refine op_pure (pv_move (v := .int .i64 _) rfl) ?_
    refine op_pure (pv_assign (v := .int .i64 _) rfl) ?_
    refine op_pure (pv_assign (v := .int .i64 _) rfl) ?_
    refine xp_ret ?_
    refine res_list (vs := [_, _]) Try.results57 ⟨resV_tmp rfl rfl, resV_tmp rfl rfl, trivial⟩ fun V => ?_
    exact ⟨(Ext.trans E3 (ext_wl V)), by rw [depthR, if_pos hc']; rfl⟩
  · skip
    have hc' : checkHandM m ⟨[], on⟩ = 0 := by simpa using hc
    obtain ⟨M, H⟩ := checkHand_ok0 hc'
    have tr := M.travel
    have bl := M.bl
    have lv := M.levers
    have op := M.opn
    have eR : depthR m on b v = if !inM b 0 (m.buttons.length - 1) then (0, 3) else if !inM v 0 (m.levers - 1) then (0, 3) else depthO (fnd (depthP m on b v) (m.travel.toNat + 1) 0) := by rw [depthR, if_neg (by simp [hc'])]
    refine xp_skip ?_
    refine xp_seq ?_
    refine xp_seq ?_
    refine xp_region rfl ?_
    refine op_pure (pv_move (v := .int .i64 _) rfl) ?_
    refine op_pure (pv_fieldAddr rfl rfl rfl rfl 5 rfl) ?_
    refine op_loadP 0 (v := .slice _ _ _) rfl rfl rfl rfl ?_
    refine op_pure (pv_len rfl rfl) ?_
    refine op_pure (pv_arith rfl (by omega)) ?_
    refine op_fn (caps := []) (vs := [.int .i64 _, .int .i64 _, .int .i64 _]) rfl rfl rfl (among_ok b 0 (m.buttons.length - 1) h3) ?_
    rintro _ h4 E4 rfl
    refine op_pure (pv_of (v := .bool _) rfl) ?_
    refine op_pure (pv_move (v := .bool _) rfl) ?_
    rcases Bool.eq_false_or_eq_true (inM b 0 (m.buttons.length - 1)) with e1 | e1
    · skip
      have e1' : (!inM b 0 (m.buttons.length - 1)) = false := by rw [e1]; rfl
      refine guard_yes rfl e1' ?_
      refine op_pure (pv_move (v := .int .i64 _) rfl) ?_
      refine guard_yes rfl e1' ?_
      refine op_pure (pv_fieldAddr rfl rfl rfl rfl 1 rfl) ?_
      refine guard_yes rfl e1' ?_
      refine op_loadP 0 (v := .int .i64 _) rfl rfl rfl rfl ?_
      refine guard_yes rfl e1' ?_
      refine op_pure (pv_arith rfl (by omega)) ?_
      refine guard_yes rfl e1' ?_
      refine op_fn (caps := []) (vs := [.int .i64 _, .int .i64 _, .int .i64 _]) rfl rfl rfl (among_ok v 0 (m.levers - 1) h4) ?_
      rintro _ h5 E5 rfl
      refine guard_yes rfl e1' ?_
      refine op_pure (pv_of (v := .bool _) rfl) ?_
      refine op_pure (pv_pickF rfl e1' (v := .bool _) rfl) ?_
      refine xp_cond rfl (fun e2 => ?_) (fun e2 => ?_)
      · skip
        refine xp_seq ?_
        refine xp_region rfl ?_
        refine op_pure (pv_assign (v := .int .i64 _) rfl) ?_
        refine op_pure (pv_assign (v := .int .i64 _) rfl) ?_
        refine xp_ret ?_
        refine res_list (vs := [_, _]) Try.results57 ⟨resV_tmp rfl rfl, resV_tmp rfl rfl, trivial⟩ fun V => ?_
        exact ⟨(Ext.trans (Ext.trans (Ext.trans E3 E4) E5) (ext_wl V)), by rw [eR, e1', e2]; rfl⟩
      · skip
        have e1'' := inM_iff.1 e1
        have e2' : inM v 0 (m.levers - 1) = true := by simpa using e2
        have e2'' := inM_iff.1 e2'
        obtain ⟨q, rfl⟩ : ∃ q : Nat, b = q := ⟨b.toNat, by omega⟩
        have hql : q < m.buttons.length := by omega
        have Hq := hand1_ok H hql
        have F := fit_of M Hq
        have eR2 : depthR m on q v = depthO (fnd (depthP m on q v) (m.travel.toNat + 1) 0) := by rw [eR, e1', e2]; rfl
        have hz := depth_zero (on := on) (q := q) M F e2''.1 (by omega)
        refine xp_skip ?_
        refine xp_seq ?_
        refine xp_seq ?_
        refine xp_region rfl ?_
        refine op_pure (pv_assign (v := .int .i64 _) rfl) ?_
        refine xp_block ?_
        refine xp_loopB [8, 9, 11, 34, 35, 36, 37, 38, 39, 40, 41, 42, 43, 44, 45, 46, 47, 48, 49, 50, 51, 52, 53] 1 (α := Nat) (fun d => [(11, .int .i64 d)]) (fun d => _) (fun d h_d => (1 ≤ d ∧ d ≤ m.travel.toNat + 1) ∧ ∀ i, 0 ≤ i → i < d → depthP m on q v i = false) (fun d => m.travel.toNat + 1 - d) (1) ⟨rfl, trivial⟩ (rfl) (⟨⟨Nat.le_refl _, by omega⟩, fun i _ h => by rw [show i = 0 by omega]; exact hz⟩) ?_
        rintro d T1 h_d E_d J_d
        refine goes_norm [_] rfl ?_
        obtain ⟨⟨K0, K1⟩, K2⟩ := J_d
        refine xp_seq ?_
        refine xp_seq ?_
        refine xp_region rfl ?_
        refine op_pure (pv_move (v := .int .i64 _) rfl) ?_
        refine op_pure (pv_fieldAddr rfl rfl rfl rfl 3 rfl) ?_
        refine op_loadP 0 (v := .int .i64 _) rfl rfl rfl rfl ?_
        refine op_pure (pv_of (v := .bool _) rfl) ?_
        refine xp_cond rfl (fun hd => ?_) (fun hd => ?_)
        · skip
          have hdl : (d : Int) ≤ m.travel := of_decide_eq_true hd
          have L1 := liftsR_ok m M ⟨[(q : Int)], on⟩ F d (by omega) AB AQ AL AW
          rw [liftsR_at M F (by omega) hdl] at L1
          have hlen := lifted_len m (turnedM m ⟨[(q : Int)], on⟩ d)
          have hbit : depthP m on q v d = decide (m.opn ≤ (liftedM m (turnedM m ⟨[(q : Int)], on⟩ d)).getD v.toNat 0) := by
            rw [depthP, sounds_bit (by omega), liftF, Int.toNat_of_nonneg e2''.1]
          generalize liftedM m (turnedM m ⟨[(q : Int)], on⟩ d) = lf at L1 hlen hbit
          have hvl : v.toNat < lf.length := by omega
          rw [getD_get hvl] at hbit
          refine xp_skip ?_
          refine xp_seq ?_
          refine xp_block ?_
          refine xp_seq ?_
          refine xp_dw [] rfl rfl rfl ?_
          refine dw_load (i := 0) rfl (by decide +kernel) ?_
          refine op_loadPA 0 (vs := [.int .i64 _, .int .i64 _, .int .i64 _, .int .i64 _, .int .i64 _, .slice _ _ _, .slice _ _ _, .slice _ _ _, .slice _ _ _]) rfl rfl rfl rfl rfl ?_
          refine dw_pure (i := 1) rfl (by decide +kernel) (pv_move (v := .int .i64 _) rfl) ?_
          refine dw_pure (i := 3) rfl (by decide +kernel) (pv_move (v := .slice _ _ _) rfl) ?_
          refine dw_pure (i := 5) rfl (by decide +kernel) (pv_move (v := .int .i64 _) rfl) ?_
          refine dw_pure (i := 7) rfl (by decide +kernel) (pv_move (v := .int .i64 _) rfl) ?_
          refine dw_pure (i := 10) rfl (by decide +kernel) (pv_fieldAddr rfl rfl rfl rfl 4 rfl) ?_
          refine dw_load (i := 11) rfl (by decide +kernel) ?_
          refine op_loadP 0 (v := .int .i64 _) rfl rfl rfl rfl ?_
          refine dw_eff (i := 2) rfl (by decide +kernel) ?_
          refine op_buildSlice (zc := [_]) (vs := [(0, .int .i64 _)]) (cs := [_]) rfl rfl rfl rfl rfl rfl rfl fun b42 hb42 => ?_
          refine ⟨ext_new hb42 _, ?_⟩
          refine dw_norm [_, _] rfl ?_
          refine dw_pure (i := 4) rfl (by decide +kernel) (pv_build (zc := [_, _]) (vs := [(0, .slice _ _ _), (1, .slice _ _ _)]) (cs := [_, _]) rfl rfl rfl rfl rfl rfl) ?_
          refine dw_pub 1 rfl ?_
          intro h7 E7 hb7
          refine dw_norm [_, _] rfl ?_
          refine dw_eff (i := 6) rfl (by decide +kernel) ?_
          refine op_fn (caps := []) (vs := [.agg #[.int .i64 _, .int .i64 _, .int .i64 _, .int .i64 _, .int .i64 _, .slice _ _ _, .slice _ _ _, .slice _ _ _, .slice _ _ _], .agg #[.slice _ _ _, .slice _ _ _], .int .i64 _]) rfl rfl rfl (L1 (some ⟨b42, 0, none⟩) OA cB cQ cL cW 1 cO h7 (RM.ext (Ext.trans (Ext.trans (Ext.trans (Ext.trans E3 E4) E5) E_d) E7)) ⟨row_one hb7, RO.ext (Ext.trans (Ext.trans (Ext.trans (Ext.trans E3 E4) E5) E_d) E7)⟩) ?_
          rintro _ h8 E8 ⟨A8, c8, rfl, S8⟩
          refine ⟨ext_wlm E8 _, ?_⟩
          obtain ⟨g, off, hA, hcc⟩ := (S8.ext (Ext.refl _)).at (by omega) hvl
          refine dw_pure (i := 8) rfl (by decide +kernel) (pv_indexE rfl hA rfl rfl rfl (by omega) (by omega)) ?_
          refine dw_load (i := 9) rfl (by decide +kernel) ?_
          refine op_load (v := .int .i64 _) rfl rfl ((hcc) 0 _ rfl) ?_
          refine dw_pure (i := 12) rfl (by decide +kernel) (pv_of (v := .bool _) rfl) ?_
          refine dw_end rfl ?_
          refine xp_cond rfl (fun hs => ?_) (fun hs => ?_)
          · skip
            have hs' : depthP m on q v d = true := by rw [hbit]; exact hs
            have hf : fnd (depthP m on q v) (m.travel.toNat + 1) 0 = some d := fnd_some (by omega) (by omega) hs' K2
            refine xp_seq ?_
            refine xp_region rfl ?_
            refine op_pure (pv_move (v := .int .i64 _) rfl) ?_
            refine op_pure (pv_assign (v := .int .i64 _) rfl) ?_
            refine op_pure (pv_assign (v := .int .i64 _) rfl) ?_
            refine xp_ret ?_
            refine res_list (vs := [_, _]) Try.results57 ⟨resV_tmp rfl rfl, resV_tmp rfl rfl, trivial⟩ fun V => ?_
            exact ⟨(Ext.trans (Ext.trans (Ext.trans (Ext.trans (Ext.trans (Ext.trans E3 E4) E5) E_d) E7) E8) (ext_wl V)), by rw [eR2, hf]; rfl⟩
          · skip
            have hs' : depthP m on q v d = false := by rw [hbit]; exact hs
            refine xp_skip ?_
            refine xp_region rfl ?_
            refine op_pure (pv_move (v := .int .i64 _) rfl) ?_
            refine op_pure (pv_arith rfl (by omega)) ?_
            refine op_pure (pv_assign (v := .int .i64 _) rfl) ?_
            refine ⟨d + 1, ⟨rfl, trivial⟩, rfl, rfl, (Ext.trans (Ext.trans E_d E7) E8), fun h3 E3 => ⟨⟨by omega, by omega⟩, fun i _ hi => (Nat.lt_succ_iff_lt_or_eq.1 hi).elim (K2 i (Nat.zero_le _)) (fun h => by subst h; exact hs')⟩, by first | omega | (dsimp only; omega), ?_⟩
            repeat (first | exact off_base _ _ _ | refine off_upd (by decide) ?_ | refine off_updL rfl ?_ | refine off_mix rfl ?_)
        · skip
          have hf : fnd (depthP m on q v) (m.travel.toNat + 1) 0 = none := fnd_none (fun i h1 h2 => K2 i h1 (by have := of_decide_eq_false hd; omega))
          refine xp_exit ?_
          refine xp_seq ?_
          refine xp_region rfl ?_
          refine op_pure (pv_assign (v := .int .i64 _) rfl) ?_
          refine op_pure (pv_assign (v := .int .i64 _) rfl) ?_
          refine xp_ret ?_
          refine res_list (vs := [_, _]) Try.results57 ⟨resV_tmp rfl rfl, resV_tmp rfl rfl, trivial⟩ fun V => ?_
          exact ⟨(Ext.trans (Ext.trans (Ext.trans (Ext.trans E3 E4) E5) E_d) (ext_wl V)), by rw [eR2, hf]; rfl⟩
    · skip
      have e1' : (!inM b 0 (m.buttons.length - 1)) = true := by rw [e1]; rfl
      refine guard_no rfl e1' ?_
      refine guard_no rfl e1' ?_
      refine guard_no rfl e1' ?_
      refine guard_no rfl e1' ?_
      refine guard_no rfl e1' ?_
      refine guard_no rfl e1' ?_
      refine op_pure (pv_pickT rfl e1' (v := .bool _) rfl) ?_
      refine xp_condT rfl (rfl) ?_
      refine xp_seq ?_
      refine xp_region rfl ?_
      refine op_pure (pv_assign (v := .int .i64 _) rfl) ?_
      refine op_pure (pv_assign (v := .int .i64 _) rfl) ?_
      refine xp_ret ?_
      refine res_list (vs := [_, _]) Try.results57 ⟨resV_tmp rfl rfl, resV_tmp rfl rfl, trivial⟩ fun V => ?_
      exact ⟨(Ext.trans (Ext.trans E3 E4) (ext_wl V)), by rw [eR, e1']; rfl⟩
theorem ChartG_ok (m : MachP) (S : Sml m) (on : List Int) (hon : on.length < 2 ^ 20) (AB AQ AL AW OA : Option Addr) (cB cQ cL cW cO : Nat) (h : AH) (RM : MachR h AB AQ AL AW m) (RO : Row h 1 intC OA on) :
    FnT Try.prog 58 #[machV AB AQ AL AW cB cQ cL cW m, .slice OA on.length cO] h (fun v h' => ∃ L, v = .tuple #[L, .int .i64 (checkHandM m ⟨[], on⟩)] ∧ SlL h' (chartL m on) L) := by
  refine call_body Try.func58 rfl Try.ntmps58 rfl ?_
  refine xp_seq ?_
  refine xp_region rfl ?_
  refine op_box (v := .agg #[.int .i64 _, .int .i64 _, .int .i64 _, .int .i64 _, .int .i64 _, .slice _ _ _, .slice _ _ _, .slice _ _ _, .slice _ _ _]) (cs := [_, _, _, _, _, _, _, _, _]) rfl rfl fun b2 hb2 => ?_
  refine wp_norm [_] rfl ?_
  refine op_pure (pv_assign (v := .slice _ _ _) rfl) ?_
  refine op_pure (pv_assign (v := .int .i64 _) rfl) ?_
  refine xp_seq ?_
  refine xp_seq ?_
  refine xp_region rfl ?_
  refine op_loadPA 0 (vs := [.int .i64 _, .int .i64 _, .int .i64 _, .int .i64 _, .int .i64 _, .slice _ _ _, .slice _ _ _, .slice _ _ _, .slice _ _ _]) rfl rfl rfl rfl rfl ?_
  refine op_pure (pv_move (v := .slice _ _ _) rfl) ?_
  refine op_pure (pv_build (zc := [_, _]) (vs := [(1, .slice _ _ _)]) (cs := [_, _]) rfl rfl rfl rfl rfl rfl) ?_
  refine op_fn (caps := []) (vs := [.agg #[.int .i64 _, .int .i64 _, .int .i64 _, .int .i64 _, .int .i64 _, .slice _ _ _, .slice _ _ _, .slice _ _ _, .slice _ _ _], .agg #[.slice _ _ _, .slice _ _ _]]) rfl rfl rfl (checkS_ok m S ⟨[], on⟩ (smlH_on hon) AB AQ AL AW none OA cB cQ cL cW 0 cO h (RM.ext (Ext.refl _)) ⟨row_nil _ _, RO.ext (Ext.refl _)⟩) ?_
  rintro _ h3 E3 rfl
  refine op_pure (pv_assign (v := .int .i64 _) rfl) ?_
  refine xp_seq ?_
  refine xp_region rfl ?_
  refine op_pure (pv_move (v := .int .i64 _) rfl) ?_
  refine op_pure (pv_of (v := .bool _) rfl) ?_
  refine xp_cond rfl (fun hc => ?_) (fun hc => ?_)
  · skip
    have hc' : checkHandM m ⟨[], on⟩ ≠ 0 := by simpa using hc
    refine xp_seq ?_
    refine xp_region rfl ?_
    refine op_pure (pv_move (v := .int .i64 _) rfl) ?_
    refine op_pure (pv_assign (v := .slice _ _ _) rfl) ?_
    refine op_pure (pv_assign (v := .int .i64 _) rfl) ?_
    refine xp_ret ?_
    refine res_list (vs := [_, _]) Try.results58 ⟨resV_tmp rfl rfl, resV_tmp rfl rfl, trivial⟩ fun V => ?_
    exact ⟨(Ext.trans E3 (ext_wl V)), _, rfl, by rw [chartL, if_neg hc']; exact SlX.nil _ _ _ _ _⟩
  · skip
    have hc' : checkHandM m ⟨[], on⟩ = 0 := by simpa using hc
    obtain ⟨M, H⟩ := checkHand_ok0 hc'
    have bl := M.bl
    refine xp_skip ?_
    refine xp_seq ?_
    refine xp_region rfl ?_
    refine op_pure (pv_assign (v := .slice _ _ _) rfl) ?_
    refine goes_more ?_
    refine goes_norm [_, _] rfl ?_
    refine xp_seq ?_
    refine xp_seq ?_
    refine xp_region rfl ?_
    refine op_pure (pv_assign (v := .int .i64 _) rfl) ?_
    refine xp_block ?_
    refine xp_loopL [7, 8, 16, 17, 18, 19, 20, 21, 22, 23, 24, 25, 26, 27, 28, 29, 30, 31] 2 (α := Nat × Acc × List (List Value)) (fun ⟨k, a, cs⟩ => [(7, .slice a.A a.n a.c), (8, .int .i64 k)]) (fun ⟨k, a, cs⟩ L => L.set 1 (a.p)) (fun ⟨k, a, cs⟩ h_k => k ≤ m.buttons.length ∧ AccR 22 1 (cs.flatMap id) a ∧ Els h_k TL (chartN m on k) cs ∧ ∀ x ∈ cs, x.length = 1) (fun ⟨k, a, cs⟩ => m.buttons.length - k) ((0, acc0, [])) ⟨rfl, rfl, trivial⟩ (rfl) (⟨Nat.zero_le _, accR0, Els.nil _ _, fun _ hx => absurd hx List.not_mem_nil⟩) ?_
    rintro ⟨k, a, cs⟩ T1 h_k E_k J_k
    refine goes_norm [_, _] rfl ?_
    obtain ⟨K1, K2, K3, K4⟩ := J_k
    refine xp_seq ?_
    refine xp_seq ?_
    refine xp_region rfl ?_
    refine op_pure (pv_move (v := .int .i64 _) rfl) ?_
    refine op_pure (pv_fieldAddr rfl rfl rfl rfl 5 rfl) ?_
    refine op_loadP 0 (v := .slice _ _ _) rfl rfl rfl rfl ?_
    refine op_pure (pv_len rfl rfl) ?_
    refine op_pure (pv_of (v := .bool _) rfl) ?_
    refine xp_cond rfl (fun hk => ?_) (fun hk => ?_)
    · skip
      have hkl : k < m.buttons.length := ltI hk
      have Hk := hand1_ok H hkl
      refine xp_skip ?_
      refine xp_seq ?_
      refine xp_block ?_
      refine xp_region rfl ?_
      refine op_pure (pv_move (v := .slice _ _ _) rfl) ?_
      refine op_loadPA 0 (vs := [.int .i64 _, .int .i64 _, .int .i64 _, .int .i64 _, .int .i64 _, .slice _ _ _, .slice _ _ _, .slice _ _ _, .slice _ _ _]) rfl rfl rfl rfl rfl ?_
      refine op_pure (pv_move (v := .int .i64 _) rfl) ?_
      refine op_buildSlice (zc := [_]) (vs := [(0, .int .i64 _)]) (cs := [_]) rfl rfl rfl rfl rfl rfl rfl fun b26 hb26 => ?_
      refine wp_norm [_, _, _] rfl ?_
      refine op_pure (pv_move (v := .slice _ _ _) rfl) ?_
      refine op_pure (pv_build (zc := [_, _]) (vs := [(0, .slice _ _ _), (1, .slice _ _ _)]) (cs := [_, _]) rfl rfl rfl rfl rfl rfl) ?_
      refine wp_pub 2 rfl rfl ?_
      intro h5 E5 hb5
      refine wp_norm [_, _, _] rfl ?_
      refine op_fn (caps := []) (vs := [.agg #[.int .i64 _, .int .i64 _, .int .i64 _, .int .i64 _, .int .i64 _, .slice _ _ _, .slice _ _ _, .slice _ _ _, .slice _ _ _], .agg #[.slice _ _ _, .slice _ _ _]]) rfl rfl rfl (soundsR_ok m M ⟨[(k : Int)], on⟩ (fit_of M Hk) AB AQ AL AW (some ⟨b26, 0, none⟩) OA cB cQ cL cW 1 cO h5 (RM.ext (Ext.trans (Ext.trans E3 E_k) E5)) ⟨row_one hb5, RO.ext (Ext.trans (Ext.trans E3 E_k) E5)⟩) ?_
      rintro _ h6 E6 ⟨Al, cl, rfl, Rl⟩
      refine op_buildSlice (zc := [_]) (vs := [(0, .slice _ _ _)]) (cs := [_]) rfl rfl rfl rfl rfl rfl rfl fun b30 hb30 => ?_
      refine wp_norm [_, _, _, _] rfl ?_
      refine op_appendR 1 K2 rfl rfl rfl (fun V => rdP V (i := 3) rfl) rfl rfl rfl rfl rfl rfl rfl rfl rfl (by omega) rfl (by rw [flat_len (enc := id) (m := 1) K4, K3.1]; simp [chartN]; omega) fun a2 h2a E2a ha2 => ?_
      refine wp_norm [_, _, _, _] rfl ?_
      refine op_pure (pv_assign (v := .slice _ _ _) rfl) ?_
      refine xp_region rfl ?_
      refine op_pure (pv_move (v := .int .i64 _) rfl) ?_
      refine op_pure (pv_arith rfl (by omega)) ?_
      refine op_pure (pv_assign (v := .int .i64 _) rfl) ?_
      refine ⟨(k + 1, a2, cs ++ [[.slice Al (listN (soundsM m ⟨[(k : Int)], on⟩ m.travel) 6).length cl]]), ⟨rfl, rfl, trivial⟩, rfl, rfl, (Ext.trans (Ext.trans (Ext.trans E_k E5) E6) E2a), fun h3 E3 => ⟨hkl, by rw [List.flatMap_append]; exact ha2, by rw [chartN_succ]; exact ((K3.ext TL.mono (Ext.trans (Ext.trans E5 E6) E2a)).snoc ⟨_, rfl, _, _, rfl, Rl.ext E2a⟩).ext TL.mono E3, one_len K4 rfl⟩, by first | omega | (dsimp only; omega), ?_⟩
      repeat (first | exact off_base _ _ _ | refine off_upd (by decide) ?_ | refine off_updL rfl ?_ | refine off_mix rfl ?_)
    · skip
      have hke : k = m.buttons.length := by have := geI hk; omega
      subst hke
      refine xp_exit ?_
      refine xp_seq ?_
      refine xp_region rfl ?_
      refine op_pure (pv_move (v := .slice _ _ _) rfl) ?_
      refine op_pure (pv_assign (v := .slice _ _ _) rfl) ?_
      refine op_pure (pv_assign (v := .int .i64 _) rfl) ?_
      refine xp_ret ?_
      refine res_list (vs := [_, _]) Try.results58 ⟨resV_tmp rfl rfl, resV_tmp rfl rfl, trivial⟩ fun V => ?_
      refine ⟨(Ext.trans (Ext.trans E3 E_k) (ext_wl V)), _, by rw [hc']; rfl, ?_⟩
      rw [chartL, if_pos hc']
      exact SlX.acc (i := 1) K2 (by omega) K4 V rfl (K3.ext TL.mono (ext_wl V))
theorem ChordG_ok (m : MachP) (S : Sml m) (on levers : List Int) (hon : on.length < 2 ^ 20) (h2 : levers.length < 2 ^ 40) (AB AQ AL AW OA VA : Option Addr) (cB cQ cL cW cO cV : Nat) (h : AH) (RM : MachR h AB AQ AL AW m) (RO : Row h 1 intC OA on) (RV : Row h 1 intC VA levers) :
    FnT Try.prog 59 #[machV AB AQ AL AW cB cQ cL cW m, .slice OA on.length cO, .slice VA levers.length cV] h (fun v h' => ∃ L, v = .tuple #[L, .int .i64 (chordE m on levers)] ∧ SlR h' 1 intC (chordL m on levers) L) := by
  refine call_body Try.func59 rfl Try.ntmps59 rfl ?_
  refine xp_seq ?_
  refine xp_region rfl ?_
  refine op_box (v := .agg #[.int .i64 _, .int .i64 _, .int .i64 _, .int .i64 _, .int .i64 _, .slice _ _ _, .slice _ _ _, .slice _ _ _, .slice _ _ _]) (cs := [_, _, _, _, _, _, _, _, _]) rfl rfl fun b3 hb3 => ?_
  refine wp_norm [_] rfl ?_
  refine op_pure (pv_assign (v := .slice _ _ _) rfl) ?_
  refine op_pure (pv_assign (v := .int .i64 _) rfl) ?_
  refine xp_seq ?_
  refine xp_seq ?_
  refine xp_region rfl ?_
  refine op_loadPA 0 (vs := [.int .i64 _, .int .i64 _, .int .i64 _, .int .i64 _, .int .i64 _, .slice _ _ _, .slice _ _ _, .slice _ _ _, .slice _ _ _]) rfl rfl rfl rfl rfl ?_
  refine op_pure (pv_move (v := .slice _ _ _) rfl) ?_
  refine op_pure (pv_build (zc := [_, _]) (vs := [(1, .slice _ _ _)]) (cs := [_, _]) rfl rfl rfl rfl rfl rfl) ?_
  refine op_fn (caps := []) (vs := [.agg #[.int .i64 _, .int .i64 _, .int .i64 _, .int .i64 _, .int .i64 _, .slice _ _ _, .slice _ _ _, .slice _ _ _, .slice _ _ _], .agg #[.slice _ _ _, .slice _ _ _]]) rfl rfl rfl (checkS_ok m S ⟨[], on⟩ (smlH_on hon) AB AQ AL AW none OA cB cQ cL cW 0 cO h (RM.ext (Ext.refl _)) ⟨row_nil _ _, RO.ext (Ext.refl _)⟩) ?_
  rintro _ h3 E3 rfl
  refine op_pure (pv_assign (v := .int .i64 _) rfl) ?_
  refine xp_seq ?_
  refine xp_region rfl ?_
  refine op_pure (pv_move (v := .int .i64 _) rfl) ?_
  refine op_pure (pv_of (v := .bool _) rfl) ?_
  refine xp_cond rfl (fun hc => ?_) (fun hc => ?_)
  · skip
    have hc' : checkHandM m ⟨[], on⟩ ≠ 0 := by simpa using hc
    have eE : chordE m on levers = checkHandM m ⟨[], on⟩ := by rw [chordE, if_pos hc']
    refine xp_seq ?_
    refine xp_region rfl ?_
    refine op_pure (pv_move (v := .int .i64 _) rfl) ?_
    refine op_pure (pv_assign (v := .slice _ _ _) rfl) ?_
    refine op_pure (pv_assign (v := .int .i64 _) rfl) ?_
    refine xp_ret ?_
    refine res_list (vs := [_, _]) Try.results59 ⟨resV_tmp rfl rfl, resV_tmp rfl rfl, trivial⟩ fun V => ?_
    exact ⟨(Ext.trans E3 (ext_wl V)), _, by rw [eE]; rfl, none, 0, by rw [chordL, eE, if_neg hc']; rfl, by rw [chordL, eE, if_neg hc']; exact row_nil _ _⟩
  · skip
    have hc' : checkHandM m ⟨[], on⟩ = 0 := by simpa using hc
    obtain ⟨M, H⟩ := checkHand_ok0 hc'
    have bl := M.bl
    have lv := M.levers
    refine xp_skip ?_
    refine xp_seq ?_
    refine xp_seq ?_
    refine xp_region rfl ?_
    refine op_pure (pv_move (v := .slice _ _ _) rfl) ?_
    refine op_pure (pv_fieldAddr rfl rfl rfl rfl 1 rfl) ?_
    refine op_loadP 0 (v := .int .i64 _) rfl rfl rfl rfl ?_
    refine op_fn (caps := []) (vs := [.slice _ _ _, .int .i64 _]) rfl rfl rfl (checkSetR_ok levers m.levers (by omega) VA cV h3 (RV.ext E3) h2) ?_
    rintro _ h4 E4 rfl
    refine op_pure (pv_assign (v := .int .i64 _) rfl) ?_
    refine xp_seq ?_
    refine xp_region rfl ?_
    refine op_pure (pv_move (v := .int .i64 _) rfl) ?_
    refine op_pure (pv_of (v := .bool _) rfl) ?_
    refine xp_cond rfl (fun hs => ?_) (fun hs => ?_)
    · skip
      have hs' : checkSetM levers m.levers ≠ 0 := by simpa using hs
      have eE : chordE m on levers = checkSetM levers m.levers := by rw [chordE, if_neg (by simp [hc']), if_pos hs']
      refine xp_seq ?_
      refine xp_region rfl ?_
      refine op_pure (pv_move (v := .int .i64 _) rfl) ?_
      refine op_pure (pv_assign (v := .slice _ _ _) rfl) ?_
      refine op_pure (pv_assign (v := .int .i64 _) rfl) ?_
      refine xp_ret ?_
      refine res_list (vs := [_, _]) Try.results59 ⟨resV_tmp rfl rfl, resV_tmp rfl rfl, trivial⟩ fun V => ?_
      exact ⟨(Ext.trans (Ext.trans E3 E4) (ext_wl V)), _, by rw [eE]; rfl, none, 0, by rw [chordL, eE, if_neg hs']; rfl, by rw [chordL, eE, if_neg hs']; exact row_nil _ _⟩
    · skip
      have hs' : checkSetM levers m.levers = 0 := by simpa using hs
      have SV := checkSet_iff.1 hs'
      have eE : chordE m on levers = if (chordO m on levers).isSome then 0 else 11 := by rw [chordE, if_neg (by simp [hc']), if_neg (by simp [hs'])]
      obtain ⟨all, hall⟩ : ∃ x, x = setsM m.buttons.length := ⟨_, rfl⟩
      have hal : all.length < 2 ^ 20 := by
        rw [hall]
        have := setsM_len (n := m.buttons.length) (by omega)
        omega
      have L1 := setsR_ok m.buttons.length (by omega) m.buttons.length rfl
      rw [← hall] at L1
      refine xp_skip ?_
      refine xp_seq ?_
      refine xp_region rfl ?_
      refine op_pure (pv_fieldAddr rfl rfl rfl rfl 5 rfl) ?_
      refine op_loadP 0 (v := .slice _ _ _) rfl rfl rfl rfl ?_
      refine op_pure (pv_len rfl rfl) ?_
      refine op_fn (caps := []) (vs := [.int .i64 _]) rfl rfl rfl (L1 h4) ?_
      rintro _ h5 E5 S5
      obtain ⟨cs, A5, c5, rfl, R5, EL5⟩ := SlX.els S5
      refine op_pure (pv_assign (v := .slice _ _ _) rfl) ?_
      refine xp_seq ?_
      refine xp_seq ?_
      refine xp_region rfl ?_
      refine op_pure (pv_assign (v := .int .i64 _) rfl) ?_
      refine xp_block ?_
      refine xp_loopB [6, 7, 11, 30, 31, 32, 33, 34, 35, 36, 37, 38, 39, 40, 41, 42, 43, 44, 45, 46, 47, 48, 49] 1 (α := Nat) (fun k => [(11, .int .i64 k)]) (fun k => _) (fun k h_k => k ≤ all.length ∧ ∀ i s, i < k → all[i]? = some s → chordP m on levers s = false) (fun k => all.length - k) (0) ⟨rfl, trivial⟩ (rfl) (⟨Nat.zero_le _, fun i s h _ => absurd h (Nat.not_lt_zero _)⟩) ?_
      rintro k T1 h_k E_k J_k
      refine goes_norm [_] rfl ?_
      obtain ⟨K1, K2⟩ := J_k
      refine xp_seq ?_
      refine xp_seq ?_
      refine xp_region rfl ?_
      refine op_pure (pv_move (v := .int .i64 _) rfl) ?_
      refine op_pure (pv_move (v := .slice _ _ _) rfl) ?_
      refine op_pure (pv_len rfl rfl) ?_
      refine op_pure (pv_of (v := .bool _) rfl) ?_
      refine xp_cond rfl (fun hk => ?_) (fun hk => ?_)
      · skip
        have hkl : k < all.length := ltI hk
        have hke := List.getElem?_eq_getElem hkl
        have HX : HOK m ⟨all[k], on⟩ := ⟨setsM_set (by rw [← hall]; exact List.getElem_mem hkl), H.o⟩
        obtain ⟨hkc, y0, e0, XA, cX, rfl, RX⟩ := (EL5.ext TL.mono E_k).at hkl
        obtain ⟨g, off, hA, hcc⟩ := (R5.ext E_k).at (by omega) hkc
        have hcc : Cells h_k g (off + k * 1) [.slice XA all[k].length cX] := by rw [← e0]; exact hcc
        have hpe : decide (listN (soundsM m ⟨all[k], on⟩ m.travel) 6 = levers) = chordP m on levers all[k] := by
          have hlt := sounds_lt m ⟨all[k], on⟩ m.travel
          have h6 : 2 ^ m.levers.toNat ≤ 2 ^ 6 := Nat.pow_le_pow_right (by omega) (by omega)
          have S6 : SetOK levers ((6 : Nat) : Int) := ⟨fun x hx => by have := SV.mem x hx; omega, SV.asc⟩
          unfold chordP
          rw [decide_eq_decide, eq_comm, ← set_eq S6 (by omega)]
          exact eq_comm
        generalize all[k] = s at *
        have hxl : s.length < 2 ^ 40 := by have := set_len HX.b; simp at this; omega
        have sl := listN_len (soundsM m ⟨s, on⟩ m.travel) 6
        refine xp_skip ?_
        refine xp_seq ?_
        refine xp_block ?_
        refine xp_seq ?_
        refine xp_dw [] rfl rfl rfl ?_
        refine dw_load (i := 0) rfl (by decide +kernel) ?_
        refine op_loadPA 0 (vs := [.int .i64 _, .int .i64 _, .int .i64 _, .int .i64 _, .int .i64 _, .slice _ _ _, .slice _ _ _, .slice _ _ _, .slice _ _ _]) rfl rfl rfl rfl rfl ?_
        refine dw_pure (i := 1) rfl (by decide +kernel) (pv_move (v := .slice _ _ _) rfl) ?_
        refine dw_pure (i := 2) rfl (by decide +kernel) (pv_move (v := .int .i64 _) rfl) ?_
        refine dw_pure (i := 3) rfl (by decide +kernel) (pv_indexE (m := 1) rfl hA rfl rfl rfl (by omega) (by omega)) ?_
        refine dw_load (i := 4) rfl (by decide +kernel) ?_
        refine op_load (v := .slice _ _ _) rfl rfl ((hcc) 0 _ rfl) ?_
        refine dw_pure (i := 5) rfl (by decide +kernel) (pv_move (v := .slice _ _ _) rfl) ?_
        refine dw_pure (i := 6) rfl (by decide +kernel) (pv_build (zc := [_, _]) (vs := [(0, .slice _ _ _), (1, .slice _ _ _)]) (cs := [_, _]) rfl rfl rfl rfl rfl rfl) ?_
        refine dw_pure (i := 8) rfl (by decide +kernel) (pv_move (v := .slice _ _ _) rfl) ?_
        refine dw_last (i := 7) rfl (by decide +kernel) (by decide +kernel) ?_
        refine op_fn (caps := []) (vs := [.agg _, .agg _]) rfl rfl rfl (soundsR_ok m M ⟨s, on⟩ (fit_of M HX) AB AQ AL AW XA OA cB cQ cL cW cX cO h_k (RM.ext (Ext.trans (Ext.trans (Ext.trans E3 E4) E5) E_k)) ⟨RX, RO.ext (Ext.trans (Ext.trans (Ext.trans E3 E4) E5) E_k)⟩) ?_
        rintro _ h6 E6 ⟨A6, c6, rfl, S6⟩
        refine dw_last (i := 9) rfl (by decide +kernel) (by decide +kernel) ?_
        refine op_fn (caps := []) (vs := [.slice _ _ _, .slice _ _ _]) rfl rfl rfl (sameR_ok _ levers _ _ _ _ h6 (S6.ext (Ext.refl _)) (RV.ext (Ext.trans (Ext.trans (Ext.trans (Ext.trans E3 E4) E5) E_k) E6)) (by omega) h2) ?_
        rintro _ h7 E7 rfl
        rw [hpe]
        refine dw_end rfl ?_
        refine xp_cond rfl (fun hp => ?_) (fun hp => ?_)
        · skip
          have hf : chordO m on levers = some s := by rw [chordO, ← hall]; exact find_at hke hp K2
          have eE0 : chordE m on levers = 0 := by rw [eE, hf]; rfl
          have eL : chordL m on levers = s := by rw [chordL, if_pos eE0, hf]; rfl
          refine xp_seq ?_
          refine xp_region rfl ?_
          refine op_pure (pv_move (v := .slice _ _ _) rfl) ?_
          refine op_pure (pv_move (v := .int .i64 _) rfl) ?_
          refine op_pure (pv_indexE (m := 1) rfl hA rfl rfl rfl (by omega) (by omega)) ?_
          refine op_load (v := .slice _ _ _) rfl rfl (((hcc.ext (Ext.trans E6 E7))) 0 _ rfl) ?_
          refine op_pure (pv_assign (v := .slice _ _ _) rfl) ?_
          refine op_pure (pv_assign (v := .int .i64 _) rfl) ?_
          refine xp_ret ?_
          refine res_list (vs := [_, _]) Try.results59 ⟨resV_tmp rfl rfl, resV_tmp rfl rfl, trivial⟩ fun V => ?_
          exact ⟨(Ext.trans (Ext.trans (Ext.trans (Ext.trans (Ext.trans (Ext.trans E3 E4) E5) E_k) E6) E7) (ext_wl V)), _, by rw [eE0]; rfl, XA, cX, by rw [eL]; rfl, by rw [eL]; exact RX.ext (Ext.trans (Ext.trans E6 E7) (ext_wl V))⟩
        · skip
          refine xp_skip ?_
          refine xp_region rfl ?_
          refine op_pure (pv_move (v := .int .i64 _) rfl) ?_
          refine op_pure (pv_arith rfl (by omega)) ?_
          refine op_pure (pv_assign (v := .int .i64 _) rfl) ?_
          refine ⟨k + 1, ⟨rfl, trivial⟩, rfl, rfl, (Ext.trans (Ext.trans E_k E6) E7), fun h3 E3 => ⟨hkl, fun i t hi ht => (Nat.lt_succ_iff_lt_or_eq.1 hi).elim (fun h => K2 i t h ht) (fun h => by subst h; rw [hke] at ht; cases ht; exact hp)⟩, by first | omega | (dsimp only; omega), ?_⟩
          repeat (first | exact off_base _ _ _ | refine off_upd (by decide) ?_ | refine off_updL rfl ?_ | refine off_mix rfl ?_)
      · skip
        have hke : k = all.length := by have := geI hk; omega
        subst hke
        have hf : chordO m on levers = none := by rw [chordO, ← hall]; exact find_no K2
        have eE0 : chordE m on levers = 11 := by rw [eE, hf]; rfl
        refine xp_exit ?_
        refine xp_seq ?_
        refine xp_region rfl ?_
        refine op_pure (pv_assign (v := .slice _ _ _) rfl) ?_
        refine op_pure (pv_assign (v := .int .i64 _) rfl) ?_
        refine xp_ret ?_
        refine res_list (vs := [_, _]) Try.results59 ⟨resV_tmp rfl rfl, resV_tmp rfl rfl, trivial⟩ fun V => ?_
        exact ⟨(Ext.trans (Ext.trans (Ext.trans (Ext.trans E3 E4) E5) E_k) (ext_wl V)), _, by rw [eE0]; rfl, none, 0, by rw [chordL, eE0, if_neg (by decide)]; rfl, by rw [chordL, eE0, if_neg (by decide)]; exact row_nil _ _⟩
end
end Go.Proofs.Ythphpbdmbmiaiaa
/- Walks: RodCharts. Conditions: as each theorem states. -/
namespace Go.Proofs.Ythphpbdmbmiaiaa
open Go Go.HL Go.Proofs Go.Wx Go.Rd
section
variable [Lvl]
set_option maxRecDepth 100000
theorem all3 {α : Type} {p : α → Prop} {a b c : α} (ha : p a) (hb : p b) (hc : p c) : ∀ x ∈ [a, b, c], p x := fun x hx => by
  simp only [List.mem_cons, List.not_mem_nil, or_false] at hx
  rcases hx with rfl | rfl | rfl <;> assumption
theorem els3 {α : Type} {h : AH} {T : AH → α → List Value → Prop} {a b c : α} {ca cb cc : List Value} (ha : T h a ca) (hb : T h b cb) (hc : T h c cc) : Els h T [a, b, c] [ca, cb, cc] :=
  ((Els.nil h T).snoc ha).snoc hb |>.snoc hc
theorem tl_of {h : AH} {l : List Int} {A : Option Addr} {c : Nat} (R : Row h 1 intC A l) : TL h l [.slice A l.length c] := ⟨_, rfl, A, c, rfl, R⟩
theorem chart_le (m : MachP) (on : List Int) : (chartL m on).length < 2 ^ 40 ∧ ∀ x ∈ chartL m on, x.length < 2 ^ 40 := by
  unfold chartL
  split
  · rename_i h
    have := (checkHand_ok0 h).1.bl
    refine ⟨by simp [chartN]; omega, fun x hx => ?_⟩
    simp only [chartN, List.mem_map] at hx
    obtain ⟨b, _, rfl⟩ := hx
    have := listN_len (soundsM m ⟨[(b : Int)], on⟩ m.travel) 6
    omega
  · exact ⟨by simp, fun x hx => absurd hx List.not_mem_nil⟩
theorem chord_le (m : MachP) (on levers : List Int) : (chordL m on levers).length < 2 ^ 40 := by
  unfold chordL
  split
  · rename_i h
    unfold chordE at h
    by_cases h1 : checkHandM m ⟨[], on⟩ = 0
    · have bl := (checkHand_ok0 h1).1.bl
      cases hf : chordO m on levers with
      | none => simp
      | some s =>
        have := set_len (setsM_set (List.mem_of_find?_eq_some hf))
        show s.length < _
        omega
    · rw [if_pos h1] at h
      exact absurd h h1
  · simp
theorem sameListsS_ok (a : List (List Int)) (A B : Option Addr) (ca cb : Nat) (cs ds : List (List Value)) (h : AH) (Ra : Row h 1 id A cs) (Ea : Els h TL a cs) (Rb : Row h 1 id B ds) (Eb : Els h TL a ds) (ha : a.length < 2 ^ 40 ∧ ∀ x ∈ a, x.length < 2 ^ 40) :
    FnT Try.prog 60 #[.slice A a.length ca, .slice B a.length cb] h (fun v _ => v = .bool true) :=
  (sameLists_ok a a A B ca cb cs ds h Ra Ea Rb Eb ha.1 ha.2).mono (fun v _ e => ⟨e.1, e.2.trans (boolE (decide_eq_true rfl))⟩) fun _ _ e => e
set_option maxHeartbeats 16000000 in
theorem charts_runs (w : World) (m0 : MachP) (AB0 AQ0 AL0 AW0 : Option Addr) (cB0 cQ0 cL0 cW0 : Nat) (RM0 : MachR (absH w.heap) AB0 AQ0 AL0 AW0 m0) (u1 : m0.pins.length ≤ cQ0) (u2 : m0.links.length ≤ cL0) (on0 : List Int) (OA0 : Option Addr) (cO0 : Nat) (RO0 : Row (absH w.heap) 1 intC OA0 on0) (_ : on0.length < 2 ^ 63) (lv0 : List Int) (VA0 : Option Addr) (cV0 : Nat) (RV0 : Row (absH w.heap) 1 intC VA0 lv0) (_ : lv0.length < 2 ^ 63) (z1 z2 : Int) (l : List Int) (A : Option Addr) (c : Nat) (R : Row (absH w.heap) 1 intC A l) (hl : l.length < 2 ^ 63) :
    RunsTrue Try.prog 10 #[machV AB0 AQ0 AL0 AW0 cB0 cQ0 cL0 cW0 m0, .slice OA0 on0.length cO0, .slice VA0 lv0.length cV0, .int .i64 z1, .int .i64 z2, .slice A l.length c] w := by
  letI : Lvl := ⟨true, none, none⟩
  refine runs_body Try.func10 rfl Try.ntmps10 rfl Try.results10 rfl (by kernel_rfl) fun h hh => ?_
  rw [← hh] at RM0 RO0 RV0 R
  refine xp_seq ?_
  refine xp_region rfl ?_
  refine op_box (v := .agg #[.int .i64 _, .int .i64 _, .int .i64 _, .int .i64 _, .int .i64 _, .slice _ _ _, .slice _ _ _, .slice _ _ _, .slice _ _ _]) (cs := [_, _, _, _, _, _, _, _, _]) rfl rfl fun b6 hb6 => ?_
  refine wp_norm [_] rfl ?_
  refine op_pure (pv_assign (v := .bool _) rfl) ?_
  refine xp_seq ?_
  refine xp_seq ?_
  refine xp_region rfl ?_
  refine op_loadPA 0 (vs := [.int .i64 _, .int .i64 _, .int .i64 _, .int .i64 _, .int .i64 _, .slice _ _ _, .slice _ _ _, .slice _ _ _, .slice _ _ _]) rfl rfl rfl rfl rfl ?_
  refine op_pure (pv_move (v := .slice _ _ _) rfl) ?_
  refine op_pure (pv_move (v := .slice _ _ _) rfl) ?_
  refine op_pure (pv_build (zc := [_, _]) (vs := [(1, .slice _ _ _), (0, .slice _ _ _)]) (cs := [_, _]) rfl rfl rfl rfl rfl rfl) ?_
  refine op_fn (caps := []) (vs := [.agg _, .agg _]) rfl rfl rfl (large_ok m0 ⟨lv0, on0⟩ AB0 AQ0 AL0 AW0 VA0 OA0 cB0 cQ0 cL0 cW0 cV0 cO0 h) ?_
  rintro _ g0 G0 rfl
  refine xp_cond rfl (fun hL => ?_) (fun hL => ?_)
  · skip
    refine xp_seq ?_
    refine xp_region rfl ?_
    refine op_fn (caps := []) (vs := []) rfl rfl rfl (rod_sounding rfl g0) ?_
    rintro _ h26 E26 rfl
    refine op_pure (pv_assign (v := .bool _) rfl) ?_
    refine xp_ret ?_
    exact ⟨rfl, fun V => (Ext.trans (Ext.trans G0 E26) (ext_wl V)), rfl⟩
  · skip
    obtain ⟨S0, SH0⟩ := large_sml hL
    have lon0 : on0.length < 2 ^ 20 := SH0.o
    have llv0 : lv0.length < 2 ^ 20 := SH0.b
    refine xp_skip ?_
    refine xp_seq ?_
    refine xp_region rfl ?_
    refine op_pure (pv_move (v := .slice _ _ _) rfl) ?_
    refine op_fnMM [_] [] [] rfl rfl rfl ((NewPot_ok l hl A c g0 (R.ext G0))) ?_
    rintro _ h1 _ E1 ⟨b, x, rfl, rfl⟩
    refine wp_norm [_, _] rfl ?_
    refine op_pure (pv_assign (v := .pointer _) rfl) ?_
    refine xp_seq ?_
    refine xp_region rfl ?_
    refine op_pure (pv_move (v := .pointer _) rfl) ?_
    refine op_fnMM [_] [_] [] (vs := _) rfl rfl rfl ((MachineOf_okC b x 5 8 4 (by omega) (by omega) (by omega) h1)) ?_
    rintro _ h2 _ E2 ⟨x2, m, rfl, VM, Md, hCap⟩
    refine wp_norm [_, _] rfl ?_
    obtain ⟨AB, AQ, AL, AW, cB, cQ, cL, cW, rfl, RM⟩ := VM.open
    obtain ⟨hcQ, hcL⟩ := hCap _ _ _ _ _ _ _ _ _ rfl
    have M := Md.ok
    have mbl := M.bl
    have mlv := M.levers
    have mrg := M.regs
    refine op_alloc (cs := [_, _, _, _, _, _, _, _, _]) rfl rfl fun b14 hb14 => ?_
    refine wp_norm [_, _, _] rfl ?_
    refine op_storeP 2 (v := .agg #[.int .i64 _, .int .i64 _, .int .i64 _, .int .i64 _, .int .i64 _, .slice _ _ _, .slice _ _ _, .slice _ _ _, .slice _ _ _]) (vs := [_, _, _, _, _, _, _, _, _]) (c' := [_, _, _, _, _, _, _, _, _]) rfl rfl rfl rfl rfl rfl rfl rfl rfl ?_
    refine wp_norm [_, _, _] rfl ?_
    refine xp_seq ?_
    refine xp_dw [false, true, false] rfl rfl rfl ?_
    refine dw_load (i := 0) rfl (by decide +kernel) ?_
    refine op_loadPA 0 (vs := [.int .i64 _, .int .i64 _, .int .i64 _, .int .i64 _, .int .i64 _, .slice _ _ _, .slice _ _ _, .slice _ _ _, .slice _ _ _]) rfl rfl rfl rfl rfl ?_
    refine dw_load (i := 1) rfl (by decide +kernel) ?_
    refine op_loadPA 2 (vs := [.int .i64 _, .int .i64 _, .int .i64 _, .int .i64 _, .int .i64 _, .slice _ _ _, .slice _ _ _, .slice _ _ _, .slice _ _ _]) rfl rfl rfl rfl rfl ?_
    refine dw_load (i := 2) rfl (by decide +kernel) ?_
    refine op_loadPA 2 (vs := [.int .i64 _, .int .i64 _, .int .i64 _, .int .i64 _, .int .i64 _, .slice _ _ _, .slice _ _ _, .slice _ _ _, .slice _ _ _]) rfl rfl rfl rfl rfl ?_
    refine dw_pure (i := 4) rfl (by decide +kernel) (pv_move (v := .slice _ _ _) rfl) ?_
    refine dw_pure (i := 5) rfl (by decide +kernel) (pv_move (v := .pointer _) rfl) ?_
    refine dw_pure (i := 6) rfl (by decide +kernel) (pv_fieldAddr rfl rfl rfl rfl 2 rfl) ?_
    refine dw_load (i := 7) rfl (by decide +kernel) ?_
    refine op_loadP 2 (v := .int .i64 _) rfl rfl rfl rfl ?_
    refine dw_pure (i := 9) rfl (by decide +kernel) (pv_move (v := .slice _ _ _) rfl) ?_
    refine dw_pure (i := 11) rfl (by decide +kernel) (pv_move (v := .slice _ _ _) rfl) ?_
    refine dw_pure (i := 12) rfl (by decide +kernel) (pv_move (v := .pointer _) rfl) ?_
    refine dw_pure (i := 13) rfl (by decide +kernel) (pv_fieldAddr rfl rfl rfl rfl 1 rfl) ?_
    refine dw_load (i := 14) rfl (by decide +kernel) ?_
    refine op_loadP 2 (v := .int .i64 _) rfl rfl rfl rfl ?_
    refine dw_pure (i := 16) rfl (by decide +kernel) (pv_move (v := .slice _ _ _) rfl) ?_
    refine dw_pure (i := 18) rfl (by decide +kernel) (pv_move (v := .int .i64 _) rfl) ?_
    refine dw_pure (i := 19) rfl (by decide +kernel) (pv_move (v := .pointer _) rfl) ?_
    refine dw_pure (i := 20) rfl (by decide +kernel) (pv_fieldAddr rfl rfl rfl rfl 5 rfl) ?_
    refine dw_load (i := 21) rfl (by decide +kernel) ?_
    refine op_loadP 2 (v := .slice _ _ _) rfl rfl rfl rfl ?_
    refine dw_pure (i := 22) rfl (by decide +kernel) (pv_len rfl rfl) ?_
    refine dw_pure (i := 24) rfl (by decide +kernel) (pv_move (v := .int .i64 _) rfl) ?_
    refine dw_pure (i := 26) rfl (by decide +kernel) (pv_move (v := .int .i64 _) rfl) ?_
    refine dw_pure (i := 27) rfl (by decide +kernel) (pv_move (v := .pointer _) rfl) ?_
    refine dw_pure (i := 28) rfl (by decide +kernel) (pv_fieldAddr rfl rfl rfl rfl 1 rfl) ?_
    refine dw_load (i := 29) rfl (by decide +kernel) ?_
    refine op_loadP 2 (v := .int .i64 _) rfl rfl rfl rfl ?_
    refine dw_pure (i := 30) rfl (by decide +kernel) (pv_arith rfl (by omega)) ?_
    refine dw_pure (i := 32) rfl (by decide +kernel) (pv_move (v := .int .i64 _) rfl) ?_
    refine dw_eff (i := 8) rfl (by decide +kernel) ?_
    refine op_fnMM [_] [_] [_] (vs := [.pointer _, .int .i64 _]) rfl rfl rfl (fnM_args (by simp only [List.cons.injEq, Value.int.injEq, true_and, and_true]; omega) (Pick_ok b x2 m.regs.toNat (by omega) h2)) ?_
    rintro _ h3 _ E3 ⟨x3, o1, rfl, ⟨A1, c1, rfl, R1⟩, k1, k2, k3⟩
    refine ⟨ext_wlm E3 _, ?_⟩
    refine dw_norm [_, _, _] rfl ?_
    refine dw_eff (i := 15) rfl (by decide +kernel) ?_
    refine op_fnMM [_] [_] [_] (vs := [.pointer _, .int .i64 _]) rfl rfl rfl (fnM_args (by simp only [List.cons.injEq, Value.int.injEq, true_and, and_true]; omega) (Pick_ok b x3 m.levers.toNat (by omega) h3)) ?_
    rintro _ h4 _ E4 ⟨x4, l1, rfl, ⟨A2, c2, rfl, R2⟩, i1, i2, i3⟩
    refine ⟨ext_wlm E4 _, ?_⟩
    refine dw_norm [_, _, _] rfl ?_
    refine dw_eff (i := 23) rfl (by decide +kernel) ?_
    refine op_fnMM [_] [_] [_] (vs := [.pointer _, .int .i64 _]) rfl rfl rfl ((Upto_ok b x4 m.buttons.length (by omega) h4)) ?_
    rintro _ h5 _ E5 ⟨x5, bk, rfl, rfl, bk1, bk2⟩
    refine ⟨ext_wlm E5 _, ?_⟩
    refine dw_norm [_, _, _] rfl ?_
    refine dw_eff (i := 31) rfl (by decide +kernel) ?_
    refine op_fnMM [_] [_] [_] (vs := [.pointer _, .int .i64 _]) rfl rfl rfl ((Upto_ok b x5 (m.levers - 1) (by omega) h5)) ?_
    rintro _ h6 _ E6 ⟨x6, vk, rfl, rfl, vk1, vk2⟩
    refine ⟨ext_wlm E6 _, ?_⟩
    refine dw_norm [_, _, _] rfl ?_
    refine dw_eff (i := 3) rfl (by decide +kernel) ?_
    refine op_buildSliceR (zc := [_, _, _, _, _, _, _, _, _]) [[.int .i64 _, .int .i64 _, .int .i64 _, .int .i64 _, .int .i64 _, .slice _ _ _, .slice _ _ _, .slice _ _ _, .slice _ _ _], [.int .i64 _, .int .i64 _, .int .i64 _, .int .i64 _, .int .i64 _, .slice _ _ _, .slice _ _ _, .slice _ _ _, .slice _ _ _], [.int .i64 _, .int .i64 _, .int .i64 _, .int .i64 _, .int .i64 _, .slice _ _ _, .slice _ _ _, .slice _ _ _, .slice _ _ _]] rfl rfl rfl rfl rfl rfl rfl rfl fun b51 hb51 => ?_
    refine ⟨ext_newM hb51 _, ?_⟩
    refine dw_norm [_, _, _, _] rfl ?_
    refine dw_pure (i := 34) rfl (by decide +kernel) (pv_assign (v := .slice _ _ _) rfl) ?_
    refine dw_eff (i := 10) rfl (by decide +kernel) ?_
    refine op_buildSlice (zc := [_]) (vs := [(0, .slice _ _ _), (1, .slice _ _ _), (2, .slice _ _ _)]) (cs := [_, _, _]) rfl rfl rfl rfl rfl rfl rfl fun b58 hb58 => ?_
    refine ⟨ext_newM hb58 _, ?_⟩
    refine dw_norm [_, _, _, _, _] rfl ?_
    refine dw_pure (i := 35) rfl (by decide +kernel) (pv_assign (v := .slice _ _ _) rfl) ?_
    refine dw_eff (i := 17) rfl (by decide +kernel) ?_
    refine op_buildSlice (zc := [_]) (vs := [(0, .slice _ _ _), (1, .slice _ _ _), (2, .slice _ _ _)]) (cs := [_, _, _]) rfl rfl rfl rfl rfl rfl rfl fun b65 hb65 => ?_
    refine ⟨ext_newM hb65 _, ?_⟩
    refine dw_norm [_, _, _, _, _, _] rfl ?_
    refine dw_pure (i := 36) rfl (by decide +kernel) (pv_assign (v := .slice _ _ _) rfl) ?_
    refine dw_eff (i := 25) rfl (by decide +kernel) ?_
    refine op_buildSlice (zc := [_]) (vs := [(0, .int .i64 _), (1, .int .i64 _), (2, .int .i64 _)]) (cs := [_, _, _]) rfl rfl rfl rfl rfl rfl rfl fun b73 hb73 => ?_
    refine ⟨ext_newM hb73 _, ?_⟩
    refine dw_norm [_, _, _, _, _, _, _] rfl ?_
    refine dw_pure (i := 37) rfl (by decide +kernel) (pv_assign (v := .slice _ _ _) rfl) ?_
    refine dw_eff (i := 33) rfl (by decide +kernel) ?_
    refine op_buildSlice (zc := [_]) (vs := [(0, .int .i64 _), (1, .int .i64 _), (2, .int .i64 _)]) (cs := [_, _, _]) rfl rfl rfl rfl rfl rfl rfl fun b81 hb81 => ?_
    refine ⟨ext_newM hb81 _, ?_⟩
    refine dw_norm [_, _, _, _, _, _, _, _] rfl ?_
    refine dw_pure (i := 38) rfl (by decide +kernel) (pv_assign (v := .slice _ _ _) rfl) ?_
    refine dw_end rfl ?_
    have cut1 : l1.length < 2 ^ 20 := by omega
    have R2b := R2.ext (Ext.trans E5 E6)
    refine xp_cutB [20, 21, 82, 83, 84, 85, 86, 87, 88, 89, 90, 91, 92, 93, 94, 95, 96, 97, 98] 8 (α := Nat × List Int × Option Addr × Nat) (fun ⟨y, l2, Z2, d2⟩ => []) (fun ⟨y, l2, Z2, d2⟩ L => (L.set 1 (some (b, .cells #[.int .u64 (y : Int)] 97 (0, 0)))).set 5 (some (b65, .cells #[.slice VA0 lv0.length cV0, .slice Z2 l2.length d2, .slice VA0 lv0.length cV0] 22 (0, 0)))) (fun ⟨y, l2, Z2, d2⟩ h_y => l2.length < 2 ^ 20 ∧ Row h_y 1 intC Z2 l2) ?_ ?_
    · skip
      refine xp_seq ?_
      refine xp_dw [false, true, false, false, false, false, false, false] rfl rfl rfl ?_
      refine dw_load (i := 0) rfl (by decide +kernel) ?_
      refine op_loadPA 2 (vs := [.int .i64 _, .int .i64 _, .int .i64 _, .int .i64 _, .int .i64 _, .slice _ _ _, .slice _ _ _, .slice _ _ _, .slice _ _ _]) rfl rfl rfl rfl rfl ?_
      refine dw_pure (i := 1) rfl (by decide +kernel) (pv_move (v := .pointer _) rfl) ?_
      refine dw_load (i := 2) rfl (by decide +kernel) ?_
      refine op_loadPA 2 (vs := [.int .i64 _, .int .i64 _, .int .i64 _, .int .i64 _, .int .i64 _, .slice _ _ _, .slice _ _ _, .slice _ _ _, .slice _ _ _]) rfl rfl rfl rfl rfl ?_
      refine dw_eff (i := 3) rfl (by decide +kernel) ?_
      refine op_fnMM [_] [_] [_, _, _, _, _, _] (vs := [.pointer _, .agg _]) rfl rfl rfl ((HandOf_ok b x6 m (by omega) (by omega) AB AQ AL AW cB cQ cL cW h6)) ?_
      rintro _ h7 _ E7 ⟨x7, a, rfl, VH, H⟩
      refine ⟨ext_wlm E7 _, ?_⟩
      refine dw_norm [_, _, _, _, _, _, _, _] rfl ?_
      obtain ⟨HA, OA, cH, cO, rfl, RH⟩ := VH.open
      have SHa := HOK.sml M H
      have n0 : (checkHandM m a == 0) = true := by rw [hand_of M H]; rfl
      have n8 := sounds_le m a
      refine dw_last (i := 4) rfl (by decide +kernel) (by decide +kernel) ?_
      refine op_fn (caps := []) (vs := [.agg _, .agg _]) rfl rfl rfl (SoundsG_ok m Md.sml a SHa AB AQ AL AW HA OA cB cQ cL cW cH cO h7 (RM.ext (Ext.trans (Ext.trans (Ext.trans (Ext.trans E3 E4) E5) E6) E7)) (RH.ext (Ext.refl _))) ?_
      rintro _ h8 E8 ⟨_, rfl, A8, c8, rfl, R8⟩
      refine dw_pure (i := 5) rfl (by decide +kernel) (pv_move (v := .tuple #[.slice _ _ _, .int .i64 _]) rfl) ?_
      refine dw_pure (i := 6) rfl (by decide +kernel) (pv_of (v := .slice _ _ _) rfl) ?_
      refine dw_pure (i := 7) rfl (by decide +kernel) (pv_of (v := .int .i64 _) rfl) ?_
      refine dw_pure (i := 8) rfl (by decide +kernel) (pv_assign (v := .slice _ _ _) rfl) ?_
      refine dw_pure (i := 9) rfl (by decide +kernel) (pv_assign (v := .int .i64 _) rfl) ?_
      refine dw_end rfl ?_
      refine xp_seq ?_
      refine xp_region rfl ?_
      refine op_pure (pv_move (v := .int .i64 _) rfl) ?_
      refine op_pure (pv_of (v := .bool _) rfl) ?_
      refine op_pure (pv_move (v := .bool _) rfl) ?_
      refine guard_yes rfl n0 ?_
      refine op_pure (pv_move (v := .pointer _) rfl) ?_
      refine guard_yes rfl n0 ?_
      refine op_fnMM [_] [_] [_, _, _, _, _, _] (vs := [.pointer _, .int .i64 _, .int .i64 _]) rfl rfl rfl ((Odds_ok b x7 2 3 (by omega) h8)) ?_
      rintro _ h9 _ E9 ⟨x9, u, rfl, rfl⟩
      refine wp_norm [_, _, _, _, _, _, _, _] rfl ?_
      refine op_pure (pv_pickT rfl n0 (v := .bool _) rfl) ?_
      refine xp_cond rfl (fun hu => ?_) (fun hu => ?_)
      · skip
        refine xp_region rfl ?_
        refine op_pure (pv_move (v := .slice _ _ _) rfl) ?_
        refine op_pure (pv_move (v := .slice _ _ _) rfl) ?_
        refine op_pure (pv_index (m := 1) rfl rfl rfl rfl (by omega) (by omega)) ?_
        refine op_storeP 5 (m := 1) (v := .slice _ _ _) (vs := [.slice A8 (soundsL m a).length c8]) (c' := [.slice VA0 lv0.length cV0, .slice A8 (soundsL m a).length c8, .slice VA0 lv0.length cV0]) rfl rfl rfl rfl rfl rfl rfl rfl rfl ?_
        refine wp_norm [_, _, _, _, _, _, _, _] rfl ?_
        refine ⟨(x9, soundsL m a, A8, c8), trivial, rfl, rfl, (Ext.trans (Ext.trans E7 E8) E9), fun h3 E3 => ⟨by omega, (R8.ext E9).ext E3⟩, ?_⟩
        repeat (first | exact off_refl _ _ | exact off_base _ _ _ | refine off_upd (by decide) ?_ | refine off_updL rfl ?_ | refine off_mix rfl ?_)
      · skip
        refine xp_skip ?_
        refine ⟨(x9, l1, A2, c2), trivial, rfl, rfl, (Ext.trans (Ext.trans E7 E8) E9), fun h3 E3 => ⟨cut1, (R2b.ext (Ext.trans (Ext.trans E7 E8) E9)).ext E3⟩, ?_⟩
        repeat (first | exact off_refl _ _ | exact off_base _ _ _ | refine off_upd (by decide) ?_ | refine off_updL rfl ?_ | refine off_mix rfl ?_)
    · rintro ⟨y, l2, Z2, d2⟩ T1 h_y E_y J_y
      refine goes_norm [_, _, _, _, _, _, _, _] rfl ?_
      obtain ⟨ll2, RZ2⟩ := J_y
      refine goes_pub 3 rfl ?_
      intro g6 G6 P6
      refine goes_pub 4 rfl ?_
      intro g7 G7 P7
      refine goes_pub 5 rfl ?_
      intro g8 G8 P8
      refine goes_pub 6 rfl ?_
      intro g9 G9 P9
      refine goes_pub 7 rfl ?_
      intro gA GA PA
      obtain ⟨ms, hms⟩ : ∃ x : List MachP, x = [m0, m, m] := ⟨_, rfl⟩
      obtain ⟨os, hos⟩ : ∃ x : List (List Int), x = [on0, o1, on0] := ⟨_, rfl⟩
      obtain ⟨vs, hvs⟩ : ∃ x : List (List Int), x = [lv0, l2, lv0] := ⟨_, rfl⟩
      obtain ⟨bs, hbs⟩ : ∃ x : List Int, x = [z1, bk, z1] := ⟨_, rfl⟩
      obtain ⟨ws, hws⟩ : ∃ x : List Int, x = [z2, vk, z2] := ⟨_, rfl⟩
      have hml : ms.length = 3 := by rw [hms]; rfl
      have hol : os.length = 3 := by rw [hos]; rfl
      have hvl : vs.length = 3 := by rw [hvs]; rfl
      have hbl : bs.length = 3 := by rw [hbs]; rfl
      have hwl : ws.length = 3 := by rw [hws]; rfl
      have lo1 : o1.length < 2 ^ 20 := by omega
      have hmS : ∀ x ∈ ms, Sml x := by rw [hms]; exact all3 S0 Md.sml Md.sml
      have hoS : ∀ x ∈ os, x.length < 2 ^ 20 := by rw [hos]; exact all3 lon0 lo1 lon0
      have hvS : ∀ x ∈ vs, x.length < 2 ^ 20 := by rw [hvs]; exact all3 llv0 ll2 llv0
      have R6 := row_of_block (enc := id) (m := 9) (l := [machC AB0 AQ0 AL0 AW0 cB0 cQ0 cL0 cW0 m0, machC AB AQ AL AW cB cQ cL cW m, machC AB AQ AL AW cB cQ cL cW m]) (all3 rfl rfl rfl) P6
      have R7 := row_of_block (enc := id) (m := 1) (l := [[.slice OA0 on0.length cO0], [.slice A1 o1.length c1], [.slice OA0 on0.length cO0]]) (all3 rfl rfl rfl) P7
      have R8 := row_of_block (enc := id) (m := 1) (l := [[.slice VA0 lv0.length cV0], [.slice Z2 l2.length d2], [.slice VA0 lv0.length cV0]]) (all3 rfl rfl rfl) P8
      have R9 : Row g9 1 intC (some ⟨b73, 0, none⟩) bs := row_of_block (enc := intC) (m := 1) (fun _ _ => rfl) (by rw [hbs]; exact P9)
      have RA : Row gA 1 intC (some ⟨b81, 0, none⟩) ws := row_of_block (enc := intC) (m := 1) (fun _ _ => rfl) (by rw [hws]; exact PA)
      have EL6 : Els gA TMa ms [machC AB0 AQ0 AL0 AW0 cB0 cQ0 cL0 cW0 m0, machC AB AQ AL AW cB cQ cL cW m, machC AB AQ AL AW cB cQ cL cW m] := by
        rw [hms]
        exact els3 ⟨_, _, _, _, _, _, _, _, rfl, RM0.ext (Ext.trans (Ext.trans (Ext.trans (Ext.trans (Ext.trans (Ext.trans (Ext.trans (Ext.trans (Ext.trans (Ext.trans (Ext.trans (Ext.trans G0 E1) E2) E3) E4) E5) E6) E_y) G6) G7) G8) G9) GA), u1, u2⟩ ⟨_, _, _, _, _, _, _, _, rfl, RM.ext (Ext.trans (Ext.trans (Ext.trans (Ext.trans (Ext.trans (Ext.trans (Ext.trans (Ext.trans (Ext.trans E3 E4) E5) E6) E_y) G6) G7) G8) G9) GA), hcQ, hcL⟩ ⟨_, _, _, _, _, _, _, _, rfl, RM.ext (Ext.trans (Ext.trans (Ext.trans (Ext.trans (Ext.trans (Ext.trans (Ext.trans (Ext.trans (Ext.trans E3 E4) E5) E6) E_y) G6) G7) G8) G9) GA), hcQ, hcL⟩
      have EL7 : Els gA TL os [[.slice OA0 on0.length cO0], [.slice A1 o1.length c1], [.slice OA0 on0.length cO0]] := by
        rw [hos]
        exact els3 (tl_of (RO0.ext (Ext.trans (Ext.trans (Ext.trans (Ext.trans (Ext.trans (Ext.trans (Ext.trans (Ext.trans (Ext.trans (Ext.trans (Ext.trans (Ext.trans G0 E1) E2) E3) E4) E5) E6) E_y) G6) G7) G8) G9) GA))) (tl_of (R1.ext (Ext.trans (Ext.trans (Ext.trans (Ext.trans (Ext.trans (Ext.trans (Ext.trans (Ext.trans E4 E5) E6) E_y) G6) G7) G8) G9) GA))) (tl_of (RO0.ext (Ext.trans (Ext.trans (Ext.trans (Ext.trans (Ext.trans (Ext.trans (Ext.trans (Ext.trans (Ext.trans (Ext.trans (Ext.trans (Ext.trans G0 E1) E2) E3) E4) E5) E6) E_y) G6) G7) G8) G9) GA)))
      have EL8 : Els gA TL vs [[.slice VA0 lv0.length cV0], [.slice Z2 l2.length d2], [.slice VA0 lv0.length cV0]] := by
        rw [hvs]
        exact els3 (tl_of (RV0.ext (Ext.trans (Ext.trans (Ext.trans (Ext.trans (Ext.trans (Ext.trans (Ext.trans (Ext.trans (Ext.trans (Ext.trans (Ext.trans (Ext.trans G0 E1) E2) E3) E4) E5) E6) E_y) G6) G7) G8) G9) GA))) (tl_of (RZ2.ext (Ext.trans (Ext.trans (Ext.trans (Ext.trans G6 G7) G8) G9) GA))) (tl_of (RV0.ext (Ext.trans (Ext.trans (Ext.trans (Ext.trans (Ext.trans (Ext.trans (Ext.trans (Ext.trans (Ext.trans (Ext.trans (Ext.trans (Ext.trans G0 E1) E2) E3) E4) E5) E6) E_y) G6) G7) G8) G9) GA)))
      generalize [machC AB0 AQ0 AL0 AW0 cB0 cQ0 cL0 cW0 m0, machC AB AQ AL AW cB cQ cL cW m, machC AB AQ AL AW cB cQ cL cW m] = cs6 at R6 EL6
      generalize [[Value.slice OA0 on0.length cO0], [.slice A1 o1.length c1], [.slice OA0 on0.length cO0]] = cs7 at R7 EL7
      generalize [[Value.slice VA0 lv0.length cV0], [.slice Z2 l2.length d2], [.slice VA0 lv0.length cV0]] = cs8 at R8 EL8
      refine xp_seq ?_
      refine xp_seq ?_
      refine xp_region rfl ?_
      refine op_pure (pv_assign (v := .int .i64 _) rfl) ?_
      refine xp_block ?_
      refine xp_loopB [12, 22, 23, 24, 25, 26, 27, 28, 29, 30, 31, 32, 33, 34, 35, 36, 37, 99, 100, 101, 102, 103, 104, 105, 106, 107, 108, 109, 110, 111, 112, 113, 114, 115, 116, 117, 118, 119, 120, 121, 122, 123, 124, 125, 126, 127, 128, 129, 130, 131, 132, 133, 134, 135, 136, 137, 138, 139, 140, 141, 142, 143, 144, 145, 146, 147, 148, 149, 150, 151, 152, 153, 154, 155, 156, 157, 158, 159, 160, 161, 162, 163, 164, 165, 166, 167, 168, 169, 170, 171, 172, 173, 174, 175, 176, 177, 178, 179, 180, 181, 182, 183, 184, 185, 186, 187, 188, 189, 190, 191, 192, 193, 194, 195, 196, 197, 198, 199, 200, 201, 202, 203, 204, 205, 206, 207, 208, 209, 210, 211, 212, 213, 214, 215, 216, 217, 218, 219, 220, 221, 222, 223, 224, 225, 226, 227, 228, 229, 230, 231, 232, 233, 234, 235, 236, 237, 238, 239, 240, 241, 242, 243, 244, 245, 246, 247, 248, 249, 250, 251] 8 (α := Nat) (fun i => [(22, .int .i64 i)]) (fun i => _) (fun i h_i => i ≤ 3) (fun i => 3 - i) (0) ⟨rfl, trivial⟩ (rfl) (Nat.zero_le _) ?_
      rintro i T2 h_i E_i J_i
      refine goes_norm [_, _, _, _, _, _, _, _] rfl ?_
      refine xp_seq ?_
      refine xp_seq ?_
      refine xp_region rfl ?_
      refine op_pure (pv_move (v := .int .i64 _) rfl) ?_
      refine op_pure (pv_move (v := .slice _ _ _) rfl) ?_
      refine op_pure (pv_len rfl rfl) ?_
      refine op_pure (pv_of (v := .bool _) rfl) ?_
      refine xp_cond rfl (fun hi => ?_) (fun hi => ?_)
      · skip
        have hil : i < 3 := by have := of_decide_eq_true hi; omega
        have him : i < ms.length := by omega
        have hio : i < os.length := by omega
        have hiv : i < vs.length := by omega
        have hib : i < bs.length := by omega
        have hiw : i < ws.length := by omega
        have SM := hmS _ (List.getElem_mem him)
        have So := hoS _ (List.getElem_mem hio)
        have Sv := hvS _ (List.getElem_mem hiv)
        have SMw := SM.w
        obtain ⟨hic, xB, xQ, xL, xW, yB, yQ, yL, yW, e6, RMi, _, _⟩ := (EL6.ext TMa.mono E_i).at him
        obtain ⟨hid, w7, e7, ⟨xO, yO, rfl, ROi⟩⟩ := (EL7.ext TL.mono E_i).at hio
        obtain ⟨hie, w8, e8, ⟨xV, yV, rfl, RVi⟩⟩ := (EL8.ext TL.mono E_i).at hiv
        obtain ⟨gM, oM, hA, hcM⟩ := (R6.ext (Ext.trans (Ext.trans (Ext.trans (Ext.trans G7 G8) G9) GA) E_i)).at (by omega) hic
        obtain ⟨gO, oO, hO, hcO⟩ := (R7.ext (Ext.trans (Ext.trans (Ext.trans G8 G9) GA) E_i)).at (by omega) hid
        obtain ⟨gV, oV, hV, hcV⟩ := (R8.ext (Ext.trans (Ext.trans G9 GA) E_i)).at (by omega) hie
        obtain ⟨gB, oB, hB, hcB⟩ := (R9.ext (Ext.trans GA E_i)).at (by omega) hib
        obtain ⟨gW, oW, hW, hcW⟩ := (RA.ext E_i).at (by omega) hiw
        have hcM : Cells h_i gM (oM + i * 9) (machC xB xQ xL xW yB yQ yL yW ms[i]) := by rw [← e6]; exact hcM
        have hcO : Cells h_i gO (oO + i * 1) [.slice xO os[i].length yO] := by rw [← e7]; exact hcO
        have hcV : Cells h_i gV (oV + i * 1) [.slice xV vs[i].length yV] := by rw [← e8]; exact hcV
        generalize ms[i] = mi at *
        generalize os[i] = oi at *
        generalize vs[i] = vi at *
        generalize bs[i] = bi at *
        generalize ws[i] = wi at *
        refine xp_skip ?_
        refine xp_seq ?_
        refine xp_block ?_
        refine xp_seq ?_
        refine xp_dw [] rfl rfl rfl ?_
        refine dw_pure (i := 0) rfl (by decide +kernel) (pv_move (v := .slice _ _ _) rfl) ?_
        refine dw_pure (i := 1) rfl (by decide +kernel) (pv_move (v := .int .i64 _) rfl) ?_
        refine dw_pure (i := 2) rfl (by decide +kernel) (pv_indexE (m := 9) rfl hA rfl rfl rfl (by omega) (by omega)) ?_
        refine dw_load (i := 3) rfl (by decide +kernel) ?_
        refine op_loadA rfl rfl rfl rfl (hcM.ext (Ext.refl _)) ?_
        refine dw_pure (i := 5) rfl (by decide +kernel) (pv_move (v := .slice _ _ _) rfl) ?_
        refine dw_pure (i := 6) rfl (by decide +kernel) (pv_move (v := .int .i64 _) rfl) ?_
        refine dw_pure (i := 7) rfl (by decide +kernel) (pv_indexE (m := 1) rfl hO rfl rfl rfl (by omega) (by omega)) ?_
        refine dw_load (i := 8) rfl (by decide +kernel) ?_
        refine op_load (v := .slice _ _ _) rfl rfl (((hcO.ext (Ext.refl _))) 0 _ rfl) ?_
        refine dw_pure (i := 10) rfl (by decide +kernel) (pv_move (v := .slice _ _ _) rfl) ?_
        refine dw_pure (i := 11) rfl (by decide +kernel) (pv_move (v := .int .i64 _) rfl) ?_
        refine dw_pure (i := 12) rfl (by decide +kernel) (pv_indexE (m := 1) rfl hV rfl rfl rfl (by omega) (by omega)) ?_
        refine dw_load (i := 13) rfl (by decide +kernel) ?_
        refine op_load (v := .slice _ _ _) rfl rfl (((hcV.ext (Ext.refl _))) 0 _ rfl) ?_
        refine dw_eff (i := 4) rfl (by decide +kernel) ?_
        refine op_fn (caps := []) (vs := [.agg _]) rfl rfl rfl (CopyMachine_ok mi SM xB xQ xL xW yB yQ yL yW h_i (RMi.ext (Ext.refl _))) ?_
        rintro _ k1 F1 ⟨zB, zQ, zL, zW, wB, wQ, wL, wW, rfl, RMo⟩
        refine ⟨ext_wlm F1 _, ?_⟩
        refine dw_eff (i := 9) rfl (by decide +kernel) ?_
        refine op_fn (caps := []) (vs := [.slice _ _ _]) rfl rfl rfl (Ints_ok oi xO yO k1 (ROi.ext F1) So) ?_
        rintro _ k2 F2 ⟨zO, wO, rfl, ROo⟩
        refine ⟨ext_wlm F2 _, ?_⟩
        refine dw_last (i := 14) rfl (by decide +kernel) (by decide +kernel) ?_
        refine op_fn (caps := []) (vs := [.slice _ _ _]) rfl rfl rfl (Ints_ok vi xV yV k2 (RVi.ext (Ext.trans F1 F2)) Sv) ?_
        rintro _ k3 F3 ⟨zV, wV, rfl, RVo⟩
        refine dw_eff (i := 15) rfl (by decide +kernel) ?_
        refine op_alloc (cs := [_, _, _, _, _, _, _, _, _]) rfl rfl fun b23 hb23 => ?_
        refine ⟨ext_new hb23 _, ?_⟩
        refine dw_norm [_, _, _, _, _, _, _, _, _] rfl ?_
        refine dw_last (i := 16) rfl (by decide +kernel) (by decide +kernel) ?_
        refine op_storeP 8 (v := .agg #[.int .i64 _, .int .i64 _, .int .i64 _, .int .i64 _, .int .i64 _, .slice _ _ _, .slice _ _ _, .slice _ _ _, .slice _ _ _]) (vs := [_, _, _, _, _, _, _, _, _]) (c' := [_, _, _, _, _, _, _, _, _]) rfl rfl rfl rfl rfl rfl rfl rfl rfl ?_
        refine dw_norm [_, _, _, _, _, _, _, _, _] rfl ?_
        refine dw_pure (i := 17) rfl (by decide +kernel) (pv_assign (v := .slice _ _ _) rfl) ?_
        refine dw_pure (i := 18) rfl (by decide +kernel) (pv_assign (v := .slice _ _ _) rfl) ?_
        refine dw_end rfl ?_
        refine xp_seq ?_
        refine xp_dw [] rfl rfl rfl ?_
        refine dw_load (i := 0) rfl (by decide +kernel) ?_
        refine op_loadPA 8 (vs := [.int .i64 _, .int .i64 _, .int .i64 _, .int .i64 _, .int .i64 _, .slice _ _ _, .slice _ _ _, .slice _ _ _, .slice _ _ _]) rfl rfl rfl rfl rfl ?_
        refine dw_pure (i := 1) rfl (by decide +kernel) (pv_move (v := .slice _ _ _) rfl) ?_
        refine dw_pure (i := 2) rfl (by decide +kernel) (pv_move (v := .slice _ _ _) rfl) ?_
        refine dw_pure (i := 3) rfl (by decide +kernel) (pv_move (v := .int .i64 _) rfl) ?_
        refine dw_pure (i := 4) rfl (by decide +kernel) (pv_indexE (m := 1) rfl hB rfl rfl rfl (by omega) (by omega)) ?_
        refine dw_load (i := 5) rfl (by decide +kernel) ?_
        refine op_load (v := .int .i64 _) rfl rfl (((hcB.ext (Ext.trans (Ext.trans F1 F2) F3))) 0 _ rfl) ?_
        refine dw_pure (i := 6) rfl (by decide +kernel) (pv_move (v := .slice _ _ _) rfl) ?_
        refine dw_pure (i := 7) rfl (by decide +kernel) (pv_move (v := .int .i64 _) rfl) ?_
        refine dw_pure (i := 8) rfl (by decide +kernel) (pv_indexE (m := 1) rfl hW rfl rfl rfl (by omega) (by omega)) ?_
        refine dw_load (i := 9) rfl (by decide +kernel) ?_
        refine op_load (v := .int .i64 _) rfl rfl (((hcW.ext (Ext.trans (Ext.trans F1 F2) F3))) 0 _ rfl) ?_
        refine dw_last (i := 10) rfl (by decide +kernel) (by decide +kernel) ?_
        refine op_fn (caps := []) (vs := [.agg _, .slice _ _ _, .int .i64 _, .int .i64 _]) rfl rfl rfl (Depth_ok rfl mi oi bi wi zB zQ zL zW zO wB wQ wL wW wO k3 (RMo.ext (Ext.trans F2 F3)) (ROo.ext F3) (by omega) (by omega)) ?_
        rintro _ k4 F4 rfl
        refine dw_pure (i := 11) rfl (by decide +kernel) (pv_move (v := .tuple #[.int .i64 _, .int .i64 _]) rfl) ?_
        refine dw_pure (i := 12) rfl (by decide +kernel) (pv_of (v := .int .i64 _) rfl) ?_
        refine dw_pure (i := 13) rfl (by decide +kernel) (pv_of (v := .int .i64 _) rfl) ?_
        refine dw_pure (i := 14) rfl (by decide +kernel) (pv_assign (v := .int .i64 _) rfl) ?_
        refine dw_pure (i := 15) rfl (by decide +kernel) (pv_assign (v := .int .i64 _) rfl) ?_
        refine dw_end rfl ?_
        refine xp_seq ?_
        refine xp_dw [] rfl rfl rfl ?_
        refine dw_pure (i := 0) rfl (by decide +kernel) (pv_move (v := .slice _ _ _) rfl) ?_
        refine dw_pure (i := 1) rfl (by decide +kernel) (pv_move (v := .int .i64 _) rfl) ?_
        refine dw_pure (i := 2) rfl (by decide +kernel) (pv_indexE (m := 9) rfl hA rfl rfl rfl (by omega) (by omega)) ?_
        refine dw_load (i := 3) rfl (by decide +kernel) ?_
        refine op_loadA rfl rfl rfl rfl (hcM.ext (Ext.trans (Ext.trans (Ext.trans F1 F2) F3) F4)) ?_
        refine dw_pure (i := 4) rfl (by decide +kernel) (pv_move (v := .slice _ _ _) rfl) ?_
        refine dw_pure (i := 5) rfl (by decide +kernel) (pv_move (v := .int .i64 _) rfl) ?_
        refine dw_pure (i := 6) rfl (by decide +kernel) (pv_indexE (m := 1) rfl hO rfl rfl rfl (by omega) (by omega)) ?_
        refine dw_load (i := 7) rfl (by decide +kernel) ?_
        refine op_load (v := .slice _ _ _) rfl rfl (((hcO.ext (Ext.trans (Ext.trans (Ext.trans F1 F2) F3) F4))) 0 _ rfl) ?_
        refine dw_pure (i := 8) rfl (by decide +kernel) (pv_move (v := .slice _ _ _) rfl) ?_
        refine dw_pure (i := 9) rfl (by decide +kernel) (pv_move (v := .int .i64 _) rfl) ?_
        refine dw_pure (i := 10) rfl (by decide +kernel) (pv_indexE (m := 1) rfl hB rfl rfl rfl (by omega) (by omega)) ?_
        refine dw_load (i := 11) rfl (by decide +kernel) ?_
        refine op_load (v := .int .i64 _) rfl rfl (((hcB.ext (Ext.trans (Ext.trans (Ext.trans F1 F2) F3) F4))) 0 _ rfl) ?_
        refine dw_pure (i := 12) rfl (by decide +kernel) (pv_move (v := .slice _ _ _) rfl) ?_
        refine dw_pure (i := 13) rfl (by decide +kernel) (pv_move (v := .int .i64 _) rfl) ?_
        refine dw_pure (i := 14) rfl (by decide +kernel) (pv_indexE (m := 1) rfl hW rfl rfl rfl (by omega) (by omega)) ?_
        refine dw_load (i := 15) rfl (by decide +kernel) ?_
        refine op_load (v := .int .i64 _) rfl rfl (((hcW.ext (Ext.trans (Ext.trans (Ext.trans F1 F2) F3) F4))) 0 _ rfl) ?_
        refine dw_last (i := 16) rfl (by decide +kernel) (by decide +kernel) ?_
        refine op_fn (caps := []) (vs := [.agg _, .slice _ _ _, .int .i64 _, .int .i64 _]) rfl rfl rfl (DepthG_ok mi SM oi bi wi So xB xQ xL xW xO yB yQ yL yW yO k4 (RMi.ext (Ext.trans (Ext.trans (Ext.trans F1 F2) F3) F4)) (ROi.ext (Ext.trans (Ext.trans (Ext.trans F1 F2) F3) F4))) ?_
        rintro _ k5 F5 rfl
        refine dw_pure (i := 17) rfl (by decide +kernel) (pv_move (v := .tuple #[.int .i64 _, .int .i64 _]) rfl) ?_
        refine dw_pure (i := 18) rfl (by decide +kernel) (pv_of (v := .int .i64 _) rfl) ?_
        refine dw_pure (i := 19) rfl (by decide +kernel) (pv_of (v := .int .i64 _) rfl) ?_
        refine dw_pure (i := 20) rfl (by decide +kernel) (pv_assign (v := .int .i64 _) rfl) ?_
        refine dw_pure (i := 21) rfl (by decide +kernel) (pv_assign (v := .int .i64 _) rfl) ?_
        refine dw_end rfl ?_
        refine xp_seq ?_
        refine xp_region rfl ?_
        refine op_loadPA 8 (vs := [.int .i64 _, .int .i64 _, .int .i64 _, .int .i64 _, .int .i64 _, .slice _ _ _, .slice _ _ _, .slice _ _ _, .slice _ _ _]) rfl rfl rfl rfl rfl ?_
        refine op_pure (pv_move (v := .slice _ _ _) rfl) ?_
        refine op_fn (caps := []) (vs := [.agg _, .slice _ _ _]) rfl rfl rfl (Chart_ok rfl mi oi zB zQ zL zW zO wB wQ wL wW wO k5 (RMo.ext (Ext.trans (Ext.trans (Ext.trans F2 F3) F4) F5)) (ROo.ext (Ext.trans (Ext.trans F3 F4) F5)) (by omega) (by omega)) ?_
        rintro _ k6 F6 ⟨_, rfl, S6⟩
        obtain ⟨ds6, D6, d6, rfl, RS6, ES6⟩ := SlX.els S6
        refine op_pure (pv_move (v := .tuple #[.slice _ _ _, .int .i64 _]) rfl) ?_
        refine op_pure (pv_of (v := .slice _ _ _) rfl) ?_
        refine op_pure (pv_of (v := .int .i64 _) rfl) ?_
        refine op_pure (pv_assign (v := .slice _ _ _) rfl) ?_
        refine op_pure (pv_assign (v := .int .i64 _) rfl) ?_
        refine xp_seq ?_
        refine xp_dw [] rfl rfl rfl ?_
        refine dw_pure (i := 0) rfl (by decide +kernel) (pv_move (v := .slice _ _ _) rfl) ?_
        refine dw_pure (i := 1) rfl (by decide +kernel) (pv_move (v := .int .i64 _) rfl) ?_
        refine dw_pure (i := 2) rfl (by decide +kernel) (pv_indexE (m := 9) rfl hA rfl rfl rfl (by omega) (by omega)) ?_
        refine dw_load (i := 3) rfl (by decide +kernel) ?_
        refine op_loadA rfl rfl rfl rfl (hcM.ext (Ext.trans (Ext.trans (Ext.trans (Ext.trans (Ext.trans F1 F2) F3) F4) F5) F6)) ?_
        refine dw_pure (i := 4) rfl (by decide +kernel) (pv_move (v := .slice _ _ _) rfl) ?_
        refine dw_pure (i := 5) rfl (by decide +kernel) (pv_move (v := .int .i64 _) rfl) ?_
        refine dw_pure (i := 6) rfl (by decide +kernel) (pv_indexE (m := 1) rfl hO rfl rfl rfl (by omega) (by omega)) ?_
        refine dw_load (i := 7) rfl (by decide +kernel) ?_
        refine op_load (v := .slice _ _ _) rfl rfl (((hcO.ext (Ext.trans (Ext.trans (Ext.trans (Ext.trans (Ext.trans F1 F2) F3) F4) F5) F6))) 0 _ rfl) ?_
        refine dw_last (i := 8) rfl (by decide +kernel) (by decide +kernel) ?_
        refine op_fn (caps := []) (vs := [.agg _, .slice _ _ _]) rfl rfl rfl (ChartG_ok mi SM oi So xB xQ xL xW xO yB yQ yL yW yO k6 (RMi.ext (Ext.trans (Ext.trans (Ext.trans (Ext.trans (Ext.trans F1 F2) F3) F4) F5) F6)) (ROi.ext (Ext.trans (Ext.trans (Ext.trans (Ext.trans (Ext.trans F1 F2) F3) F4) F5) F6))) ?_
        rintro _ k7 F7 ⟨_, rfl, S7⟩
        obtain ⟨ds7, D7, d7, rfl, RS7, ES7⟩ := SlX.els S7
        refine dw_pure (i := 9) rfl (by decide +kernel) (pv_move (v := .tuple #[.slice _ _ _, .int .i64 _]) rfl) ?_
        refine dw_pure (i := 10) rfl (by decide +kernel) (pv_of (v := .slice _ _ _) rfl) ?_
        refine dw_pure (i := 11) rfl (by decide +kernel) (pv_of (v := .int .i64 _) rfl) ?_
        refine dw_pure (i := 12) rfl (by decide +kernel) (pv_assign (v := .slice _ _ _) rfl) ?_
        refine dw_pure (i := 13) rfl (by decide +kernel) (pv_assign (v := .int .i64 _) rfl) ?_
        refine dw_end rfl ?_
        refine xp_seq ?_
        refine xp_region rfl ?_
        refine op_loadPA 8 (vs := [.int .i64 _, .int .i64 _, .int .i64 _, .int .i64 _, .int .i64 _, .slice _ _ _, .slice _ _ _, .slice _ _ _, .slice _ _ _]) rfl rfl rfl rfl rfl ?_
        refine op_pure (pv_move (v := .slice _ _ _) rfl) ?_
        refine op_pure (pv_move (v := .slice _ _ _) rfl) ?_
        refine op_fn (caps := []) (vs := [.agg _, .slice _ _ _, .slice _ _ _]) rfl rfl rfl (Chord_ok rfl mi oi vi zB zQ zL zW zO zV wB wQ wL wW wO wV k7 (RMo.ext (Ext.trans (Ext.trans (Ext.trans (Ext.trans (Ext.trans F2 F3) F4) F5) F6) F7)) (ROo.ext (Ext.trans (Ext.trans (Ext.trans (Ext.trans F3 F4) F5) F6) F7)) (RVo.ext (Ext.trans (Ext.trans (Ext.trans F4 F5) F6) F7)) (by omega) (by omega) (by omega)) ?_
        rintro _ k8 F8 ⟨_, rfl, D8, d8, rfl, RS8⟩
        refine op_pure (pv_move (v := .tuple #[.slice _ _ _, .int .i64 _]) rfl) ?_
        refine op_pure (pv_of (v := .slice _ _ _) rfl) ?_
        refine op_pure (pv_of (v := .int .i64 _) rfl) ?_
        refine op_pure (pv_assign (v := .slice _ _ _) rfl) ?_
        refine op_pure (pv_assign (v := .int .i64 _) rfl) ?_
        refine xp_seq ?_
        refine xp_dw [] rfl rfl rfl ?_
        refine dw_pure (i := 0) rfl (by decide +kernel) (pv_move (v := .slice _ _ _) rfl) ?_
        refine dw_pure (i := 1) rfl (by decide +kernel) (pv_move (v := .int .i64 _) rfl) ?_
        refine dw_pure (i := 2) rfl (by decide +kernel) (pv_indexE (m := 9) rfl hA rfl rfl rfl (by omega) (by omega)) ?_
        refine dw_load (i := 3) rfl (by decide +kernel) ?_
        refine op_loadA rfl rfl rfl rfl (hcM.ext (Ext.trans (Ext.trans (Ext.trans (Ext.trans (Ext.trans (Ext.trans (Ext.trans F1 F2) F3) F4) F5) F6) F7) F8)) ?_
        refine dw_pure (i := 4) rfl (by decide +kernel) (pv_move (v := .slice _ _ _) rfl) ?_
        refine dw_pure (i := 5) rfl (by decide +kernel) (pv_move (v := .int .i64 _) rfl) ?_
        refine dw_pure (i := 6) rfl (by decide +kernel) (pv_indexE (m := 1) rfl hO rfl rfl rfl (by omega) (by omega)) ?_
        refine dw_load (i := 7) rfl (by decide +kernel) ?_
        refine op_load (v := .slice _ _ _) rfl rfl (((hcO.ext (Ext.trans (Ext.trans (Ext.trans (Ext.trans (Ext.trans (Ext.trans (Ext.trans F1 F2) F3) F4) F5) F6) F7) F8))) 0 _ rfl) ?_
        refine dw_pure (i := 8) rfl (by decide +kernel) (pv_move (v := .slice _ _ _) rfl) ?_
        refine dw_pure (i := 9) rfl (by decide +kernel) (pv_move (v := .int .i64 _) rfl) ?_
        refine dw_pure (i := 10) rfl (by decide +kernel) (pv_indexE (m := 1) rfl hV rfl rfl rfl (by omega) (by omega)) ?_
        refine dw_load (i := 11) rfl (by decide +kernel) ?_
        refine op_load (v := .slice _ _ _) rfl rfl (((hcV.ext (Ext.trans (Ext.trans (Ext.trans (Ext.trans (Ext.trans (Ext.trans (Ext.trans F1 F2) F3) F4) F5) F6) F7) F8))) 0 _ rfl) ?_
        refine dw_last (i := 12) rfl (by decide +kernel) (by decide +kernel) ?_
        refine op_fn (caps := []) (vs := [.agg _, .slice _ _ _, .slice _ _ _]) rfl rfl rfl (ChordG_ok mi SM oi vi So (by omega) xB xQ xL xW xO xV yB yQ yL yW yO yV k8 (RMi.ext (Ext.trans (Ext.trans (Ext.trans (Ext.trans (Ext.trans (Ext.trans (Ext.trans F1 F2) F3) F4) F5) F6) F7) F8)) (ROi.ext (Ext.trans (Ext.trans (Ext.trans (Ext.trans (Ext.trans (Ext.trans (Ext.trans F1 F2) F3) F4) F5) F6) F7) F8)) (RVi.ext (Ext.trans (Ext.trans (Ext.trans (Ext.trans (Ext.trans (Ext.trans (Ext.trans F1 F2) F3) F4) F5) F6) F7) F8))) ?_
        rintro _ k9 F9 ⟨_, rfl, D9, d9, rfl, RS9⟩
        have n1 : ((depthR mi oi bi wi).1 != (depthR mi oi bi wi).1) = false := by simp
        have n2 : ((depthR mi oi bi wi).2 != (depthR mi oi bi wi).2) = false := by simp
        have n3 : (checkHandM mi ⟨[], oi⟩ != checkHandM mi ⟨[], oi⟩) = false := by simp
        have n4 : (chordE mi oi vi != chordE mi oi vi) = false := by simp
        have lc := chord_le mi oi vi
        refine dw_pure (i := 13) rfl (by decide +kernel) (pv_move (v := .tuple #[.slice _ _ _, .int .i64 _]) rfl) ?_
        refine dw_pure (i := 14) rfl (by decide +kernel) (pv_of (v := .slice _ _ _) rfl) ?_
        refine dw_pure (i := 15) rfl (by decide +kernel) (pv_of (v := .int .i64 _) rfl) ?_
        refine dw_pure (i := 16) rfl (by decide +kernel) (pv_assign (v := .slice _ _ _) rfl) ?_
        refine dw_pure (i := 17) rfl (by decide +kernel) (pv_assign (v := .int .i64 _) rfl) ?_
        refine dw_end rfl ?_
        refine xp_seq ?_
        refine xp_dw [] rfl rfl rfl ?_
        refine dw_pure (i := 0) rfl (by decide +kernel) (pv_move (v := .int .i64 _) rfl) ?_
        refine dw_pure (i := 1) rfl (by decide +kernel) (pv_move (v := .int .i64 _) rfl) ?_
        refine dw_pure (i := 2) rfl (by decide +kernel) (pv_of (v := .bool _) rfl) ?_
        refine dw_pure (i := 3) rfl (by decide +kernel) (pv_move (v := .bool _) rfl) ?_
        refine dw_pureG (i := 4) rfl (by decide +kernel) rfl n1 (pv_move (v := .int .i64 _) rfl) ?_
        refine dw_pureG (i := 5) rfl (by decide +kernel) rfl n1 (pv_move (v := .int .i64 _) rfl) ?_
        refine dw_pureG (i := 6) rfl (by decide +kernel) rfl n1 (pv_of (v := .bool _) rfl) ?_
        refine dw_pure (i := 7) rfl (by decide +kernel) (pv_pickF rfl n1 (v := .bool _) rfl) ?_
        refine dw_pure (i := 8) rfl (by decide +kernel) (pv_move (v := .bool _) rfl) ?_
        refine dw_pureG (i := 9) rfl (by decide +kernel) rfl n2 (pv_move (v := .int .i64 _) rfl) ?_
        refine dw_pureG (i := 10) rfl (by decide +kernel) rfl n2 (pv_move (v := .int .i64 _) rfl) ?_
        refine dw_pureG (i := 11) rfl (by decide +kernel) rfl n2 (pv_of (v := .bool _) rfl) ?_
        refine dw_pure (i := 12) rfl (by decide +kernel) (pv_pickF rfl n2 (v := .bool _) rfl) ?_
        refine dw_pure (i := 13) rfl (by decide +kernel) (pv_move (v := .bool _) rfl) ?_
        refine dw_pureG (i := 14) rfl (by decide +kernel) rfl n3 (pv_move (v := .int .i64 _) rfl) ?_
        refine dw_pureG (i := 15) rfl (by decide +kernel) rfl n3 (pv_move (v := .int .i64 _) rfl) ?_
        refine dw_pureG (i := 16) rfl (by decide +kernel) rfl n3 (pv_of (v := .bool _) rfl) ?_
        refine dw_pure (i := 17) rfl (by decide +kernel) (pv_pickF rfl n3 (v := .bool _) rfl) ?_
        refine dw_pure (i := 18) rfl (by decide +kernel) (pv_move (v := .bool _) rfl) ?_
        refine dw_pureG (i := 19) rfl (by decide +kernel) rfl n4 (pv_move (v := .slice _ _ _) rfl) ?_
        refine dw_pureG (i := 20) rfl (by decide +kernel) rfl n4 (pv_move (v := .slice _ _ _) rfl) ?_
        refine dw_lastG (i := 21) rfl (by decide +kernel) (by decide +kernel) rfl n4 ?_
        refine op_fn (caps := []) (vs := [.slice _ _ _, .slice _ _ _]) rfl rfl rfl (sameListsS_ok (chartL mi oi) _ _ _ _ ds6 ds7 k9 (RS6.ext (Ext.trans (Ext.trans F7 F8) F9)) (ES6.ext TL.mono (Ext.trans (Ext.trans F7 F8) F9)) (RS7.ext (Ext.trans F8 F9)) (ES7.ext TL.mono (Ext.trans F8 F9)) (chart_le mi oi)) ?_
        rintro _ k10 F10 rfl
        refine dw_pureG (i := 22) rfl (by decide +kernel) rfl n4 (pv_of (v := .bool _) rfl) ?_
        refine dw_pure (i := 23) rfl (by decide +kernel) (pv_pickF rfl n4 (v := .bool _) rfl) ?_
        refine dw_pure (i := 24) rfl (by decide +kernel) (pv_move (v := .bool _) rfl) ?_
        refine dw_pureG (i := 25) rfl (by decide +kernel) rfl rfl (pv_move (v := .slice _ _ _) rfl) ?_
        refine dw_pureG (i := 26) rfl (by decide +kernel) rfl rfl (pv_move (v := .slice _ _ _) rfl) ?_
        refine dw_lastG (i := 27) rfl (by decide +kernel) (by decide +kernel) rfl rfl ?_
        refine op_fn (caps := []) (vs := [.slice _ _ _, .slice _ _ _]) rfl rfl rfl (sameIntsS_ok (chordL mi oi vi) _ _ _ _ k10 (RS8.ext (Ext.trans F9 F10)) (RS9.ext F10) lc) ?_
        rintro _ k11 F11 rfl
        refine dw_pureG (i := 28) rfl (by decide +kernel) rfl rfl (pv_of (v := .bool _) rfl) ?_
        refine dw_pure (i := 29) rfl (by decide +kernel) (pv_pickF rfl rfl (v := .bool _) rfl) ?_
        refine dw_pure (i := 30) rfl (by decide +kernel) (pv_move (v := .bool _) rfl) ?_
        refine dw_loadG (i := 31) rfl (by decide +kernel) rfl rfl ?_
        refine op_loadPA 8 (vs := [.int .i64 _, .int .i64 _, .int .i64 _, .int .i64 _, .int .i64 _, .slice _ _ _, .slice _ _ _, .slice _ _ _, .slice _ _ _]) rfl rfl rfl rfl rfl ?_
        refine dw_pureG (i := 32) rfl (by decide +kernel) rfl rfl (pv_move (v := .slice _ _ _) rfl) ?_
        refine dw_pureG (i := 33) rfl (by decide +kernel) rfl rfl (pv_move (v := .int .i64 _) rfl) ?_
        refine dw_pureG (i := 34) rfl (by decide +kernel) rfl rfl (pv_indexE (m := 9) rfl hA rfl rfl rfl (by omega) (by omega)) ?_
        refine dw_loadG (i := 35) rfl (by decide +kernel) rfl rfl ?_
        refine op_loadA rfl rfl rfl rfl (hcM.ext (Ext.trans (Ext.trans (Ext.trans (Ext.trans (Ext.trans (Ext.trans (Ext.trans (Ext.trans (Ext.trans (Ext.trans F1 F2) F3) F4) F5) F6) F7) F8) F9) F10) F11)) ?_
        refine dw_lastG (i := 36) rfl (by decide +kernel) (by decide +kernel) rfl rfl ?_
        refine op_fn (caps := []) (vs := [.agg _, .agg _]) rfl rfl rfl (SameMachines_ok mi SM zB zQ zL zW wB wQ wL wW xB xQ xL xW yB yQ yL yW k11 (RMo.ext (Ext.trans (Ext.trans (Ext.trans (Ext.trans (Ext.trans (Ext.trans (Ext.trans (Ext.trans (Ext.trans F2 F3) F4) F5) F6) F7) F8) F9) F10) F11)) (RMi.ext (Ext.trans (Ext.trans (Ext.trans (Ext.trans (Ext.trans (Ext.trans (Ext.trans (Ext.trans (Ext.trans (Ext.trans F1 F2) F3) F4) F5) F6) F7) F8) F9) F10) F11))) ?_
        rintro _ k12 F12 rfl
        refine dw_pureG (i := 37) rfl (by decide +kernel) rfl rfl (pv_of (v := .bool _) rfl) ?_
        refine dw_pure (i := 38) rfl (by decide +kernel) (pv_pickF rfl rfl (v := .bool _) rfl) ?_
        refine dw_pure (i := 39) rfl (by decide +kernel) (pv_move (v := .bool _) rfl) ?_
        refine dw_pureG (i := 40) rfl (by decide +kernel) rfl rfl (pv_move (v := .slice _ _ _) rfl) ?_
        refine dw_pureG (i := 41) rfl (by decide +kernel) rfl rfl (pv_move (v := .slice _ _ _) rfl) ?_
        refine dw_pureG (i := 42) rfl (by decide +kernel) rfl rfl (pv_move (v := .int .i64 _) rfl) ?_
        refine dw_pureG (i := 43) rfl (by decide +kernel) rfl rfl (pv_indexE (m := 1) rfl hO rfl rfl rfl (by omega) (by omega)) ?_
        refine dw_loadG (i := 44) rfl (by decide +kernel) rfl rfl ?_
        refine op_load (v := .slice _ _ _) rfl rfl (((hcO.ext (Ext.trans (Ext.trans (Ext.trans (Ext.trans (Ext.trans (Ext.trans (Ext.trans (Ext.trans (Ext.trans (Ext.trans (Ext.trans F1 F2) F3) F4) F5) F6) F7) F8) F9) F10) F11) F12))) 0 _ rfl) ?_
        refine dw_lastG (i := 45) rfl (by decide +kernel) (by decide +kernel) rfl rfl ?_
        refine op_fn (caps := []) (vs := [.slice _ _ _, .slice _ _ _]) rfl rfl rfl (sameIntsS_ok oi _ _ _ _ k12 (ROo.ext (Ext.trans (Ext.trans (Ext.trans (Ext.trans (Ext.trans (Ext.trans (Ext.trans (Ext.trans (Ext.trans F3 F4) F5) F6) F7) F8) F9) F10) F11) F12)) (ROi.ext (Ext.trans (Ext.trans (Ext.trans (Ext.trans (Ext.trans (Ext.trans (Ext.trans (Ext.trans (Ext.trans (Ext.trans (Ext.trans F1 F2) F3) F4) F5) F6) F7) F8) F9) F10) F11) F12)) (by omega)) ?_
        rintro _ k13 F13 rfl
        refine dw_pureG (i := 46) rfl (by decide +kernel) rfl rfl (pv_of (v := .bool _) rfl) ?_
        refine dw_pure (i := 47) rfl (by decide +kernel) (pv_pickF rfl rfl (v := .bool _) rfl) ?_
        refine dw_pure (i := 48) rfl (by decide +kernel) (pv_move (v := .bool _) rfl) ?_
        refine dw_pureG (i := 49) rfl (by decide +kernel) rfl rfl (pv_move (v := .slice _ _ _) rfl) ?_
        refine dw_pureG (i := 50) rfl (by decide +kernel) rfl rfl (pv_move (v := .slice _ _ _) rfl) ?_
        refine dw_pureG (i := 51) rfl (by decide +kernel) rfl rfl (pv_move (v := .int .i64 _) rfl) ?_
        refine dw_pureG (i := 52) rfl (by decide +kernel) rfl rfl (pv_indexE (m := 1) rfl hV rfl rfl rfl (by omega) (by omega)) ?_
        refine dw_loadG (i := 53) rfl (by decide +kernel) rfl rfl ?_
        refine op_load (v := .slice _ _ _) rfl rfl (((hcV.ext (Ext.trans (Ext.trans (Ext.trans (Ext.trans (Ext.trans (Ext.trans (Ext.trans (Ext.trans (Ext.trans (Ext.trans (Ext.trans (Ext.trans F1 F2) F3) F4) F5) F6) F7) F8) F9) F10) F11) F12) F13))) 0 _ rfl) ?_
        refine dw_lastG (i := 54) rfl (by decide +kernel) (by decide +kernel) rfl rfl ?_
        refine op_fn (caps := []) (vs := [.slice _ _ _, .slice _ _ _]) rfl rfl rfl (sameIntsS_ok vi _ _ _ _ k13 (RVo.ext (Ext.trans (Ext.trans (Ext.trans (Ext.trans (Ext.trans (Ext.trans (Ext.trans (Ext.trans (Ext.trans F4 F5) F6) F7) F8) F9) F10) F11) F12) F13)) (RVi.ext (Ext.trans (Ext.trans (Ext.trans (Ext.trans (Ext.trans (Ext.trans (Ext.trans (Ext.trans (Ext.trans (Ext.trans (Ext.trans (Ext.trans F1 F2) F3) F4) F5) F6) F7) F8) F9) F10) F11) F12) F13)) (by omega)) ?_
        rintro _ k14 F14 rfl
        refine dw_pureG (i := 55) rfl (by decide +kernel) rfl rfl (pv_of (v := .bool _) rfl) ?_
        refine dw_pure (i := 56) rfl (by decide +kernel) (pv_pickF rfl rfl (v := .bool _) rfl) ?_
        refine dw_end rfl ?_
        refine xp_condF rfl (rfl) ?_
        refine xp_skip ?_
        refine xp_region rfl ?_
        refine op_pure (pv_move (v := .int .i64 _) rfl) ?_
        refine op_pure (pv_arith rfl (by omega)) ?_
        refine op_pure (pv_assign (v := .int .i64 _) rfl) ?_
        refine ⟨i + 1, ⟨rfl, trivial⟩, rfl, rfl, (Ext.trans (Ext.trans (Ext.trans (Ext.trans (Ext.trans (Ext.trans (Ext.trans (Ext.trans (Ext.trans (Ext.trans (Ext.trans (Ext.trans (Ext.trans (Ext.trans E_i F1) F2) F3) F4) F5) F6) F7) F8) F9) F10) F11) F12) F13) F14), fun h3 E3 => by omega, by first | omega | (dsimp only; omega), ?_⟩
        repeat (first | exact off_base _ _ _ | refine off_upd (by decide) ?_ | refine off_updL rfl ?_ | refine off_mix rfl ?_)
      · skip
        refine xp_exit ?_
        refine xp_seq ?_
        refine xp_region rfl ?_
        refine op_fn (caps := []) (vs := []) rfl rfl rfl (rod_sounding rfl h_i) ?_
        rintro _ h26 E26 rfl
        refine op_pure (pv_assign (v := .bool _) rfl) ?_
        refine xp_ret ?_
        exact ⟨rfl, fun V => (Ext.trans (Ext.trans (Ext.trans (Ext.trans (Ext.trans (Ext.trans (Ext.trans (Ext.trans (Ext.trans (Ext.trans (Ext.trans (Ext.trans (Ext.trans (Ext.trans (Ext.trans G0 E1) E2) E3) E4) E5) E6) E_y) G6) G7) G8) G9) GA) E_i) E26) (ext_wl V)), rfl⟩
end
end Go.Proofs.Ythphpbdmbmiaiaa
