/- An own logic over the model, its walks and its plain laws, joined of parts R38 GT R39 Rt R40 R41 R42 R43 R44 R45 R46 R47. Conditions: as each theorem states. -/
import Derived.Test.YthphpbdmbmiaiaaLa5
import Derived.Test.YthphpbdmbmiaiaaLa3
set_option linter.all false
/- Walks of the reference: all hands; equal lists; sets with a number more, or without one. Conditions: as each theorem states. -/
namespace Go.Proofs.Ythphpbdmbmiaiaa
open Go Go.HL Go.Proofs Go.Wx Go.Rd
section
variable [Lvl]
set_option maxRecDepth 100000
theorem two_len {cs : List (List Value)} {c : List Value} (h : ∀ x ∈ cs, x.length = 2) (hc : c.length = 2) : ∀ x ∈ cs ++ [c], x.length = 2 := fun x hx => by
  rcases List.mem_append.1 hx with hx | hx
  · exact h x hx
  · simp at hx; subst hx; exact hc
theorem pairs_take {ls bs : List (List Int)} {k : Nat} (hk : k < ls.length) : pairsM (ls.take (k + 1)) bs = pairsM (ls.take k) bs ++ bs.map fun o => ⟨ls[k], o⟩ := by
  rw [take_snoc hk]
  unfold pairsM
  rw [List.flatMap_append]
  simp
theorem setsM_len {n : Nat} (hn : n ≤ 6) : (setsM n).length ≤ 448 := by
  have h := sets_len hn (n + 1) (Nat.le_refl _)
  rw [setsM_eq]
  omega
set_option maxHeartbeats 4000000 in
theorem HandsR_ok (m : MachP) (hb : m.buttons.length ≤ 6) (hr : 0 ≤ m.regs ∧ m.regs ≤ 6) (AB AQ AL AW : Option Addr) (cB cQ cL cW : Nat) (h : AH) (RM : MachR h AB AQ AL AW m) :
    FnT Try.prog 52 #[machV AB AQ AL AW cB cQ cL cW m] h (fun v h' => SlX h' 2 TH (handsM m) v) := by
  obtain ⟨bs, hbs⟩ : ∃ bs, bs = setsM m.buttons.length := ⟨_, rfl⟩
  obtain ⟨rs, hrs⟩ : ∃ rs, rs = setsM m.regs.toNat := ⟨_, rfl⟩
  have hbl : bs.length ≤ 448 := by rw [hbs]; exact setsM_len hb
  have hrl : rs.length ≤ 448 := by rw [hrs]; exact setsM_len (by omega)
  have L1 := setsR_ok m.buttons.length hb m.buttons.length rfl
  have L2 := setsR_ok m.regs.toNat (by omega) m.regs (by omega)
  rw [← hbs] at L1
  rw [← hrs] at L2
  rw [show handsM m = pairsM bs rs by rw [hbs, hrs]; rfl]
  refine call_body Try.func52 rfl Try.ntmps52 rfl ?_
  refine xp_seq ?_
  refine xp_region rfl ?_
  refine op_box (v := .agg #[.int .i64 _, .int .i64 _, .int .i64 _, .int .i64 _, .int .i64 _, .slice _ _ _, .slice _ _ _, .slice _ _ _, .slice _ _ _]) (cs := [_, _, _, _, _, _, _, _, _]) rfl rfl fun b1 hb1 => ?_
  refine wp_norm [_] rfl ?_
  refine op_pure (pv_assign (v := .slice _ _ _) rfl) ?_
  refine goes_more ?_
  refine goes_norm [_, _] rfl ?_
  refine xp_seq ?_
  refine xp_region rfl ?_
  refine op_pure (pv_assign (v := .slice _ _ _) rfl) ?_
  refine xp_seq ?_
  refine xp_dw [] rfl rfl rfl ?_
  refine dw_pure (i := 0) rfl (by decide +kernel) (pv_fieldAddr rfl rfl rfl rfl 5 rfl) ?_
  refine dw_load (i := 1) rfl (by decide +kernel) ?_
  refine op_loadP 0 (v := .slice _ _ _) rfl rfl rfl rfl ?_
  refine dw_pure (i := 2) rfl (by decide +kernel) (pv_len rfl rfl) ?_
  refine dw_pure (i := 4) rfl (by decide +kernel) (pv_fieldAddr rfl rfl rfl rfl 2 rfl) ?_
  refine dw_load (i := 5) rfl (by decide +kernel) ?_
  refine op_loadP 0 (v := .int .i64 _) rfl rfl rfl rfl ?_
  refine dw_eff (i := 3) rfl (by decide +kernel) ?_
  refine op_fn (caps := []) (vs := [.int .i64 _]) rfl rfl rfl (L1 h) ?_
  rintro _ h1 E1 S1
  refine ⟨ext_wlm E1 _, ?_⟩
  obtain ⟨gb, BA, cBA, rfl, RB, EB⟩ := SlX.els S1
  refine dw_last (i := 6) rfl (by decide +kernel) (by decide +kernel) ?_
  refine op_fn (caps := []) (vs := [.int .i64 _]) rfl rfl rfl (L2 h1) ?_
  rintro _ h2 E2 S2
  obtain ⟨gr, RA, cRA, rfl, RR, ER⟩ := SlX.els S2
  refine dw_pure (i := 7) rfl (by decide +kernel) (pv_assign (v := .slice _ _ _) rfl) ?_
  refine dw_pure (i := 8) rfl (by decide +kernel) (pv_assign (v := .slice _ _ _) rfl) ?_
  refine dw_end rfl ?_
  refine xp_seq ?_
  refine xp_seq ?_
  refine xp_region rfl ?_
  refine op_pure (pv_assign (v := .int .i64 _) rfl) ?_
  refine xp_block ?_
  refine xp_loopL [3, 6, 7, 15, 16, 17, 18, 19, 20, 21, 22, 23, 24, 25, 26, 27, 28, 29, 30, 31, 32, 33, 34, 35, 36, 37, 38] 2 (α := Nat × Acc × List (List Value)) (fun ⟨k, ac, cs⟩ => [(6, .int .i64 k), (3, .slice ac.A ac.n ac.c)]) (fun ⟨k, ac, cs⟩ L => L.set 1 (ac.p)) (fun ⟨k, ac, cs⟩ h_k => k ≤ bs.length ∧ AccR 31 2 (cs.flatMap id) ac ∧ Els h_k TH (pairsM (bs.take k) rs) cs ∧ ∀ x ∈ cs, x.length = 2) (fun ⟨k, ac, cs⟩ => bs.length - k) ((0, acc0, [])) ⟨rfl, rfl, trivial⟩ (rfl) (⟨Nat.zero_le _, accR0, Els.nil _ _, fun _ hx => absurd hx List.not_mem_nil⟩) ?_
  rintro ⟨k, ac, cs⟩ T1 h_k E_k J_k
  refine goes_norm [_, _] rfl ?_
  obtain ⟨J1, J2, J3, J4⟩ := J_k
  refine xp_seq ?_
  refine xp_seq ?_
  refine xp_region rfl ?_
  refine op_pure (pv_move (v := .int .i64 _) rfl) ?_
  refine op_pure (pv_move (v := .slice _ _ _) rfl) ?_
  refine op_pure (pv_len rfl rfl) ?_
  refine op_pure (pv_of (v := .bool _) rfl) ?_
  refine xp_cond rfl (fun hk => ?_) (fun hk => ?_)
  · skip
    have hkl : k < bs.length := ltI hk
    have hpl := pairs_len rs (bs.take k)
    rw [List.length_take, Nat.min_eq_left J1] at hpl
    have hpm : k * rs.length ≤ 448 * 448 := Nat.mul_le_mul (by omega) hrl
    refine xp_skip ?_
    refine xp_seq ?_
    refine xp_block ?_
    refine xp_seq ?_
    refine xp_region rfl ?_
    refine op_pure (pv_assign (v := .int .i64 _) rfl) ?_
    refine xp_block ?_
    refine xp_loopL [3, 7, 21, 22, 23, 24, 25, 26, 27, 28, 29, 30, 31, 32, 33, 34, 35, 36, 37, 38] 2 (α := Nat × Acc × List (List Value)) (fun ⟨j, a2, ds⟩ => [(7, .int .i64 j), (3, .slice a2.A a2.n a2.c)]) (fun ⟨j, a2, ds⟩ L => L.set 1 (a2.p)) (fun ⟨j, a2, ds⟩ h_j => j ≤ rs.length ∧ AccR 31 2 (ds.flatMap id) a2 ∧ Els h_j TH (pairsM (bs.take k) rs ++ (rs.take j).map fun o => ⟨bs[k], o⟩) ds ∧ ∀ x ∈ ds, x.length = 2) (fun ⟨j, a2, ds⟩ => rs.length - j) ((0, ac, cs)) ⟨rfl, rfl, trivial⟩ (rfl) (⟨Nat.zero_le _, J2, by simpa using J3.ext TH.mono (Ext.refl _), J4⟩) ?_
    rintro ⟨j, a2, ds⟩ T2 h_j E_j J_j
    refine goes_norm [_, _] rfl ?_
    obtain ⟨K1, K2, K3, K4⟩ := J_j
    refine xp_seq ?_
    refine xp_seq ?_
    refine xp_region rfl ?_
    refine op_pure (pv_move (v := .int .i64 _) rfl) ?_
    refine op_pure (pv_move (v := .slice _ _ _) rfl) ?_
    refine op_pure (pv_len rfl rfl) ?_
    refine op_pure (pv_of (v := .bool _) rfl) ?_
    refine xp_cond rfl (fun hj => ?_) (fun hj => ?_)
    · skip
      have hjl : j < rs.length := ltI hj
      have hdl : (ds.flatMap id).length = (k * rs.length + j) * 2 := by rw [flat_len (enc := id) (m := 2) K4, K3.1, List.length_append, hpl]; simp; omega
      obtain ⟨hkc, y0, e0, XA, cX, rfl, RX⟩ := (EB.ext TL.mono (Ext.trans (Ext.trans E2 E_k) E_j)).at hkl
      obtain ⟨g, off, hA, hc⟩ := (RB.ext (Ext.trans (Ext.trans E2 E_k) E_j)).at (by omega) hkc
      have hc : Cells h_j g (off + k * 1) [.slice XA bs[k].length cX] := by rw [← e0]; exact hc
      obtain ⟨hjc, y1, e1, ZA, cZ, rfl, RZ⟩ := (ER.ext TL.mono (Ext.trans E_k E_j)).at hjl
      obtain ⟨g2, off2, hA2, hc2⟩ := (RR.ext (Ext.trans E_k E_j)).at (by omega) hjc
      have hc2 : Cells h_j g2 (off2 + j * 1) [.slice ZA rs[j].length cZ] := by rw [← e1]; exact hc2
      refine xp_skip ?_
      refine xp_seq ?_
      refine xp_block ?_
      refine xp_dw [] rfl rfl rfl ?_
      refine dw_pure (i := 0) rfl (by decide +kernel) (pv_move (v := .slice _ _ _) rfl) ?_
      refine dw_pure (i := 1) rfl (by decide +kernel) (pv_move (v := .slice _ _ _) rfl) ?_
      refine dw_pure (i := 2) rfl (by decide +kernel) (pv_move (v := .int .i64 _) rfl) ?_
      refine dw_pure (i := 3) rfl (by decide +kernel) (pv_indexE (m := 1) rfl hA rfl rfl rfl (by omega) (by omega)) ?_
      refine dw_load (i := 4) rfl (by decide +kernel) ?_
      refine op_load (v := .slice _ _ _) rfl rfl ((hc) 0 _ rfl) ?_
      refine dw_pure (i := 5) rfl (by decide +kernel) (pv_move (v := .slice _ _ _) rfl) ?_
      refine dw_pure (i := 6) rfl (by decide +kernel) (pv_move (v := .int .i64 _) rfl) ?_
      refine dw_pure (i := 7) rfl (by decide +kernel) (pv_indexE (m := 1) rfl hA2 rfl rfl rfl (by omega) (by omega)) ?_
      refine dw_load (i := 8) rfl (by decide +kernel) ?_
      refine op_load (v := .slice _ _ _) rfl rfl ((hc2) 0 _ rfl) ?_
      refine dw_pure (i := 9) rfl (by decide +kernel) (pv_build (zc := [_, _]) (vs := [(0, .slice _ _ _), (1, .slice _ _ _)]) (cs := [_, _]) rfl rfl rfl rfl rfl rfl) ?_
      refine dw_last (i := 10) rfl (by decide +kernel) (by decide +kernel) ?_
      refine op_buildSlice (zc := [_, _]) (vs := [(0, .agg #[.slice _ _ _, .slice _ _ _])]) (cs := [_, _]) rfl rfl rfl rfl rfl rfl rfl fun b37 hb37 => ?_
      refine dw_norm [_, _, _] rfl ?_
      refine dw_last (i := 11) rfl (by decide +kernel) (by decide +kernel) ?_
      refine op_appendR 1 K2 rfl rfl rfl (fun V => rdP V (i := 2) rfl) rfl rfl rfl rfl rfl rfl rfl rfl rfl (by omega) rfl (by rw [hdl]; simp; omega) fun a4 h3a E3a ha4 => ?_
      refine dw_norm [_, _, _] rfl ?_
      refine dw_pure (i := 12) rfl (by decide +kernel) (pv_assign (v := .slice _ _ _) rfl) ?_
      refine dw_end rfl ?_
      refine xp_region rfl ?_
      refine op_pure (pv_move (v := .int .i64 _) rfl) ?_
      refine op_pure (pv_arith rfl (by omega)) ?_
      refine op_pure (pv_assign (v := .int .i64 _) rfl) ?_
      refine ⟨(j + 1, a4, ds ++ [[.slice XA bs[k].length cX, .slice ZA rs[j].length cZ]]), ⟨rfl, rfl, trivial⟩, rfl, rfl, (Ext.trans E_j E3a), fun h3 E3 => ⟨hjl, by rw [List.flatMap_append]; exact ha4, by rw [take_snoc hjl, List.map_append, ← List.append_assoc]; exact ((K3.ext TH.mono E3a).snoc ⟨_, _, rfl, ⟨XA, cX, rfl, RX.ext E3a⟩, ⟨ZA, cZ, rfl, RZ.ext E3a⟩⟩).ext TH.mono E3, two_len K4 rfl⟩, by first | omega | (dsimp only; omega), ?_⟩
      repeat (first | exact off_base _ _ _ | refine off_upd (by decide) ?_ | refine off_updL rfl ?_ | refine off_mix rfl ?_)
    · skip
      have hje : j = rs.length := by have := geI hj; omega
      subst hje
      rw [List.take_length, ← pairs_take hkl] at K3
      refine xp_exit ?_
      refine xp_region rfl ?_
      refine op_pure (pv_move (v := .int .i64 _) rfl) ?_
      refine op_pure (pv_arith rfl (by omega)) ?_
      refine op_pure (pv_assign (v := .int .i64 _) rfl) ?_
      refine ⟨(k + 1, a2, ds), ⟨rfl, rfl, trivial⟩, rfl, rfl, (Ext.trans E_k E_j), fun h3 E3 => ⟨hkl, K2, (K3.ext TH.mono (Ext.refl _)).ext TH.mono E3, K4⟩, by first | omega | (dsimp only; omega), ?_⟩
      repeat (first | exact off_base _ _ _ | refine off_upd (by decide) ?_ | refine off_updL rfl ?_ | refine off_mix rfl ?_)
  · skip
    have hke : k = bs.length := by have := geI hk; omega
    subst hke
    rw [List.take_length] at J3
    refine xp_exit ?_
    refine xp_seq ?_
    refine xp_region rfl ?_
    refine op_pure (pv_move (v := .slice _ _ _) rfl) ?_
    refine op_pure (pv_assign (v := .slice _ _ _) rfl) ?_
    refine xp_ret ?_
    refine res_list (vs := [_]) Try.results52 ⟨resV_tmp rfl rfl, trivial⟩ fun V => ?_
    exact ⟨(Ext.trans (Ext.trans (Ext.trans E1 E2) E_k) (ext_wl V)), SlX.acc (i := 1) J2 (by omega) J4 V rfl (J3.ext TH.mono (ext_wl V))⟩
theorem withoutR_ok (l : List Int) (n : Int) (A : Option Addr) (c : Nat) (h : AH) (R : Row h 1 intC A l) (hl : l.length < 2 ^ 20) :
    FnT Try.prog 128 #[.slice A l.length c, .int .i64 n] h (fun v h' => SlR h' 1 intC (l.filter fun x => x != n) v) := by
  refine call_body Try.func128 rfl Try.ntmps128 rfl ?_
  refine xp_seq ?_
  refine xp_region rfl ?_
  refine op_pure (pv_assign (v := .slice _ _ _) rfl) ?_
  refine goes_more ?_
  refine goes_norm [_] rfl ?_
  refine xp_seq ?_
  refine xp_region rfl ?_
  refine op_pure (pv_assign (v := .slice _ _ _) rfl) ?_
  refine xp_seq ?_
  refine xp_seq ?_
  refine xp_region rfl ?_
  refine op_pure (pv_assign (v := .int .i64 _) rfl) ?_
  refine xp_block ?_
  refine xp_loopL [5, 6, 7, 8, 9, 10, 11, 12, 13, 14, 15, 16, 17, 18, 19, 20, 21, 22, 23, 24, 25] 1 (α := Nat × Acc) (fun ⟨k, a⟩ => [(6, .int .i64 k), (5, .slice a.A a.n a.c)]) (fun ⟨k, a⟩ L => L.set 0 (a.p)) (fun ⟨k, a⟩ h_k => k ≤ l.length ∧ AccR 3 1 (((l.take k).filter fun x => x != n).flatMap intC) a) (fun ⟨k, a⟩ => l.length - k) ((0, acc0)) ⟨rfl, rfl, trivial⟩ (rfl) (⟨Nat.zero_le _, accR0⟩) ?_
  rintro ⟨k, a⟩ T1 h_k E_k J_k
  refine goes_norm [_] rfl ?_
  obtain ⟨K1, K2⟩ := J_k
  refine xp_seq ?_
  refine xp_seq ?_
  refine xp_region rfl ?_
  refine op_pure (pv_move (v := .int .i64 _) rfl) ?_
  refine op_pure (pv_move (v := .slice _ _ _) rfl) ?_
  refine op_pure (pv_len rfl rfl) ?_
  refine op_pure (pv_of (v := .bool _) rfl) ?_
  refine xp_cond rfl (fun hk => ?_) (fun hk => ?_)
  · skip
    have hkl : k < l.length := ltI hk
    obtain ⟨g, off, hA, hc⟩ := (R.ext E_k).at (by omega) hkl
    have hfl : (((l.take k).filter fun x => x != n).flatMap intC).length ≤ k := by rw [flat_len (m := 1) (fun _ _ => rfl)]; have := List.length_filter_le (fun x => x != n) (l.take k); rw [List.length_take] at this; omega
    refine xp_skip ?_
    refine xp_seq ?_
    refine xp_block ?_
    refine xp_seq ?_
    refine xp_region rfl ?_
    refine op_pure (pv_move (v := .slice _ _ _) rfl) ?_
    refine op_pure (pv_move (v := .int .i64 _) rfl) ?_
    refine op_pure (pv_indexE rfl hA rfl rfl rfl (by omega) (by omega)) ?_
    refine op_load (v := .int .i64 _) rfl rfl ((hc) 0 _ rfl) ?_
    refine op_pure (pv_move (v := .int .i64 _) rfl) ?_
    refine op_pure (pv_of (v := .bool _) rfl) ?_
    refine xp_cond rfl (fun hd => ?_) (fun hd => ?_)
    · skip
      obtain ⟨g2, off2, hA2, hc2⟩ := (R.ext E_k).at (by omega) hkl
      refine xp_region rfl ?_
      refine op_pure (pv_move (v := .slice _ _ _) rfl) ?_
      refine op_pure (pv_move (v := .slice _ _ _) rfl) ?_
      refine op_pure (pv_move (v := .int .i64 _) rfl) ?_
      refine op_pure (pv_indexE rfl hA2 rfl rfl rfl (by omega) (by omega)) ?_
      refine op_load (v := .int .i64 _) rfl rfl ((hc2) 0 _ rfl) ?_
      refine op_buildSlice (zc := [_]) (vs := [(0, .int .i64 _)]) (cs := [_]) rfl rfl rfl rfl rfl rfl rfl fun b24 hb24 => ?_
      refine wp_norm [_, _] rfl ?_
      refine op_appendR 0 K2 rfl rfl rfl (fun V => rdP V (i := 1) rfl) rfl rfl rfl rfl rfl rfl rfl rfl rfl (by omega) rfl (by simp only [List.length_cons, List.length_nil]; omega) fun a2 h2a E2a ha2 => ?_
      refine wp_norm [_, _] rfl ?_
      refine op_pure (pv_assign (v := .slice _ _ _) rfl) ?_
      refine xp_region rfl ?_
      refine op_pure (pv_move (v := .int .i64 _) rfl) ?_
      refine op_pure (pv_arith rfl (by omega)) ?_
      refine op_pure (pv_assign (v := .int .i64 _) rfl) ?_
      refine ⟨(k + 1, a2), ⟨rfl, rfl, trivial⟩, rfl, rfl, (Ext.trans E_k E2a), fun h3 E3 => ⟨hkl, by rw [take_snoc hkl, List.filter_append, List.filter_cons_of_pos (by exact hd), List.flatMap_append]; exact ha2⟩, by first | omega | (dsimp only; omega), ?_⟩
      repeat (first | exact off_base _ _ _ | refine off_upd (by decide) ?_ | refine off_updL rfl ?_ | refine off_mix rfl ?_)
    · skip
      refine xp_skip ?_
      refine xp_region rfl ?_
      refine op_pure (pv_move (v := .int .i64 _) rfl) ?_
      refine op_pure (pv_arith rfl (by omega)) ?_
      refine op_pure (pv_assign (v := .int .i64 _) rfl) ?_
      refine ⟨(k + 1, a), ⟨rfl, rfl, trivial⟩, rfl, rfl, E_k, fun h3 E3 => ⟨hkl, by rw [take_snoc hkl, List.filter_append, List.filter_cons_of_neg (by rw [hd]; decide), List.filter_nil, List.append_nil]; exact K2⟩, by first | omega | (dsimp only; omega), ?_⟩
      repeat (first | exact off_base _ _ _ | refine off_upd (by decide) ?_ | refine off_updL rfl ?_ | refine off_mix rfl ?_)
  · skip
    have hke : k = l.length := by have := geI hk; omega
    subst hke
    rw [List.take_length] at K2
    refine xp_exit ?_
    refine xp_seq ?_
    refine xp_region rfl ?_
    refine op_pure (pv_move (v := .slice _ _ _) rfl) ?_
    refine op_pure (pv_assign (v := .slice _ _ _) rfl) ?_
    refine xp_ret ?_
    refine res_list (vs := [_]) Try.results128 ⟨resV_tmp rfl rfl, trivial⟩ fun V => ?_
    exact ⟨(Ext.trans E_k (ext_wl V)), AccP.row (i := 0) K2 (by omega) (fun _ _ => rfl) V rfl⟩
theorem withR_ok (l : List Int) (n : Int) (A : Option Addr) (c : Nat) (h : AH) (R : Row h 1 intC A l) (hl : l.length < 2 ^ 20) :
    FnT Try.prog 127 #[.slice A l.length c, .int .i64 n] h (fun v h' => SlR h' 1 intC ((l.filter fun x => decide (x < n)) ++ [n] ++ l.filter fun x => decide (x > n)) v) := by
  refine call_body Try.func127 rfl Try.ntmps127 rfl ?_
  refine xp_seq ?_
  refine xp_region rfl ?_
  refine op_pure (pv_assign (v := .slice _ _ _) rfl) ?_
  refine goes_more ?_
  refine goes_norm [_] rfl ?_
  refine xp_seq ?_
  refine xp_region rfl ?_
  refine op_pure (pv_assign (v := .slice _ _ _) rfl) ?_
  refine xp_seq ?_
  refine xp_seq ?_
  refine xp_region rfl ?_
  refine op_pure (pv_assign (v := .int .i64 _) rfl) ?_
  refine xp_block ?_
  refine xp_loopL [5, 6, 8, 9, 10, 11, 12, 13, 14, 15, 16, 17, 18, 19, 20, 21, 22, 23, 24, 25, 26] 1 (α := Nat × Acc) (fun ⟨k, a⟩ => [(6, .int .i64 k), (5, .slice a.A a.n a.c)]) (fun ⟨k, a⟩ L => L.set 0 (a.p)) (fun ⟨k, a⟩ h_k => k ≤ l.length ∧ AccR 3 1 (((l.take k).filter fun x => decide (x < n)).flatMap intC) a) (fun ⟨k, a⟩ => l.length - k) ((0, acc0)) ⟨rfl, rfl, trivial⟩ (rfl) (⟨Nat.zero_le _, accR0⟩) ?_
  rintro ⟨k, a⟩ T1 h_k E_k J_k
  refine goes_norm [_] rfl ?_
  obtain ⟨K1, K2⟩ := J_k
  refine xp_seq ?_
  refine xp_seq ?_
  refine xp_region rfl ?_
  refine op_pure (pv_move (v := .int .i64 _) rfl) ?_
  refine op_pure (pv_move (v := .slice _ _ _) rfl) ?_
  refine op_pure (pv_len rfl rfl) ?_
  refine op_pure (pv_of (v := .bool _) rfl) ?_
  refine xp_cond rfl (fun hk => ?_) (fun hk => ?_)
  · skip
    have hkl : k < l.length := ltI hk
    obtain ⟨g, off, hA, hc⟩ := (R.ext E_k).at (by omega) hkl
    have hfl : (((l.take k).filter fun x => decide (x < n)).flatMap intC).length ≤ k := by rw [flat_len (m := 1) (fun _ _ => rfl)]; have := List.length_filter_le (fun x => decide (x < n)) (l.take k); rw [List.length_take] at this; omega
    refine xp_skip ?_
    refine xp_seq ?_
    refine xp_block ?_
    refine xp_seq ?_
    refine xp_region rfl ?_
    refine op_pure (pv_move (v := .slice _ _ _) rfl) ?_
    refine op_pure (pv_move (v := .int .i64 _) rfl) ?_
    refine op_pure (pv_indexE rfl hA rfl rfl rfl (by omega) (by omega)) ?_
    refine op_load (v := .int .i64 _) rfl rfl ((hc) 0 _ rfl) ?_
    refine op_pure (pv_move (v := .int .i64 _) rfl) ?_
    refine op_pure (pv_of (v := .bool _) rfl) ?_
    refine xp_cond rfl (fun hd => ?_) (fun hd => ?_)
    · skip
      obtain ⟨g2, off2, hA2, hc2⟩ := (R.ext E_k).at (by omega) hkl
      refine xp_region rfl ?_
      refine op_pure (pv_move (v := .slice _ _ _) rfl) ?_
      refine op_pure (pv_move (v := .slice _ _ _) rfl) ?_
      refine op_pure (pv_move (v := .int .i64 _) rfl) ?_
      refine op_pure (pv_indexE rfl hA2 rfl rfl rfl (by omega) (by omega)) ?_
      refine op_load (v := .int .i64 _) rfl rfl ((hc2) 0 _ rfl) ?_
      refine op_buildSlice (zc := [_]) (vs := [(0, .int .i64 _)]) (cs := [_]) rfl rfl rfl rfl rfl rfl rfl fun b25 hb25 => ?_
      refine wp_norm [_, _] rfl ?_
      refine op_appendR 0 K2 rfl rfl rfl (fun V => rdP V (i := 1) rfl) rfl rfl rfl rfl rfl rfl rfl rfl rfl (by omega) rfl (by simp only [List.length_cons, List.length_nil]; omega) fun a2 h2a E2a ha2 => ?_
      refine wp_norm [_, _] rfl ?_
      refine op_pure (pv_assign (v := .slice _ _ _) rfl) ?_
      refine xp_region rfl ?_
      refine op_pure (pv_move (v := .int .i64 _) rfl) ?_
      refine op_pure (pv_arith rfl (by omega)) ?_
      refine op_pure (pv_assign (v := .int .i64 _) rfl) ?_
      refine ⟨(k + 1, a2), ⟨rfl, rfl, trivial⟩, rfl, rfl, (Ext.trans E_k E2a), fun h3 E3 => ⟨hkl, by rw [take_snoc hkl, List.filter_append, List.filter_cons_of_pos (by exact hd), List.flatMap_append]; exact ha2⟩, by first | omega | (dsimp only; omega), ?_⟩
      repeat (first | exact off_base _ _ _ | refine off_upd (by decide) ?_ | refine off_updL rfl ?_ | refine off_mix rfl ?_)
    · skip
      refine xp_skip ?_
      refine xp_region rfl ?_
      refine op_pure (pv_move (v := .int .i64 _) rfl) ?_
      refine op_pure (pv_arith rfl (by omega)) ?_
      refine op_pure (pv_assign (v := .int .i64 _) rfl) ?_
      refine ⟨(k + 1, a), ⟨rfl, rfl, trivial⟩, rfl, rfl, E_k, fun h3 E3 => ⟨hkl, by rw [take_snoc hkl, List.filter_append, List.filter_cons_of_neg (by rw [hd]; decide), List.filter_nil, List.append_nil]; exact K2⟩, by first | omega | (dsimp only; omega), ?_⟩
      repeat (first | exact off_base _ _ _ | refine off_upd (by decide) ?_ | refine off_updL rfl ?_ | refine off_mix rfl ?_)
  · skip
    have hke : k = l.length := by have := geI hk; omega
    subst hke
    rw [List.take_length] at K2
    obtain ⟨f1, hf1⟩ : ∃ f1, f1 = (l.filter fun x => decide (x < n)) := ⟨_, rfl⟩
    have hf1l : f1.length ≤ l.length := by rw [hf1]; exact List.length_filter_le _ _
    rw [← hf1] at K2 ⊢
    refine xp_exit ?_
    refine xp_seq ?_
    refine xp_region rfl ?_
    refine op_pure (pv_move (v := .slice _ _ _) rfl) ?_
    refine op_pure (pv_move (v := .int .i64 _) rfl) ?_
    refine op_buildSlice (zc := [_]) (vs := [(0, .int .i64 _)]) (cs := [_]) rfl rfl rfl rfl rfl rfl rfl fun b29 hb29 => ?_
    refine wp_norm [_, _] rfl ?_
    refine op_appendR 0 K2 rfl rfl rfl (fun V => rdP V (i := 1) rfl) rfl rfl rfl rfl rfl rfl rfl rfl rfl (by omega) rfl (by rw [flat_len (m := 1) (fun _ _ => rfl)]; simp; omega) fun a0 h3a E3a ha0 => ?_
    refine wp_norm [_, _] rfl ?_
    refine op_pure (pv_assign (v := .slice _ _ _) rfl) ?_
    refine xp_seq ?_
    refine xp_seq ?_
    refine xp_region rfl ?_
    refine op_pure (pv_assign (v := .int .i64 _) rfl) ?_
    refine xp_block ?_
    refine xp_loopL [5, 7, 31, 32, 33, 34, 35, 36, 37, 38, 39, 40, 41, 42, 43, 44, 45, 46, 47, 48, 49] 2 (α := Nat × Acc) (fun ⟨j, a3⟩ => [(7, .int .i64 j), (5, .slice a3.A a3.n a3.c)]) (fun ⟨j, a3⟩ L => L.set 0 (a3.p)) (fun ⟨j, a3⟩ h_j => j ≤ l.length ∧ AccR 3 1 ((f1 ++ [n] ++ (l.take j).filter fun x => decide (x > n)).flatMap intC) a3) (fun ⟨j, a3⟩ => l.length - j) ((0, a0)) ⟨rfl, rfl, trivial⟩ (rfl) (⟨Nat.zero_le _, by rw [List.take_zero, List.filter_nil, List.append_nil, List.flatMap_append]; exact ha0⟩) ?_
    rintro ⟨j, a3⟩ T4 h_j E_j J_j
    refine goes_norm [_, _] rfl ?_
    obtain ⟨K3, K4⟩ := J_j
    refine xp_seq ?_
    refine xp_seq ?_
    refine xp_region rfl ?_
    refine op_pure (pv_move (v := .int .i64 _) rfl) ?_
    refine op_pure (pv_move (v := .slice _ _ _) rfl) ?_
    refine op_pure (pv_len rfl rfl) ?_
    refine op_pure (pv_of (v := .bool _) rfl) ?_
    refine xp_cond rfl (fun hj => ?_) (fun hj => ?_)
    · skip
      have hjl : j < l.length := ltI hj
      obtain ⟨g, off, hA, hc⟩ := (R.ext (Ext.trans (Ext.trans E_k E3a) E_j)).at (by omega) hjl
      have hfl : ((f1 ++ [n] ++ (l.take j).filter fun x => decide (x > n)).flatMap intC).length ≤ f1.length + 1 + j := by rw [flat_len (m := 1) (fun _ _ => rfl), List.length_append, List.length_append]; have := List.length_filter_le (fun x => decide (x > n)) (l.take j); rw [List.length_take] at this; simp only [List.length_cons, List.length_nil]; omega
      refine xp_skip ?_
      refine xp_seq ?_
      refine xp_block ?_
      refine xp_seq ?_
      refine xp_region rfl ?_
      refine op_pure (pv_move (v := .slice _ _ _) rfl) ?_
      refine op_pure (pv_move (v := .int .i64 _) rfl) ?_
      refine op_pure (pv_indexE rfl hA rfl rfl rfl (by omega) (by omega)) ?_
      refine op_load (v := .int .i64 _) rfl rfl ((hc) 0 _ rfl) ?_
      refine op_pure (pv_move (v := .int .i64 _) rfl) ?_
      refine op_pure (pv_of (v := .bool _) rfl) ?_
      refine xp_cond rfl (fun hd => ?_) (fun hd => ?_)
      · skip
        obtain ⟨g2, off2, hA2, hc2⟩ := (R.ext (Ext.trans (Ext.trans E_k E3a) E_j)).at (by omega) hjl
        refine xp_region rfl ?_
        refine op_pure (pv_move (v := .slice _ _ _) rfl) ?_
        refine op_pure (pv_move (v := .slice _ _ _) rfl) ?_
        refine op_pure (pv_move (v := .int .i64 _) rfl) ?_
        refine op_pure (pv_indexE rfl hA2 rfl rfl rfl (by omega) (by omega)) ?_
        refine op_load (v := .int .i64 _) rfl rfl ((hc2) 0 _ rfl) ?_
        refine op_buildSlice (zc := [_]) (vs := [(0, .int .i64 _)]) (cs := [_]) rfl rfl rfl rfl rfl rfl rfl fun b48 hb48 => ?_
        refine wp_norm [_, _, _] rfl ?_
        refine op_appendR 0 K4 rfl rfl rfl (fun V => rdP V (i := 2) rfl) rfl rfl rfl rfl rfl rfl rfl rfl rfl (by omega) rfl (by simp only [List.length_cons, List.length_nil]; omega) fun a2 h5a E5a ha2 => ?_
        refine wp_norm [_, _, _] rfl ?_
        refine op_pure (pv_assign (v := .slice _ _ _) rfl) ?_
        refine xp_region rfl ?_
        refine op_pure (pv_move (v := .int .i64 _) rfl) ?_
        refine op_pure (pv_arith rfl (by omega)) ?_
        refine op_pure (pv_assign (v := .int .i64 _) rfl) ?_
        refine ⟨(j + 1, a2), ⟨rfl, rfl, trivial⟩, rfl, rfl, (Ext.trans E_j E5a), fun h3 E3 => ⟨hjl, by rw [take_snoc hjl, List.filter_append, List.filter_cons_of_pos (by exact hd), List.filter_nil, ← List.append_assoc, List.flatMap_append]; exact ha2⟩, by first | omega | (dsimp only; omega), ?_⟩
        repeat (first | exact off_base _ _ _ | refine off_upd (by decide) ?_ | refine off_updL rfl ?_ | refine off_mix rfl ?_)
      · skip
        refine xp_skip ?_
        refine xp_region rfl ?_
        refine op_pure (pv_move (v := .int .i64 _) rfl) ?_
        refine op_pure (pv_arith rfl (by omega)) ?_
        refine op_pure (pv_assign (v := .int .i64 _) rfl) ?_
        refine ⟨(j + 1, a3), ⟨rfl, rfl, trivial⟩, rfl, rfl, E_j, fun h3 E3 => ⟨hjl, by rw [take_snoc hjl, List.filter_append, List.filter_cons_of_neg (by rw [hd]; decide), List.filter_nil, List.append_nil]; exact K4⟩, by first | omega | (dsimp only; omega), ?_⟩
        repeat (first | exact off_base _ _ _ | refine off_upd (by decide) ?_ | refine off_updL rfl ?_ | refine off_mix rfl ?_)
    · skip
      have hje : j = l.length := by have := geI hj; omega
      subst hje
      rw [List.take_length] at K4
      refine xp_exit ?_
      refine xp_seq ?_
      refine xp_region rfl ?_
      refine op_pure (pv_move (v := .slice _ _ _) rfl) ?_
      refine op_pure (pv_assign (v := .slice _ _ _) rfl) ?_
      refine xp_ret ?_
      refine res_list (vs := [_]) Try.results127 ⟨resV_tmp rfl rfl, trivial⟩ fun V => ?_
      exact ⟨(Ext.trans (Ext.trans (Ext.trans E_k E3a) E_j) (ext_wl V)), AccP.row (i := 0) K4 (by omega) (fun _ _ => rfl) V rfl⟩
end
end Go.Proofs.Ythphpbdmbmiaiaa
/- The own logic, part GT: the first and the last part of a slice. Conditions: none. -/
namespace Go.HL
open Go
variable [Lvl]
section
variable {P : Program} {n : Nat} {d : Option Tmp} {ty : TypeId} {ps : String} {af : Array Edge} {S : Sl}
theorem pv_sliceHi {x hi : Operand} {t e : TypeId} {m len cap : Nat} {A : Option Addr} (j : Nat) {k2 : IntKind} {j' : Int} (hx : ev n S x = .slice A len cap) (hh : ev n S hi = .int k2 j') (ej : j' = j) (ht : pev P (underlying t) = some (.slice e)) (hs : pev P (sizeOf e) = some m) (hjc : j ≤ cap) :
    pev P (execOp (ev n S) ⟨d, .slice t x none (some hi) none, ty, ps, af, none⟩) = some (.value (.slice A j cap)) := by
  subst ej
  simp only [execOp, hx, hh, Option.map]
  refine (pev_bind (a := .slice A j cap) ?_).trans rfl
  unfold Instr.sliceAt
  refine (pev_mbind ht).trans ?_
  simp only
  unfold Instr.slice
  refine (pev_mbind ht).trans ?_
  simp only
  have hb : pev P (Instr.sliceBounds true len cap none (some (.int k2 (j : Int))) none) = some (0, j, cap) := by
    unfold Instr.sliceBounds
    refine (pev_mbind (a := cap) rfl).trans ?_
    have h1 : pev P (Instr.sliceBound (.int k2 (j : Int)) cap .sliceAcap) = some j := by
      unfold Instr.sliceBound
      refine (pev_mbind (a := (k2, (j : Int))) rfl).trans ?_
      simp only
      rw [if_pos ⟨by omega, by omega⟩]
      rfl
    refine (pev_mbind h1).trans ?_
    rfl
  refine (pev_mbind hb).trans ?_
  simp only
  refine (pev_mbind hs).trans ?_
  have e0 : (if cap = 0 then A else A.map (·.add (0 * m))) = A := by
    split
    · rfl
    · cases A <;> simp [Addr.add]
  show some (Value.slice (if cap = 0 then A else A.map (·.add (0 * m))) (j - 0) (cap - 0)) = _
  rw [e0]
  rfl
theorem pv_sliceLo {x lo : Operand} {t e : TypeId} {m len cap : Nat} {A : Option Addr} (i : Nat) {k : IntKind} {i' : Int} (hx : ev n S x = .slice A len cap) (hl : ev n S lo = .int k i') (ei : i' = i) (ht : pev P (underlying t) = some (.slice e)) (hs : pev P (sizeOf e) = some m) (hij : i ≤ len) (hc : len ≤ cap) :
    pev P (execOp (ev n S) ⟨d, .slice t x (some lo) none none, ty, ps, af, none⟩) = some (.value (.slice (if cap = i then A else A.map (·.add (i * m))) (len - i) (cap - i))) := by
  subst ei
  simp only [execOp, hx, hl, Option.map]
  refine (pev_bind (a := .slice (if cap = i then A else A.map (·.add (i * m))) (len - i) (cap - i)) ?_).trans rfl
  unfold Instr.sliceAt
  refine (pev_mbind ht).trans ?_
  simp only
  unfold Instr.slice
  refine (pev_mbind ht).trans ?_
  simp only
  have hb : pev P (Instr.sliceBounds true len cap (some (.int k (i : Int))) none none) = some (i, len, cap) := by
    unfold Instr.sliceBounds
    refine (pev_mbind (a := cap) rfl).trans ?_
    have h1 : ∀ f, pev P (Instr.sliceBound (.int .i64 (len : Int)) cap f) = some len := by
      intro f
      unfold Instr.sliceBound
      refine (pev_mbind (a := (IntKind.i64, (len : Int))) rfl).trans ?_
      simp only
      rw [if_pos ⟨by omega, by omega⟩]
      rfl
    have h2 : pev P (Instr.sliceBound (.int k (i : Int)) len .sliceB) = some i := by
      unfold Instr.sliceBound
      refine (pev_mbind (a := (k, (i : Int))) rfl).trans ?_
      simp only
      rw [if_pos ⟨by omega, by omega⟩]
      rfl
    first
    | (refine (pev_mbind (a := len) rfl).trans ?_
       refine (pev_mbind h2).trans ?_
       rfl)
    | (refine (pev_mbind (a := len) (h1 _)).trans ?_
       refine (pev_mbind h2).trans ?_
       rfl)
  refine (pev_mbind hb).trans ?_
  simp only
  refine (pev_mbind hs).trans ?_
  rfl
end
theorem rd_drop {H : AH} {A : Option Addr} {cs : List Value} (r : Rd H A cs) (k : Nat) : Rd H (A.map (·.add k)) (cs.drop k) := fun hne => by
  obtain ⟨g, off, rfl, c⟩ := r (fun e => hne (by rw [e, List.drop_nil]))
  refine ⟨g, off + k, by simp [Addr.add], fun j u hu => ?_⟩
  rw [List.getElem?_drop] at hu
  have := c (k + j) u hu
  rw [← Nat.add_assoc] at this
  exact this
end Go.HL
/- Walks of the reference: a machine without a pin, without a link; all faults. Conditions: as each theorem states. -/
namespace Go.Proofs.Ythphpbdmbmiaiaa
open Go Go.HL Go.Proofs Go.Wx Go.Rd
section
variable [Lvl]
set_option maxRecDepth 100000
theorem flat_take {α : Type} (enc : α → List Value) (l : List α) (k : Nat) : (l.take k).flatMap enc = (l.flatMap enc).take ((l.take k).flatMap enc).length := by
  have e : l.flatMap enc = (l.take k).flatMap enc ++ (l.drop k).flatMap enc := by rw [← List.flatMap_append, List.take_append_drop]
  rw [e, List.take_left']
  rfl
theorem flat_drop {α : Type} (enc : α → List Value) (l : List α) (k : Nat) : (l.drop k).flatMap enc = (l.flatMap enc).drop ((l.take k).flatMap enc).length := by
  have e : l.flatMap enc = (l.take k).flatMap enc ++ (l.drop k).flatMap enc := by rw [← List.flatMap_append, List.take_append_drop]
  rw [e, List.drop_left']
  rfl
theorem row_take {α : Type} {enc : α → List Value} {h : AH} {A : Option Addr} {l : List α} {m : Nat} (R : Row h m enc A l) (k : Nat) : Row h m enc A (l.take k) :=
  ⟨fun x hx => R.1 x (take_mem hx), by rw [flat_take]; exact rd_take R.2 _⟩
theorem row_drop {α : Type} {enc : α → List Value} {h : AH} {A : Option Addr} {l : List α} {m k cap : Nat} (R : Row h m enc A l) (hk : k ≤ l.length) (hc : l.length ≤ cap) : Row h m enc (if cap = k then A else A.map (·.add (k * m))) (l.drop k) := by
  refine ⟨fun x hx => R.1 x (List.mem_of_mem_drop hx), ?_⟩
  split
  · rw [List.drop_of_length_le (by omega)]
    exact Rd.nil _ _
  · have e : ((l.take k).flatMap enc).length = k * m := by
      rw [flat_len (m := m) (fun x hx => R.1 x (take_mem hx)), List.length_take, Nat.min_eq_left hk]
    have := rd_drop R.2 (k * m)
    rw [flat_drop, e]
    exact this
theorem row_acc {α : Type} {e : TypeId} {m : Nat} {enc : α → List Value} {l : List α} {a : Acc} {L : Pv} {h : AH} {i : Nat} (r : AccR e m (l.flatMap enc) a) (hm : 0 < m) (hl : ∀ x ∈ l, (enc x).length = m) (V : Valid h L) (hi : L[i]? = some a.p) : Row (wl h L) m enc a.A l := by
  obtain ⟨A', c', e, r⟩ := AccP.row r hm hl V hi
  injection e with e1 e2 e3
  rw [e1]
  exact r
set_option maxHeartbeats 2000000 in
theorem WithoutPinR_ok (m : MachP) (i : Nat) (hi : i < m.pins.length) (hl : m.pins.length < 2 ^ 20) (AB AQ AL AW : Option Addr) (cB cQ cL cW : Nat) (hc : m.pins.length ≤ cQ) (h : AH) (R : Row h 3 pinC AQ m.pins) :
    FnT Try.prog 64 #[machV AB AQ AL AW cB cQ cL cW m, .int .i64 i] h (fun v h' => ∃ A c, v = machV AB A AL AW cB c cL cW { m with pins := m.pins.eraseIdx i } ∧ Row h' 3 pinC A (m.pins.eraseIdx i) ∧ (m.pins.eraseIdx i).length ≤ c) := by
  have el : (m.pins.take i).length = i := by rw [List.length_take]; omega
  have ee : m.pins.eraseIdx i = m.pins.take i ++ m.pins.drop (i + 1) := List.eraseIdx_eq_take_drop_succ ..
  have ed : (m.pins.drop (i + 1)).length = m.pins.length - (i + 1) := List.length_drop ..
  refine call_body Try.func64 rfl Try.ntmps64 rfl ?_
  refine xp_seq ?_
  refine xp_region rfl ?_
  refine op_box (v := .agg #[.int .i64 _, .int .i64 _, .int .i64 _, .int .i64 _, .int .i64 _, .slice _ _ _, .slice _ _ _, .slice _ _ _, .slice _ _ _]) (cs := [_, _, _, _, _, _, _, _, _]) rfl rfl fun b2 hb2 => ?_
  refine wp_norm [_] rfl ?_
  refine op_alloc (cs := [_, _, _, _, _, _, _, _, _]) rfl rfl fun b4 hb4 => ?_
  refine wp_norm [_, _] rfl ?_
  refine xp_seq ?_
  refine xp_dw [false, false, true] rfl rfl rfl ?_
  refine dw_pure (i := 1) rfl (by decide +kernel) (pv_fieldAddr rfl rfl rfl rfl 6 rfl) ?_
  refine dw_load (i := 2) rfl (by decide +kernel) ?_
  refine op_loadP 0 (v := .slice _ _ _) rfl rfl rfl rfl ?_
  refine dw_pure (i := 3) rfl (by decide +kernel) (pv_move (v := .int .i64 _) rfl) ?_
  refine dw_pure (i := 4) rfl (by decide +kernel) (pv_sliceHi i rfl rfl rfl rfl rfl (by omega)) ?_
  have R1 := row_take R i
  have R2 := row_drop (k := i + 1) (cap := cQ) R hi hc
  refine dw_pure (i := 6) rfl (by decide +kernel) (pv_fieldAddr rfl rfl rfl rfl 6 rfl) ?_
  refine dw_load (i := 7) rfl (by decide +kernel) ?_
  refine op_loadP 0 (v := .slice _ _ _) rfl rfl rfl rfl ?_
  refine dw_pure (i := 8) rfl (by decide +kernel) (pv_move (v := .int .i64 _) rfl) ?_
  refine dw_pure (i := 9) rfl (by decide +kernel) (pv_arith rfl (by omega)) ?_
  refine dw_pure (i := 10) rfl (by decide +kernel) (pv_sliceLo (i + 1) rfl rfl (by omega) rfl rfl (by omega) hc) ?_
  refine dw_eff (i := 0) rfl (by decide +kernel) ?_
  refine op_buildSlice (zc := [_, _, _]) (vs := []) (cs := []) rfl rfl rfl rfl rfl rfl rfl fun b5 hb5 => ?_
  refine ⟨ext_newM hb5 _, ?_⟩
  refine dw_norm [_, _, _] rfl ?_
  refine dw_eff (i := 5) rfl (by decide +kernel) ?_
  refine op_appendR 2 accR_new rfl rfl rfl (fun V => R1.2.ext (Ext.trans (Ext.refl _) (ext_wl V))) ((flat_len R1.1).trans (congrArg (· * 3) el)) (flat_plain pinP (m.pins.take i)) rfl rfl rfl rfl rfl rfl rfl (by omega) rfl (by have e1 := flat_len R1.1; rw [List.length_nil]; omega) fun a1 h1a E1a ha1 => ?_
  refine ⟨ext_wlm E1a _, ?_⟩
  refine dw_norm [_, _, _] rfl ?_
  refine dw_last (i := 11) rfl (by decide +kernel) (by decide +kernel) ?_
  refine op_appendR 2 ha1 rfl rfl rfl (fun V => R2.2.ext (Ext.trans E1a (ext_wl V))) ((flat_len R2.1).trans (congrArg (· * 3) ed)) (flat_plain pinP (m.pins.drop (i + 1))) rfl rfl rfl rfl rfl rfl rfl (by omega) rfl (by have e1 := flat_len R1.1; have e2 := flat_len R2.1; rw [List.nil_append]; omega) fun a2 h2a E2a ha2 => ?_
  refine dw_norm [_, _, _] rfl ?_
  refine dw_pure (i := 12) rfl (by decide +kernel) (pv_fieldAddr rfl rfl rfl rfl 6 rfl) ?_
  refine dw_last (i := 13) rfl (by decide +kernel) (by decide +kernel) ?_
  refine op_storeP 0 (v := .slice _ _ _) (vs := [_]) (c' := [_, _, _, _, _, _, _, _, _]) rfl rfl rfl rfl rfl rfl rfl rfl rfl ?_
  refine dw_norm [_, _, _] rfl ?_
  refine dw_end rfl ?_
  refine xp_seq ?_
  refine xp_region rfl ?_
  refine op_loadPA 0 (vs := [.int .i64 _, .int .i64 _, .int .i64 _, .int .i64 _, .int .i64 _, .slice _ _ _, .slice _ _ _, .slice _ _ _, .slice _ _ _]) rfl rfl rfl rfl rfl ?_
  refine op_storeP 1 (v := .agg #[.int .i64 _, .int .i64 _, .int .i64 _, .int .i64 _, .int .i64 _, .slice _ _ _, .slice _ _ _, .slice _ _ _, .slice _ _ _]) (vs := [_, _, _, _, _, _, _, _, _]) (c' := [_, _, _, _, _, _, _, _, _]) rfl rfl rfl rfl rfl rfl rfl rfl rfl ?_
  refine wp_norm [_, _, _] rfl ?_
  have ha3 : AccR 36 3 ((m.pins.eraseIdx i).flatMap pinC) a2 := by rw [ee, List.flatMap_append]; exact ha2
  obtain ⟨p8, A8, n8, c8⟩ := a2
  obtain rfl : n8 = (m.pins.eraseIdx i).length := by have := AccR.len ha3; rw [flat_len (m := 3) (fun _ _ => rfl)] at this; dsimp only at this; omega
  refine xp_ret ?_
  refine res_list (vs := [_]) Try.results64 ⟨resV_agg 1 rfl rfl rfl rfl rfl (vs := [.int .i64 _, .int .i64 _, .int .i64 _, .int .i64 _, .int .i64 _, .slice _ _ _, .slice _ _ _, .slice _ _ _, .slice _ _ _]) rfl, trivial⟩ fun V => ?_
  exact ⟨(Ext.trans (Ext.trans E1a E2a) (ext_wl V)), A8, c8, rfl, row_acc (i := 2) ha3 (by omega) (fun _ _ => rfl) V rfl, AccP.cap ha3 (by omega)⟩
set_option maxHeartbeats 2000000 in
theorem WithoutLinkR_ok (m : MachP) (i : Nat) (hi : i < m.links.length) (hl : m.links.length < 2 ^ 20) (AB AQ AL AW : Option Addr) (cB cQ cL cW : Nat) (hc : m.links.length ≤ cL) (h : AH) (R : Row h 4 linkC AL m.links) :
    FnT Try.prog 126 #[machV AB AQ AL AW cB cQ cL cW m, .int .i64 i] h (fun v h' => ∃ A c, v = machV AB AQ A AW cB cQ c cW { m with links := m.links.eraseIdx i } ∧ Row h' 4 linkC A (m.links.eraseIdx i) ∧ (m.links.eraseIdx i).length ≤ c) := by
  have el : (m.links.take i).length = i := by rw [List.length_take]; omega
  have ee : m.links.eraseIdx i = m.links.take i ++ m.links.drop (i + 1) := List.eraseIdx_eq_take_drop_succ ..
  have ed : (m.links.drop (i + 1)).length = m.links.length - (i + 1) := List.length_drop ..
  refine call_body Try.func126 rfl Try.ntmps126 rfl ?_
  refine xp_seq ?_
  refine xp_region rfl ?_
  refine op_box (v := .agg #[.int .i64 _, .int .i64 _, .int .i64 _, .int .i64 _, .int .i64 _, .slice _ _ _, .slice _ _ _, .slice _ _ _, .slice _ _ _]) (cs := [_, _, _, _, _, _, _, _, _]) rfl rfl fun b2 hb2 => ?_
  refine wp_norm [_] rfl ?_
  refine op_alloc (cs := [_, _, _, _, _, _, _, _, _]) rfl rfl fun b4 hb4 => ?_
  refine wp_norm [_, _] rfl ?_
  refine xp_seq ?_
  refine xp_dw [false, false, true] rfl rfl rfl ?_
  refine dw_pure (i := 1) rfl (by decide +kernel) (pv_fieldAddr rfl rfl rfl rfl 7 rfl) ?_
  refine dw_load (i := 2) rfl (by decide +kernel) ?_
  refine op_loadP 0 (v := .slice _ _ _) rfl rfl rfl rfl ?_
  refine dw_pure (i := 3) rfl (by decide +kernel) (pv_move (v := .int .i64 _) rfl) ?_
  refine dw_pure (i := 4) rfl (by decide +kernel) (pv_sliceHi i rfl rfl rfl rfl rfl (by omega)) ?_
  have R1 := row_take R i
  have R2 := row_drop (k := i + 1) (cap := cL) R hi hc
  refine dw_pure (i := 6) rfl (by decide +kernel) (pv_fieldAddr rfl rfl rfl rfl 7 rfl) ?_
  refine dw_load (i := 7) rfl (by decide +kernel) ?_
  refine op_loadP 0 (v := .slice _ _ _) rfl rfl rfl rfl ?_
  refine dw_pure (i := 8) rfl (by decide +kernel) (pv_move (v := .int .i64 _) rfl) ?_
  refine dw_pure (i := 9) rfl (by decide +kernel) (pv_arith rfl (by omega)) ?_
  refine dw_pure (i := 10) rfl (by decide +kernel) (pv_sliceLo (i + 1) rfl rfl (by omega) rfl rfl (by omega) hc) ?_
  refine dw_eff (i := 0) rfl (by decide +kernel) ?_
  refine op_buildSlice (zc := [_, _, _, _]) (vs := []) (cs := []) rfl rfl rfl rfl rfl rfl rfl fun b5 hb5 => ?_
  refine ⟨ext_newM hb5 _, ?_⟩
  refine dw_norm [_, _, _] rfl ?_
  refine dw_eff (i := 5) rfl (by decide +kernel) ?_
  refine op_appendR 2 accR_new rfl rfl rfl (fun V => R1.2.ext (Ext.trans (Ext.refl _) (ext_wl V))) ((flat_len R1.1).trans (congrArg (· * 4) el)) (flat_plain linkP (m.links.take i)) rfl rfl rfl rfl rfl rfl rfl (by omega) rfl (by have e1 := flat_len R1.1; rw [List.length_nil]; omega) fun a1 h1a E1a ha1 => ?_
  refine ⟨ext_wlm E1a _, ?_⟩
  refine dw_norm [_, _, _] rfl ?_
  refine dw_last (i := 11) rfl (by decide +kernel) (by decide +kernel) ?_
  refine op_appendR 2 ha1 rfl rfl rfl (fun V => R2.2.ext (Ext.trans E1a (ext_wl V))) ((flat_len R2.1).trans (congrArg (· * 4) ed)) (flat_plain linkP (m.links.drop (i + 1))) rfl rfl rfl rfl rfl rfl rfl (by omega) rfl (by have e1 := flat_len R1.1; have e2 := flat_len R2.1; rw [List.nil_append]; omega) fun a2 h2a E2a ha2 => ?_
  refine dw_norm [_, _, _] rfl ?_
  refine dw_pure (i := 12) rfl (by decide +kernel) (pv_fieldAddr rfl rfl rfl rfl 7 rfl) ?_
  refine dw_last (i := 13) rfl (by decide +kernel) (by decide +kernel) ?_
  refine op_storeP 0 (v := .slice _ _ _) (vs := [_]) (c' := [_, _, _, _, _, _, _, _, _]) rfl rfl rfl rfl rfl rfl rfl rfl rfl ?_
  refine dw_norm [_, _, _] rfl ?_
  refine dw_end rfl ?_
  refine xp_seq ?_
  refine xp_region rfl ?_
  refine op_loadPA 0 (vs := [.int .i64 _, .int .i64 _, .int .i64 _, .int .i64 _, .int .i64 _, .slice _ _ _, .slice _ _ _, .slice _ _ _, .slice _ _ _]) rfl rfl rfl rfl rfl ?_
  refine op_storeP 1 (v := .agg #[.int .i64 _, .int .i64 _, .int .i64 _, .int .i64 _, .int .i64 _, .slice _ _ _, .slice _ _ _, .slice _ _ _, .slice _ _ _]) (vs := [_, _, _, _, _, _, _, _, _]) (c' := [_, _, _, _, _, _, _, _, _]) rfl rfl rfl rfl rfl rfl rfl rfl rfl ?_
  refine wp_norm [_, _, _] rfl ?_
  have ha3 : AccR 39 4 ((m.links.eraseIdx i).flatMap linkC) a2 := by rw [ee, List.flatMap_append]; exact ha2
  obtain ⟨p8, A8, n8, c8⟩ := a2
  obtain rfl : n8 = (m.links.eraseIdx i).length := by have := AccR.len ha3; rw [flat_len (m := 4) (fun _ _ => rfl)] at this; dsimp only at this; omega
  refine xp_ret ?_
  refine res_list (vs := [_]) Try.results126 ⟨resV_agg 1 rfl rfl rfl rfl rfl (vs := [.int .i64 _, .int .i64 _, .int .i64 _, .int .i64 _, .int .i64 _, .slice _ _ _, .slice _ _ _, .slice _ _ _, .slice _ _ _]) rfl, trivial⟩ fun V => ?_
  exact ⟨(Ext.trans (Ext.trans E1a E2a) (ext_wl V)), A8, c8, rfl, row_acc (i := 2) ha3 (by omega) (fun _ _ => rfl) V rfl, AccP.cap ha3 (by omega)⟩
def conK : Nat → Nat → FaultP
  | 0 => .shut
  | 1 => .opn
  | 2 => .pin
  | _ => .link
def cntK (m : MachP) : Nat → Nat
  | 0 => m.levers.toNat
  | 1 => m.levers.toNat
  | 2 => m.pins.length
  | 3 => m.links.length
  | _ => 0
def fsK (m : MachP) : Nat → List FaultP
  | 0 => []
  | q + 1 => fsK m q ++ fsN (conK q) (cntK m q)
theorem fsK4 (m : MachP) : fsK m 4 = faultsM m := by simp [fsK, faultsM, fs3, fs2, fs1, conK, cntK]
theorem toldK {q : Nat} (hq : q < 4) (i : Nat) : toldC (conK q i) = [.int .i64 ((q : Int) + 1), .int .i64 i] := by
  match q, hq with
  | 0, _ => rfl
  | 1, _ => rfl
  | 2, _ => rfl
  | 3, _ => rfl
theorem cntK_at {m : MachP} {q : Nat} (hq : q < 4) (h0 : 0 ≤ m.levers) : [m.levers, m.levers, (m.pins.length : Int), (m.links.length : Int)].getD q 0 = (cntK m q : Nat) := by
  match q, hq with
  | 0, _ => show m.levers = (m.levers.toNat : Int); omega
  | 1, _ => show m.levers = (m.levers.toNat : Int); omega
  | 2, _ => rfl
  | 3, _ => rfl
theorem cntK_le {m : MachP} (M : MOK m) (q : Nat) : cntK m q ≤ 8 := by
  have := M.levers
  have := M.pl
  have := M.ll
  match q with
  | 0 => show m.levers.toNat ≤ 8; omega
  | 1 => show m.levers.toNat ≤ 8; omega
  | 2 => show m.pins.length ≤ 8; omega
  | 3 => show m.links.length ≤ 8; omega
  | q + 4 => exact Nat.zero_le _
theorem fsK_len {m : MachP} (M : MOK m) : ∀ q, (fsK m q).length ≤ 8 * q
  | 0 => Nat.le_refl _
  | q + 1 => by
    have h1 := fsK_len M q
    have h2 := cntK_le M q
    rw [fsK, List.length_append, fsN_len]
    omega
set_option maxHeartbeats 2000000 in
theorem faultsR_ok (m : MachP) (M : MOK m) (AB AQ AL AW : Option Addr) (cB cQ cL cW : Nat) (h : AH) :
    FnT Try.prog 95 #[machV AB AQ AL AW cB cQ cL cW m] h (fun v h' => SlR h' 2 toldC (faultsM m) v) := by
  have mlv := M.levers
  have mpl := M.pl
  have mll := M.ll
  refine call_body Try.func95 rfl Try.ntmps95 rfl ?_
  refine xp_seq ?_
  refine xp_region rfl ?_
  refine op_box (v := .agg #[.int .i64 _, .int .i64 _, .int .i64 _, .int .i64 _, .int .i64 _, .slice _ _ _, .slice _ _ _, .slice _ _ _, .slice _ _ _]) (cs := [_, _, _, _, _, _, _, _, _]) rfl rfl fun b1 hb1 => ?_
  refine wp_norm [_] rfl ?_
  refine op_pure (pv_assign (v := .slice _ _ _) rfl) ?_
  refine goes_more ?_
  refine goes_norm [_, _] rfl ?_
  refine xp_seq ?_
  refine xp_region rfl ?_
  refine op_pure (pv_assign (v := .slice _ _ _) rfl) ?_
  refine xp_seq ?_
  refine xp_region rfl ?_
  refine op_pure (pv_fieldAddr rfl rfl rfl rfl 1 rfl) ?_
  refine op_loadP 0 (v := .int .i64 _) rfl rfl rfl rfl ?_
  refine op_pure (pv_fieldAddr rfl rfl rfl rfl 1 rfl) ?_
  refine op_loadP 0 (v := .int .i64 _) rfl rfl rfl rfl ?_
  refine op_pure (pv_fieldAddr rfl rfl rfl rfl 6 rfl) ?_
  refine op_loadP 0 (v := .slice _ _ _) rfl rfl rfl rfl ?_
  refine op_pure (pv_len rfl rfl) ?_
  refine op_pure (pv_fieldAddr rfl rfl rfl rfl 7 rfl) ?_
  refine op_loadP 0 (v := .slice _ _ _) rfl rfl rfl rfl ?_
  refine op_pure (pv_len rfl rfl) ?_
  refine op_buildSlice (zc := [_]) (vs := [(0, .int .i64 _), (1, .int .i64 _), (2, .int .i64 _), (3, .int .i64 _)]) (cs := [_, _, _, _]) rfl rfl rfl rfl rfl rfl rfl fun b17 hb17 => ?_
  refine wp_norm [_, _, _] rfl ?_
  refine op_pure (pv_assign (v := .slice _ _ _) rfl) ?_
  refine xp_seq ?_
  refine xp_seq ?_
  refine xp_region rfl ?_
  refine op_pure (pv_assign (v := .int .i64 _) rfl) ?_
  refine xp_block ?_
  refine xp_loopL [3, 5, 6, 18, 19, 20, 21, 22, 23, 24, 25, 26, 27, 28, 29, 30, 31, 32, 33, 34, 35, 36] 3 (α := Nat × Acc) (fun ⟨q, a⟩ => [(5, .int .i64 ((q : Int) + 1)), (3, .slice a.A a.n a.c)]) (fun ⟨q, a⟩ L => L.set 1 (a.p)) (fun ⟨q, a⟩ h_q => q ≤ 4 ∧ AccR 87 2 ((fsK m q).flatMap toldC) a) (fun ⟨q, a⟩ => 4 - q) ((0, acc0)) ⟨rfl, rfl, trivial⟩ (rfl) (⟨Nat.zero_le _, accR0⟩) ?_
  rintro ⟨q, a⟩ T1 h_q E_q J_q
  refine goes_norm [_, _, _] rfl ?_
  obtain ⟨J1, J2⟩ := J_q
  refine xp_seq ?_
  refine xp_seq ?_
  refine xp_region rfl ?_
  refine op_pure (pv_move (v := .int .i64 _) rfl) ?_
  refine op_pure (pv_of (v := .bool _) rfl) ?_
  refine xp_cond rfl (fun hq => ?_) (fun hq => ?_)
  · skip
    have hql : q < 4 := by have := of_decide_eq_true hq; omega
    have hcn := cntK_at (m := m) hql (by omega)
    have hcl := cntK_le M q
    have hfl := fsK_len M q
    refine xp_skip ?_
    refine xp_seq ?_
    refine xp_block ?_
    refine xp_seq ?_
    refine xp_region rfl ?_
    refine op_pure (pv_assign (v := .int .i64 _) rfl) ?_
    refine xp_block ?_
    refine xp_loopL [3, 6, 22, 23, 24, 25, 26, 27, 28, 29, 30, 31, 32, 33, 34, 35, 36] 3 (α := Nat × Acc) (fun ⟨i, a2⟩ => [(6, .int .i64 i), (3, .slice a2.A a2.n a2.c)]) (fun ⟨i, a2⟩ L => L.set 1 (a2.p)) (fun ⟨i, a2⟩ h_i => i ≤ cntK m q ∧ AccR 87 2 ((fsK m q ++ fsN (conK q) i).flatMap toldC) a2) (fun ⟨i, a2⟩ => cntK m q - i) ((0, a)) ⟨rfl, rfl, trivial⟩ (rfl) (⟨Nat.zero_le _, by simpa [fsN] using J2⟩) ?_
    rintro ⟨i, a2⟩ T2 h_i E_i J_i
    refine goes_norm [_, _, _] rfl ?_
    obtain ⟨K1, K2⟩ := J_i
    refine xp_seq ?_
    refine xp_seq ?_
    refine xp_region rfl ?_
    refine op_pure (pv_move (v := .int .i64 _) rfl) ?_
    refine op_pure (pv_move (v := .slice _ _ _) rfl) ?_
    refine op_pure (pv_move (v := .int .i64 _) rfl) ?_
    refine op_pure (pv_arith rfl (by omega)) ?_
    refine op_pure (pv_index (m := 1) rfl rfl rfl rfl (by omega) (by omega)) ?_
    refine op_loadP 2 (v := .int .i64 (cntK m q : Nat)) rfl rfl rfl (by rw [← hcn]; exact tV_at (t := [m.levers, m.levers, (m.pins.length : Int), (m.links.length : Int)]) (by omega) hql) ?_
    refine op_pure (pv_of (v := .bool _) rfl) ?_
    refine xp_cond rfl (fun hi => ?_) (fun hi => ?_)
    · skip
      have hil : i < cntK m q := ltI hi
      have hln : ((fsK m q ++ fsN (conK q) i).flatMap toldC).length = ((fsK m q).length + i) * 2 := by rw [flat_len (m := 2) (fun x _ => toldM x), List.length_append, fsN_len]
      refine xp_skip ?_
      refine xp_seq ?_
      refine xp_block ?_
      refine xp_region rfl ?_
      refine op_pure (pv_move (v := .slice _ _ _) rfl) ?_
      refine op_pure (pv_move (v := .int .i64 _) rfl) ?_
      refine op_pure (pv_move (v := .int .i64 _) rfl) ?_
      refine op_pure (pv_build (zc := [_, _]) (vs := [(0, .int .i64 _), (1, .int .i64 _)]) (cs := [_, _]) rfl rfl rfl rfl rfl rfl) ?_
      refine op_buildSlice (zc := [_, _]) (vs := [(0, .agg #[.int .i64 _, .int .i64 _])]) (cs := [_, _]) rfl rfl rfl rfl rfl rfl rfl fun b35 hb35 => ?_
      refine wp_norm [_, _, _, _] rfl ?_
      refine op_appendR 1 K2 rfl rfl rfl (fun V => rdP V (i := 3) rfl) rfl rfl rfl rfl rfl rfl rfl rfl rfl (by omega) rfl (by rw [hln]; simp; omega) fun a4 h3a E3a ha4 => ?_
      refine wp_norm [_, _, _, _] rfl ?_
      refine op_pure (pv_assign (v := .slice _ _ _) rfl) ?_
      refine xp_region rfl ?_
      refine op_pure (pv_move (v := .int .i64 _) rfl) ?_
      refine op_pure (pv_arith rfl (by omega)) ?_
      refine op_pure (pv_assign (v := .int .i64 _) rfl) ?_
      refine ⟨(i + 1, a4), ⟨rfl, rfl, trivial⟩, rfl, rfl, (Ext.trans E_i E3a), fun h3 E3 => ⟨hil, by rw [fsN_succ, ← List.append_assoc, List.flatMap_append, List.flatMap_cons, List.flatMap_nil, List.append_nil, toldK hql]; exact ha4⟩, by first | omega | (dsimp only; omega), ?_⟩
      repeat (first | exact off_base _ _ _ | refine off_upd (by decide) ?_ | refine off_updL rfl ?_ | refine off_mix rfl ?_)
    · skip
      have hie : i = cntK m q := by have := geI hi; omega
      subst hie
      refine xp_exit ?_
      refine xp_region rfl ?_
      refine op_pure (pv_move (v := .int .i64 _) rfl) ?_
      refine op_pure (pv_arith rfl (by omega)) ?_
      refine op_pure (pv_assign (v := .int .i64 _) rfl) ?_
      refine ⟨(q + 1, a2), ⟨intE (by omega), rfl, trivial⟩, rfl, rfl, (Ext.trans E_q E_i), fun h3 E3 => ⟨hql, K2⟩, by first | omega | (dsimp only; omega), ?_⟩
      repeat (first | exact off_base _ _ _ | refine off_upd (by decide) ?_ | refine off_updL rfl ?_ | refine off_mix rfl ?_)
  · skip
    have hqe : q = 4 := by have := of_decide_eq_false hq; omega
    subst hqe
    rw [fsK4] at J2
    refine xp_exit ?_
    refine xp_seq ?_
    refine xp_region rfl ?_
    refine op_pure (pv_move (v := .slice _ _ _) rfl) ?_
    refine op_pure (pv_assign (v := .slice _ _ _) rfl) ?_
    refine xp_ret ?_
    refine res_list (vs := [_]) Try.results95 ⟨resV_tmp rfl rfl, trivial⟩ fun V => ?_
    exact ⟨(Ext.trans E_q (ext_wl V)), AccP.row (i := 1) J2 (by omega) (fun x _ => toldM x) V rfl⟩
theorem FaultsR_ok (m : MachP) (M : MOK m) (AB AQ AL AW : Option Addr) (cB cQ cL cW : Nat) (h : AH) (RM : MachR h AB AQ AL AW m) :
    FnT Try.prog 48 #[machV AB AQ AL AW cB cQ cL cW m] h (fun v h' => ∃ L, v = .tuple #[L, .int .i64 0] ∧ SlR h' 2 toldC (faultsM m) L) := by
  refine call_body Try.func48 rfl Try.ntmps48 rfl ?_
  refine xp_seq ?_
  refine xp_region rfl ?_
  refine op_box (v := .agg #[.int .i64 _, .int .i64 _, .int .i64 _, .int .i64 _, .int .i64 _, .slice _ _ _, .slice _ _ _, .slice _ _ _, .slice _ _ _]) (cs := [_, _, _, _, _, _, _, _, _]) rfl rfl fun b1 hb1 => ?_
  refine wp_norm [_] rfl ?_
  refine op_pure (pv_assign (v := .slice _ _ _) rfl) ?_
  refine op_pure (pv_assign (v := .int .i64 _) rfl) ?_
  refine xp_seq ?_
  refine xp_seq ?_
  refine xp_region rfl ?_
  refine op_loadPA 0 (vs := [.int .i64 _, .int .i64 _, .int .i64 _, .int .i64 _, .int .i64 _, .slice _ _ _, .slice _ _ _, .slice _ _ _, .slice _ _ _]) rfl rfl rfl rfl rfl ?_
  refine op_fn (caps := []) (vs := [.agg #[.int .i64 _, .int .i64 _, .int .i64 _, .int .i64 _, .int .i64 _, .slice _ _ _, .slice _ _ _, .slice _ _ _, .slice _ _ _]]) rfl rfl rfl (CheckR_ok m M AB AQ AL AW cB cQ cL cW h (RM.ext (Ext.refl _))) ?_
  rintro _ h3 E3 rfl
  refine op_pure (pv_assign (v := .int .i64 _) rfl) ?_
  refine xp_seq ?_
  refine xp_region rfl ?_
  refine op_pure (pv_move (v := .int .i64 _) rfl) ?_
  refine op_pure (pv_of (v := .bool _) rfl) ?_
  refine xp_condF rfl (rfl) ?_
  refine xp_skip ?_
  refine xp_seq ?_
  refine xp_region rfl ?_
  refine op_loadPA 0 (vs := [.int .i64 _, .int .i64 _, .int .i64 _, .int .i64 _, .int .i64 _, .slice _ _ _, .slice _ _ _, .slice _ _ _, .slice _ _ _]) rfl rfl rfl rfl rfl ?_
  refine op_fn (caps := []) (vs := [.agg #[.int .i64 _, .int .i64 _, .int .i64 _, .int .i64 _, .int .i64 _, .slice _ _ _, .slice _ _ _, .slice _ _ _, .slice _ _ _]]) rfl rfl rfl (faultsR_ok m M AB AQ AL AW cB cQ cL cW h3) ?_
  rintro _ h4 E4 ⟨A4, c4, rfl, S4⟩
  refine op_pure (pv_assign (v := .slice _ _ _) rfl) ?_
  refine op_pure (pv_assign (v := .int .i64 _) rfl) ?_
  refine xp_ret ?_
  refine res_list (vs := [_, _]) Try.results48 ⟨resV_tmp rfl rfl, resV_tmp rfl rfl, trivial⟩ fun V => ?_
  exact ⟨(Ext.trans (Ext.trans E3 E4) (ext_wl V)), _, rfl, A4, c4, rfl, S4.ext (ext_wl V)⟩
end
end Go.Proofs.Ythphpbdmbmiaiaa
/- Plain: a machine without pins and links sounds like one in which they lift and turn nothing. Conditions: none. -/
namespace Go.Rd
open Go Go.HL Go.Wx
variable [Lvl]
/-- m' is m without some pins and links that do nothing. -/
structure Mut (m m' : MachP) : Prop where
  lv : m'.levers = m.levers
  op : m'.opn = m.opn
  tv : m'.travel = m.travel
  bt : m'.buttons = m.buttons
  p1 : ∀ p ∈ m'.pins, p ∈ m.pins
  p2 : ∀ p ∈ m.pins, p.lag = m.travel ∨ p ∈ m'.pins
  l1 : ∀ l ∈ m'.links, l ∈ m.links
  l2 : ∀ l ∈ m.links, l.lag = m.travel ∨ l ∈ m'.links
theorem mut_turn {m m' : MachP} {a : HandP} (X : Mut m m') (F : Fit m a) (F' : Fit m' a) (td : 0 ≤ m.travel) {r : Int} (hr : 0 ≤ r) : turnF m' a m.travel r = turnF m a m.travel r := by
  have c := turned_clo F td
  have c' := turned_clo F' td
  refine Int.le_antisymm ?_ ?_
  · exact turned_least F' (f := turnF m a m.travel) ⟨c.zero, fun b hb => by rw [X.bt]; exact c.press b hb, fun l hl ha => c.link l (X.l1 l hl) ha⟩ r hr
  · refine turned_least F (f := turnF m' a m.travel) ⟨c'.zero, fun b hb => by rw [← X.bt]; exact c'.press b hb, fun l hl ha => ?_⟩ r hr
    rcases X.l2 l hl with e | h
    · have h1 := (turnF_bd F' td l.frm).2
      have h2 := (turnF_bd F' td l.to).1
      rw [e]
      omega
    · exact c'.link l h ha
theorem mut_lift {m m' : MachP} {a : HandP} (X : Mut m m') (F : Fit m a) (F' : Fit m' a) (td : 0 ≤ m.travel) (hp : ∀ p ∈ m.pins, 0 ≤ p.rod ∧ 0 ≤ p.lever) {v : Int} (h0 : 0 ≤ v) (hv : v < m.levers) : liftF m' a m.travel v = liftF m a m.travel v := by
  have i1 := liftF_iff m a m.travel h0 hv (fun p h => (hp p h).2)
  have i2 := liftF_iff m' a m.travel h0 (by rw [X.lv]; exact hv) (fun p h => (hp p (X.p1 p h)).2)
  refine Int.le_antisymm ?_ ?_
  · have k := (i1 (liftF m a m.travel v)).1 (Int.le_refl _)
    refine (i2 _).2 ⟨k.1, fun p h e => ?_⟩
    rw [mut_turn X F F' td (hp p (X.p1 p h)).1]
    exact k.2 p (X.p1 p h) e
  · have k := (i2 (liftF m' a m.travel v)).1 (Int.le_refl _)
    refine (i1 _).2 ⟨k.1, fun p h e => ?_⟩
    rcases X.p2 p h with e2 | h2
    · have h1 := (turnF_bd F td p.rod).2
      rw [e2]
      omega
    · rw [← mut_turn X F F' td (hp p h).1]
      exact k.2 p h2 e
theorem mut_sounds {m m' : MachP} {a : HandP} (X : Mut m m') (F : Fit m a) (F' : Fit m' a) (td : 0 ≤ m.travel) (hp : ∀ p ∈ m.pins, 0 ≤ p.rod ∧ 0 ≤ p.lever) : soundsM m' a m.travel = soundsM m a m.travel := by
  apply Nat.eq_of_testBit_eq
  intro i
  unfold soundsM
  rw [maskOf_bit, maskOf_bit, X.lv]
  by_cases hi : i < m.levers.toNat
  · have e := mut_lift X F F' td hp (v := (i : Int)) (by omega) (by omega)
    unfold liftF at e
    rw [Int.toNat_natCast] at e
    rw [e, X.op]
  · simp [hi]
/-- A list without the things at some places. -/
def keepF {α : Type} (I : Nat → Bool) : Nat → List α → List α
  | _, [] => []
  | k, x :: xs => if I k then keepF I (k + 1) xs else x :: keepF I (k + 1) xs
theorem keepF_congr {α : Type} {I J : Nat → Bool} : ∀ {k : Nat} {xs : List α}, (∀ j, k ≤ j → I j = J j) → keepF I k xs = keepF J k xs
  | _, [], _ => rfl
  | k, x :: xs, h => by
    rw [keepF, keepF, h k (Nat.le_refl _), keepF_congr (k := k + 1) (xs := xs) fun j hj => h j (by omega)]
theorem keepF_erase {α : Type} {I : Nat → Bool} : ∀ (i k : Nat) (xs : List α), (∀ j, k ≤ j → j ≤ k + i → I j = false) → (keepF I k xs).eraseIdx i = keepF (fun j => j == k + i || I j) k xs
  | _, _, [], _ => by simp [keepF]
  | 0, k, x :: xs, h => by
    rw [keepF, keepF, h k (Nat.le_refl _) (by omega)]
    simp only [Nat.add_zero, BEq.rfl, Bool.true_or, if_true, Bool.false_eq_true, if_false]
    rw [List.eraseIdx_cons_zero]
    exact keepF_congr fun j hj => by
      have : (j == k) = false := by simp; omega
      rw [this, Bool.false_or]
  | i + 1, k, x :: xs, h => by
    have e : (k == k + (i + 1)) = false := by simp
    rw [keepF, keepF, h k (Nat.le_refl _) (by omega), e]
    simp only [Bool.false_or, Bool.false_eq_true, if_false]
    rw [List.eraseIdx_cons_succ, keepF_erase i (k + 1) xs (fun j h1 h2 => h j (by omega) (by omega)), show k + 1 + i = k + (i + 1) by omega]
theorem keepF_mem {α : Type} {I : Nat → Bool} {p : α} : ∀ {k : Nat} {xs : List α}, p ∈ keepF I k xs ↔ ∃ j, xs[j]? = some p ∧ I (k + j) = false
  | _, [] => by simp [keepF]
  | k, x :: xs => by
    have ih := keepF_mem (I := I) (p := p) (k := k + 1) (xs := xs)
    rw [keepF]
    constructor
    · intro h
      by_cases hI : I k = true
      · rw [if_pos hI, ih] at h
        obtain ⟨j, h1, h2⟩ := h
        exact ⟨j + 1, by simpa using h1, by rw [← h2]; congr 1; omega⟩
      · rw [if_neg hI, List.mem_cons] at h
        rcases h with rfl | h
        · exact ⟨0, rfl, by simpa using hI⟩
        · obtain ⟨j, h1, h2⟩ := ih.1 h
          exact ⟨j + 1, by simpa using h1, by rw [← h2]; congr 1; omega⟩
    · rintro ⟨j, h1, h2⟩
      cases j with
      | zero =>
        have e : x = p := by simpa using h1
        rw [if_neg (by rw [show k = k + 0 from rfl, h2]; decide)]
        exact List.mem_cons.2 (.inl e.symm)
      | succ j =>
        have hm : p ∈ keepF I (k + 1) xs := ih.2 ⟨j, by simpa using h1, by rw [← h2]; congr 1; omega⟩
        by_cases hI : I k = true
        · rw [if_pos hI]; exact hm
        · rw [if_neg hI]; exact List.mem_cons.2 (.inr hm)
def isPin (j : Nat) : FaultP → Bool
  | .pin i => j == i
  | _ => false
def isLink (j : Nat) : FaultP → Bool
  | .link i => j == i
  | _ => false
def rmF (o : MachP) : FaultP → MachP
  | .pin i => { o with pins := o.pins.eraseIdx i }
  | .link i => { o with links := o.links.eraseIdx i }
  | _ => o
/-- The machine without the pins and links of some faults, the last one first. -/
def ownR (m : MachP) (fs : List FaultP) : MachP := fs.foldr (fun f o => rmF o f) m
/-- Pins, and links, come in order. -/
def AscF (f g : FaultP) : Prop := (∀ i j, f = .pin i → g = .pin j → i < j) ∧ (∀ i j, f = .link i → g = .link j → i < j)
theorem own_pins (m : MachP) : ∀ {fs : List FaultP}, fs.Pairwise AscF → (ownR m fs).pins = keepF (fun j => fs.any (isPin j)) 0 m.pins ∧ (ownR m fs).links = keepF (fun j => fs.any (isLink j)) 0 m.links
  | [], _ => by
    have key : ∀ {α : Type} (k : Nat) (xs : List α), keepF (fun _ => false) k xs = xs := by
      intro α k xs
      induction xs generalizing k with
      | nil => rfl
      | cons x xs ih => rw [keepF, ih]; rfl
    exact ⟨(key 0 m.pins).symm, (key 0 m.links).symm⟩
  | f :: fs, h => by
    rw [List.pairwise_cons] at h
    obtain ⟨e1, e2⟩ := own_pins m h.2
    have eo : ownR m (f :: fs) = rmF (ownR m fs) f := rfl
    rw [eo]
    cases f with
    | shut i => exact ⟨by simpa [rmF, isPin] using e1, by simpa [rmF, isLink] using e2⟩
    | opn i => exact ⟨by simpa [rmF, isPin] using e1, by simpa [rmF, isLink] using e2⟩
    | pin i =>
      refine ⟨?_, by simpa [rmF, isLink] using e2⟩
      show (ownR m fs).pins.eraseIdx i = _
      rw [e1, keepF_erase i 0 m.pins (fun j _ hj => by
        rw [List.any_eq_false]
        intro g hg hgp
        cases g with
        | pin q =>
          have e : j = q := by simpa [isPin] using hgp
          have := (h.1 _ hg).1 i q rfl rfl
          omega
        | _ => simp [isPin] at hgp)]
      simp [isPin]
    | link i =>
      refine ⟨by simpa [rmF, isPin] using e1, ?_⟩
      show (ownR m fs).links.eraseIdx i = _
      rw [e2, keepF_erase i 0 m.links (fun j _ hj => by
        rw [List.any_eq_false]
        intro g hg hgp
        cases g with
        | link q =>
          have e : j = q := by simpa [isLink] using hgp
          have := (h.1 _ hg).2 i q rfl rfl
          omega
        | _ => simp [isLink] at hgp)]
      simp [isLink]
theorem own_same (m : MachP) : ∀ fs : List FaultP, (ownR m fs).rods = m.rods ∧ (ownR m fs).levers = m.levers ∧ (ownR m fs).regs = m.regs ∧ (ownR m fs).travel = m.travel ∧ (ownR m fs).opn = m.opn ∧ (ownR m fs).buttons = m.buttons ∧ (ownR m fs).weights = m.weights
  | [] => ⟨rfl, rfl, rfl, rfl, rfl, rfl, rfl⟩
  | f :: fs => by
    have ih := own_same m fs
    have eo : ownR m (f :: fs) = rmF (ownR m fs) f := rfl
    rw [eo]
    cases f <;> exact ih
theorem lagP_get (ps : List PinP) (i : Nat) (t : Int) (j : Nat) : (lagP ps i t)[j]? = (ps[j]?).map fun p => if j == i then ⟨p.rod, p.lever, t⟩ else p := by
  unfold lagP
  split
  · rename_i p hp
    rw [List.getElem?_set]
    by_cases h : i = j
    · subst h
      have hl := (List.getElem?_eq_some_iff.1 hp).1
      rw [if_pos rfl, if_pos hl, hp]
      simp
    · have h' : (j == i) = false := by simp; omega
      rw [if_neg h, h']
      simp
  · rename_i hp
    by_cases h : j = i
    · subst h; rw [hp]; rfl
    · have h' : (j == i) = false := by simp; omega
      rw [h']
      simp
theorem lagL_get (ls : List LinkP) (i : Nat) (t : Int) (j : Nat) : (lagL ls i t)[j]? = (ls[j]?).map fun x => if j == i then ⟨x.frm, x.to, x.reg, t⟩ else x := by
  unfold lagL
  split
  · rename_i p hp
    rw [List.getElem?_set]
    by_cases h : i = j
    · subst h
      have hl := (List.getElem?_eq_some_iff.1 hp).1
      rw [if_pos rfl, if_pos hl, hp]
      simp
    · have h' : (j == i) = false := by simp; omega
      rw [if_neg h, h']
      simp
  · rename_i hp
    by_cases h : j = i
    · subst h; rw [hp]; rfl
    · have h' : (j == i) = false := by simp; omega
      rw [h']
      simp
theorem brk_get {t : Int} : ∀ (fs : List FaultP) (b : BrkP) (j : Nat), (fs.foldl (brkS t) b).pins[j]? = (b.pins[j]?).map (fun p => if fs.any (isPin j) then ⟨p.rod, p.lever, t⟩ else p) ∧ (fs.foldl (brkS t) b).links[j]? = (b.links[j]?).map (fun x => if fs.any (isLink j) then ⟨x.frm, x.to, x.reg, t⟩ else x)
  | [], b, j => by simp
  | f :: fs, b, j => by
    obtain ⟨e1, e2⟩ := brk_get (t := t) fs (brkS t b f) j
    rw [List.foldl_cons, e1, e2]
    cases f with
    | shut i => simp [brkS, isPin, isLink]
    | opn i => simp [brkS, isPin, isLink]
    | pin i =>
      refine ⟨?_, by simp [brkS, isLink]⟩
      show ((lagP b.pins i t)[j]?).map _ = _
      rw [lagP_get, Option.map_map]
      congr 1
      funext p
      simp only [Function.comp, List.any_cons, isPin]
      by_cases h : j = i
      · subst h; simp
      · simp [h]
    | link i =>
      refine ⟨by simp [brkS, isPin], ?_⟩
      show ((lagL b.links i t)[j]?).map _ = _
      rw [lagL_get, Option.map_map]
      congr 1
      funext p
      simp only [Function.comp, List.any_cons, isLink]
      by_cases h : j = i
      · subst h; simp
      · simp [h]
theorem own_mut {m : MachP} {fs : List FaultP} (h : fs.Pairwise AscF) : Mut (brkM m fs) (ownR m fs) := by
  obtain ⟨e1, e2⟩ := own_pins m h
  obtain ⟨_, s2, _, s4, s5, s6, _⟩ := own_same m fs
  have g := fun j => brk_get (t := m.travel) fs ⟨m.pins, m.links, 0, 0⟩ j
  refine ⟨s2, s5, s4, s6, fun p hp => ?_, fun p hp => ?_, fun l hl => ?_, fun l hl => ?_⟩
  · rw [e1, keepF_mem] at hp
    obtain ⟨j, h1, h2⟩ := hp
    rw [Nat.zero_add] at h2
    refine List.mem_of_getElem? (i := j) ?_
    refine ((g j).1).trans ?_
    show (m.pins[j]?).map _ = _
    rw [h1, h2]; rfl
  · obtain ⟨j, hj⟩ := List.getElem?_of_mem hp
    have e := ((g j).1).symm.trans hj
    rw [show (⟨m.pins, m.links, 0, 0⟩ : BrkP).pins = m.pins from rfl] at e
    rw [Option.map_eq_some_iff] at e
    obtain ⟨q, h1, h2⟩ := e
    by_cases hI : fs.any (isPin j) = true
    · rw [if_pos hI] at h2; subst h2; exact .inl rfl
    · rw [if_neg hI] at h2; subst h2
      exact .inr (by rw [e1, keepF_mem]; exact ⟨j, h1, by rw [Nat.zero_add]; simpa using hI⟩)
  · rw [e2, keepF_mem] at hl
    obtain ⟨j, h1, h2⟩ := hl
    rw [Nat.zero_add] at h2
    refine List.mem_of_getElem? (i := j) ?_
    refine ((g j).2).trans ?_
    show (m.links[j]?).map _ = _
    rw [h1, h2]; rfl
  · obtain ⟨j, hj⟩ := List.getElem?_of_mem hl
    have e := ((g j).2).symm.trans hj
    rw [show (⟨m.pins, m.links, 0, 0⟩ : BrkP).links = m.links from rfl] at e
    rw [Option.map_eq_some_iff] at e
    obtain ⟨q, h1, h2⟩ := e
    by_cases hI : fs.any (isLink j) = true
    · rw [if_pos hI] at h2; subst h2; exact .inl rfl
    · rw [if_neg hI] at h2; subst h2
      exact .inr (by rw [e2, keepF_mem]; exact ⟨j, h1, by rw [Nat.zero_add]; simpa using hI⟩)
theorem own_mem {m : MachP} {fs : List FaultP} : (∀ p ∈ (ownR m fs).pins, p ∈ m.pins) ∧ (∀ l ∈ (ownR m fs).links, l ∈ m.links) ∧ (ownR m fs).pins.length ≤ m.pins.length ∧ (ownR m fs).links.length ≤ m.links.length := by
  induction fs with
  | nil => exact ⟨fun _ h => h, fun _ h => h, Nat.le_refl _, Nat.le_refl _⟩
  | cons f fs ih =>
    have eo : ownR m (f :: fs) = rmF (ownR m fs) f := rfl
    rw [eo]
    obtain ⟨i1, i2, i3, i4⟩ := ih
    cases f with
    | shut i => exact ⟨i1, i2, i3, i4⟩
    | opn i => exact ⟨i1, i2, i3, i4⟩
    | pin i => exact ⟨fun p h => i1 p (List.mem_of_mem_eraseIdx h), i2, Nat.le_trans (List.length_eraseIdx_le _ _) i3, i4⟩
    | link i => exact ⟨i1, fun p h => i2 p (List.mem_of_mem_eraseIdx h), i3, Nat.le_trans (List.length_eraseIdx_le _ _) i4⟩
theorem own_mok {m : MachP} (M : MOK m) (fs : List FaultP) : MOK (ownR m fs) := by
  obtain ⟨s1, s2, s3, s4, s5, s6, s7⟩ := own_same m fs
  obtain ⟨i1, i2, i3, i4⟩ := own_mem (m := m) (fs := fs)
  refine ⟨by rw [s1]; exact M.rods, by rw [s2]; exact M.levers, by rw [s3]; exact M.regs, by rw [s4]; exact M.travel, by rw [s5, s4]; exact M.opn, by rw [s6]; exact M.bl, by rw [s6, s1]; exact M.btn, Nat.le_trans i3 M.pl, ?_, Nat.le_trans i4 M.ll, ?_, by rw [s7, s2]; exact M.wl, by rw [s7]; exact M.wt⟩
  · intro p hp; rw [s1, s2, s4]; exact M.pin p (i1 p hp)
  · intro l hl; rw [s1, s3, s4]; exact M.link l (i2 l hl)
theorem own_hok {m : MachP} {a : HandP} (H : HOK m a) (fs : List FaultP) : HOK (ownR m fs) a := by
  obtain ⟨_, _, s3, _, _, s6, _⟩ := own_same m fs
  exact ⟨by rw [s6]; exact H.b, by rw [s3]; exact H.o⟩
theorem own_sounds {m : MachP} {a : HandP} (M : MOK m) (H : HOK m a) {fs : List FaultP} (h : fs.Pairwise AscF) : soundsM (ownR m fs) a m.travel = soundsM (brkM m fs) a m.travel := by
  have tr := M.travel
  have M2 := brk_mok M fs
  refine mut_sounds (m := brkM m fs) (own_mut h) (fit_of M2 (brk_hok H fs)) (fit_of (own_mok M fs) (own_hok H fs)) (by show 0 ≤ m.travel; omega) fun p hp => ?_
  have := M2.pin p hp
  exact ⟨this.1.1, this.2.1.1⟩
theorem keepF_lt {α : Type} {I : Nat → Bool} : ∀ (i k : Nat) (xs : List α), i < xs.length → (∀ j, k ≤ j → j ≤ k + i → I j = false) → i < (keepF I k xs).length
  | _, _, [], h, _ => by simp at h
  | 0, k, x :: xs, _, h => by
    rw [keepF, h k (Nat.le_refl _) (by omega)]
    simp
  | i + 1, k, x :: xs, hl, h => by
    have ih := keepF_lt i (k + 1) xs (by simpa using hl) (fun j h1 h2 => h j (by omega) (by omega))
    rw [keepF, h k (Nat.le_refl _) (by omega)]
    simpa using ih
theorem own_pin_lt {m : MachP} {fs : List FaultP} {i : Nat} (h : (FaultP.pin i :: fs).Pairwise AscF) (hi : i < m.pins.length) : i < (ownR m fs).pins.length := by
  rw [List.pairwise_cons] at h
  rw [(own_pins m h.2).1]
  refine keepF_lt i 0 m.pins hi fun j _ hj => ?_
  rw [List.any_eq_false]
  intro g hg hgp
  cases g with
  | pin q =>
    have e : j = q := by simpa [isPin] using hgp
    have := (h.1 _ hg).1 i q rfl rfl
    omega
  | _ => simp [isPin] at hgp
theorem own_link_lt {m : MachP} {fs : List FaultP} {i : Nat} (h : (FaultP.link i :: fs).Pairwise AscF) (hi : i < m.links.length) : i < (ownR m fs).links.length := by
  rw [List.pairwise_cons] at h
  rw [(own_pins m h.2).2]
  refine keepF_lt i 0 m.links hi fun j _ hj => ?_
  rw [List.any_eq_false]
  intro g hg hgp
  cases g with
  | link q =>
    have e : j = q := by simpa [isLink] using hgp
    have := (h.1 _ hg).2 i q rfl rfl
    omega
  | _ => simp [isLink] at hgp
/-- The machine without the last k of some faults' pins and links. -/
def ownK (m : MachP) (fs : List FaultP) (k : Nat) : MachP := ownR m (fs.drop (fs.length - k))
theorem ownK_zero (m : MachP) (fs : List FaultP) : ownK m fs 0 = m := by
  unfold ownK
  rw [Nat.sub_zero, List.drop_length]
  rfl
theorem drop_at {fs : List FaultP} {k : Nat} (hk : k < fs.length) : fs.drop (fs.length - (k + 1)) = fs[fs.length - 1 - k]'(by omega) :: fs.drop (fs.length - k) := by
  rw [List.drop_eq_getElem_cons (show fs.length - (k + 1) < fs.length by omega)]
  have e : fs.length - (k + 1) = fs.length - 1 - k := by omega
  congr 1
  · congr 1
  · congr 1; omega
theorem ownK_succ {m : MachP} {fs : List FaultP} {k : Nat} (hk : k < fs.length) : ownK m fs (k + 1) = rmF (ownK m fs k) (fs[fs.length - 1 - k]'(by omega)) := by
  unfold ownK
  rw [drop_at hk]
  rfl
theorem ownK_all (m : MachP) (fs : List FaultP) : ownK m fs fs.length = ownR m fs := by
  unfold ownK
  rw [Nat.sub_self]
  rfl
theorem asc_drop {fs : List FaultP} (h : fs.Pairwise AscF) (k : Nat) : (fs.drop k).Pairwise AscF := h.sublist (List.drop_sublist k fs)
/-- A bit more, a bit less. -/
theorem with_list {x i : Nat} (hi : i < 6) (hb : x.testBit i = false) : ((listN x 6).filter fun z => decide (z < (i : Int))) ++ [(i : Int)] ++ (listN x 6).filter (fun z => decide (z > (i : Int))) = listN (x ||| 2 ^ i) 6 := by
  refine asc_ext ?_ (listN_asc _ _) fun z => ?_
  · rw [List.append_assoc, List.pairwise_append, List.pairwise_append]
    refine ⟨(listN_asc x 6).sublist List.filter_sublist, ⟨by simp, (listN_asc x 6).sublist List.filter_sublist, fun a ha b hb => ?_⟩, fun a ha b hb => ?_⟩
    · simp at ha hb; omega
    · rw [List.mem_filter] at ha
      have h1 := of_decide_eq_true ha.2
      rcases List.mem_append.1 hb with hb | hb
      · simp at hb; omega
      · rw [List.mem_filter] at hb
        have h2 := of_decide_eq_true hb.2
        omega
  · rw [List.mem_append, List.mem_append, List.mem_filter, List.mem_filter, List.mem_singleton, listN_bits, listN_bits]
    constructor
    · rintro ((⟨⟨j, rfl, h1, h2⟩, h3⟩ | rfl) | ⟨⟨j, rfl, h1, h2⟩, h3⟩)
      · exact ⟨j, rfl, h1, by rw [Nat.testBit_or, h2]; rfl⟩
      · exact ⟨i, rfl, hi, by rw [Nat.testBit_or, Nat.testBit_two_pow_self]; simp⟩
      · exact ⟨j, rfl, h1, by rw [Nat.testBit_or, h2]; rfl⟩
    · rintro ⟨j, rfl, h1, h2⟩
      rw [Nat.testBit_or] at h2
      by_cases e : j = i
      · exact .inl (.inr (by rw [e]))
      · rw [Nat.testBit_two_pow_of_ne (fun h => e h.symm), Bool.or_false] at h2
        rcases Nat.lt_or_gt_of_ne e with h | h
        · exact .inl (.inl ⟨⟨j, rfl, h1, h2⟩, decide_eq_true (by omega)⟩)
        · exact .inr ⟨⟨j, rfl, h1, h2⟩, decide_eq_true (by omega)⟩
theorem with_had {x i : Nat} (hb : x.testBit i = true) : x ||| 2 ^ i = x := by
  apply Nat.eq_of_testBit_eq
  intro j
  rw [Nat.testBit_or]
  by_cases e : j = i
  · subst e; rw [hb]; rfl
  · rw [Nat.testBit_two_pow_of_ne (fun h => e h.symm), Bool.or_false]
theorem has_bit {x i : Nat} (hi : i < 6) : (listN x 6).contains (i : Int) = x.testBit i := by
  rw [Bool.eq_iff_iff, List.contains_iff_mem, listN_bits]
  constructor
  · rintro ⟨j, e, _, h⟩
    have : i = j := by omega
    rw [this]; exact h
  · exact fun h => ⟨i, rfl, hi, h⟩
theorem mask_bit {d j : Nat} (hd : d < 2 ^ 64) : (2 ^ 64 - 1 - d).testBit j = (decide (j < 64) && !d.testBit j) := by
  rw [show 2 ^ 64 - 1 - d = 2 ^ 64 - (d + 1) by omega, Nat.testBit_two_pow_sub_succ hd]
theorem without_list {x d i : Nat} (hd : d < 2 ^ 6) (hi : i < 6) : (listN (x &&& (2 ^ 64 - 1 - d)) 6).filter (fun z => z != (i : Int)) = listN (x &&& (2 ^ 64 - 1 - (d ||| 2 ^ i))) 6 := by
  have d64 : d < 2 ^ 64 := by omega
  have h2 : 2 ^ i < 2 ^ 6 := Nat.pow_lt_pow_right (by omega) hi
  have d65 : d ||| 2 ^ i < 2 ^ 64 := by have := Nat.or_lt_two_pow hd h2; omega
  refine asc_ext ((listN_asc _ 6).sublist List.filter_sublist) (listN_asc _ _) fun z => ?_
  rw [List.mem_filter, listN_bits, listN_bits]
  constructor
  · rintro ⟨⟨j, rfl, h1, h2⟩, h3⟩
    have hne : j ≠ i := fun e => by subst e; simp at h3
    refine ⟨j, rfl, h1, ?_⟩
    rw [Nat.testBit_and, mask_bit d64] at h2
    rw [Nat.testBit_and, mask_bit d65, Nat.testBit_or, Nat.testBit_two_pow_of_ne (fun h => hne h.symm), Bool.or_false]
    exact h2
  · rintro ⟨j, rfl, h1, h2⟩
    rw [Nat.testBit_and, mask_bit d65, Nat.testBit_or] at h2
    by_cases e : j = i
    · subst e
      rw [Nat.testBit_two_pow_self] at h2
      simp at h2
    · rw [Nat.testBit_two_pow_of_ne (fun h => e h.symm), Bool.or_false] at h2
      exact ⟨⟨j, rfl, h1, by rw [Nat.testBit_and, mask_bit d64]; exact h2⟩, by simp; omega⟩
end Go.Rd
/- Walks of the reference: what sounds with faults. Conditions: as each theorem states. -/
namespace Go.Proofs.Ythphpbdmbmiaiaa
open Go Go.HL Go.Proofs Go.Wx Go.Rd
section
variable [Lvl]
set_option maxRecDepth 100000
theorem fsN_get {c : Nat → FaultP} {k j : Nat} {f : FaultP} (h : (fsN c k)[j]? = some f) : j < k ∧ f = c j := by
  unfold fsN at h
  rw [List.getElem?_map] at h
  by_cases hj : j < k
  · rw [List.getElem?_range hj] at h
    simp at h
    exact ⟨hj, h.symm⟩
  · rw [List.getElem?_eq_none (by simp; omega)] at h
    simp at h
theorem fault_ix {m : MachP} {x : Nat} {f : FaultP} (h : (faultsM m)[x]? = some f) : (∃ i, f = .shut i) ∨ (∃ i, f = .opn i) ∨ (∃ i, f = .pin i ∧ x = 2 * m.levers.toNat + i) ∨ (∃ i, f = .link i ∧ x = 2 * m.levers.toNat + m.pins.length + i) := by
  have l1 : (fs1 m).length = m.levers.toNat := by rw [fs1, fsN_len]
  have l2 : (fs2 m).length = 2 * m.levers.toNat := by rw [fs2, List.length_append, l1, fsN_len]; omega
  have l3 : (fs3 m).length = 2 * m.levers.toNat + m.pins.length := by rw [fs3, List.length_append, l2, fsN_len]
  rw [faultsM, List.getElem?_append] at h
  split at h
  · rw [fs3, List.getElem?_append] at h
    split at h
    · rw [fs2, List.getElem?_append] at h
      split at h
      · exact .inl ⟨x, (fsN_get h).2⟩
      · exact .inr (.inl ⟨_, (fsN_get h).2⟩)
    · exact .inr (.inr (.inl ⟨_, (fsN_get h).2, by omega⟩))
  · exact .inr (.inr (.inr ⟨_, (fsN_get h).2, by omega⟩))
theorem pick_asc {m : MachP} {l : List Int} (S : SetOK l (faultsM m).length) : (pickL m l).Pairwise AscF := by
  unfold pickL
  rw [List.pairwise_map]
  refine S.asc.imp_of_mem fun {a b} ha hb hab => ?_
  obtain ⟨a0, a1⟩ := S.mem a ha
  obtain ⟨b0, b1⟩ := S.mem b hb
  have ea : (faultsM m)[a.toNat]? = some ((faultsM m).getD a.toNat (.shut 0)) := by rw [List.getD_eq_getElem?_getD, List.getElem?_eq_getElem (by omega)]; rfl
  have eb : (faultsM m)[b.toNat]? = some ((faultsM m).getD b.toNat (.shut 0)) := by rw [List.getD_eq_getElem?_getD, List.getElem?_eq_getElem (by omega)]; rfl
  generalize (faultsM m).getD a.toNat (.shut 0) = f at ea ⊢
  generalize (faultsM m).getD b.toNat (.shut 0) = g at eb ⊢
  have fa := fault_ix ea
  have fb := fault_ix eb
  refine ⟨fun i j e1 e2 => ?_, fun i j e1 e2 => ?_⟩
  · subst e1 e2
    simp at fa fb
    omega
  · subst e1 e2
    simp at fa fb
    omega
theorem pick_at {m : MachP} {l : List Int} (S : SetOK l (faultsM m).length) {k : Nat} (hk : k < l.length) (hp : k < (pickL m l).length) : ∃ h : l[k].toNat < (faultsM m).length, (pickL m l)[k] = (faultsM m)[l[k].toNat] := by
  obtain ⟨a0, a1⟩ := S.mem _ (List.getElem_mem hk)
  have h : l[k].toNat < (faultsM m).length := by omega
  exact ⟨h, by simp [pickL, List.getD_eq_getElem?_getD, List.getElem?_eq_getElem h]⟩
theorem slcE {A : Option Addr} {n n' c : Nat} (e : n = n') : Value.slice A n c = Value.slice A n' c := by rw [e]
theorem lenE {x y : Nat} (e : x = y) : (listN x 6).length = (listN y 6).length := by rw [e]
theorem rowE {h : AH} {A : Option Addr} {x y : Nat} (e : x = y) (R : Row h 1 intC A (listN x 6)) : Row h 1 intC A (listN y 6) := e ▸ R
set_option maxHeartbeats 8000000 in
theorem brokenR_ok (m : MachP) (M : MOK m) (l : List Int) (S : SetOK l (faultsM m).length) (a : HandP) (H : HOK m a) (AB AQ AL AW NA HA OA : Option Addr) (cB cQ cL cW cN cH cO : Nat) (hcQ : m.pins.length ≤ cQ) (hcL : m.links.length ≤ cL) (h : AH) (RM : MachR h AB AQ AL AW m) (RN : Row h 1 intC NA l) (RH : HandR h HA OA a) :
    FnT Try.prog 107 #[machV AB AQ AL AW cB cQ cL cW m, .slice NA l.length cN, handV HA OA cH cO a] h (fun v h' => SlR h' 1 intC (listN (soundsB m (pickL m l) a) 6) v) := by
  have mlv := M.levers
  have mpl := M.pl
  have mll := M.ll
  have mtr := M.travel
  have fln := faults_len m
  have hll : l.length ≤ (faultsM m).length := set_len S
  obtain ⟨fs, hfs⟩ : ∃ fs, fs = pickL m l := ⟨_, rfl⟩
  have hfl : fs.length = l.length := by rw [hfs, pickL, List.length_map]
  have hfo : ∀ f ∈ fs, FOK m f := by rw [hfs]; exact pickL_fok M S.mem
  have hfa : fs.Pairwise AscF := by rw [hfs]; exact pick_asc S
  have hfx : ∀ k (hk : k < l.length) (hp : k < fs.length), ∃ hx : l[k].toNat < (faultsM m).length, fs[k] = (faultsM m)[l[k].toNat] := fun k hk hp => by subst hfs; exact pick_at S hk hp
  have hls : ∀ x ∈ l, 0 ≤ x := fun x hx => (S.mem x hx).1
  rw [← hfs]
  refine call_body Try.func107 rfl Try.ntmps107 rfl ?_
  refine xp_seq ?_
  refine xp_region rfl ?_
  refine op_box (v := .agg #[.int .i64 _, .int .i64 _, .int .i64 _, .int .i64 _, .int .i64 _, .slice _ _ _, .slice _ _ _, .slice _ _ _, .slice _ _ _]) (cs := [_, _, _, _, _, _, _, _, _]) rfl rfl fun b3 hb3 => ?_
  refine wp_norm [_] rfl ?_
  refine op_box (v := .agg #[.slice _ _ _, .slice _ _ _]) (cs := [_, _]) rfl rfl fun b5 hb5 => ?_
  refine wp_norm [_, _] rfl ?_
  refine op_pure (pv_assign (v := .slice _ _ _) rfl) ?_
  refine xp_seq ?_
  refine xp_region rfl ?_
  refine op_loadPA 0 (vs := [.int .i64 _, .int .i64 _, .int .i64 _, .int .i64 _, .int .i64 _, .slice _ _ _, .slice _ _ _, .slice _ _ _, .slice _ _ _]) rfl rfl rfl rfl rfl ?_
  refine op_fn (caps := []) (vs := [.agg #[.int .i64 _, .int .i64 _, .int .i64 _, .int .i64 _, .int .i64 _, .slice _ _ _, .slice _ _ _, .slice _ _ _, .slice _ _ _]]) rfl rfl rfl (faultsR_ok m M AB AQ AL AW cB cQ cL cW h) ?_
  rintro _ h1 E1 ⟨FA, cF, rfl, RF⟩
  refine op_pure (pv_assign (v := .slice _ _ _) rfl) ?_
  refine xp_seq ?_
  refine xp_region rfl ?_
  refine op_loadPA 0 (vs := [.int .i64 _, .int .i64 _, .int .i64 _, .int .i64 _, .int .i64 _, .slice _ _ _, .slice _ _ _, .slice _ _ _, .slice _ _ _]) rfl rfl rfl rfl rfl ?_
  refine op_alloc (cs := [_, _, _, _, _, _, _, _, _]) rfl rfl fun b8 hb8 => ?_
  refine wp_norm [_, _, _] rfl ?_
  refine op_storeP 2 (v := .agg #[.int .i64 _, .int .i64 _, .int .i64 _, .int .i64 _, .int .i64 _, .slice _ _ _, .slice _ _ _, .slice _ _ _, .slice _ _ _]) (vs := [_, _, _, _, _, _, _, _, _]) (c' := [_, _, _, _, _, _, _, _, _]) rfl rfl rfl rfl rfl rfl rfl rfl rfl ?_
  refine wp_norm [_, _, _] rfl ?_
  refine xp_seq ?_
  refine xp_seq ?_
  refine xp_region rfl ?_
  refine op_pure (pv_move (v := .slice _ _ _) rfl) ?_
  refine op_pure (pv_len rfl rfl) ?_
  refine op_pure (pv_arith rfl (by omega)) ?_
  refine op_pure (pv_assign (v := .int .i64 _) rfl) ?_
  refine xp_block ?_
  refine xp_loopL [9, 10, 22, 23, 24, 25, 26, 27, 28, 29, 30, 31, 32, 33, 34, 35, 36, 37, 38, 39, 40, 41, 42, 43, 44, 45, 46] 3 (α := Nat × MachP × Option Addr × Nat × Option Addr × Nat) (fun ⟨k, o, AQ1, cQ1, AL1, cL1⟩ => [(9, .int .i64 ((l.length : Int) - 1 - k))]) (fun ⟨k, o, AQ1, cQ1, AL1, cL1⟩ L => L.set 2 (some (b8, .cells #[.int .i64 o.rods, .int .i64 o.levers, .int .i64 o.regs, .int .i64 o.travel, .int .i64 o.opn, .slice AB o.buttons.length cB, .slice AQ1 o.pins.length cQ1, .slice AL1 o.links.length cL1, .slice AW o.weights.length cW] 28 (0, 0)))) (fun ⟨k, o, AQ1, cQ1, AL1, cL1⟩ h_k => (k ≤ l.length ∧ o = ownK m fs k) ∧ Row h_k 3 pinC AQ1 o.pins ∧ Row h_k 4 linkC AL1 o.links ∧ o.pins.length ≤ cQ1 ∧ o.links.length ≤ cL1) (fun ⟨k, o, AQ1, cQ1, AL1, cL1⟩ => l.length - k) ((0, m, AQ, cQ, AL, cL)) ⟨intE (by omega), trivial⟩ (rfl) (⟨⟨Nat.zero_le _, (ownK_zero m fs).symm⟩, RM.q.ext E1, RM.l.ext E1, hcQ, hcL⟩) ?_
  rintro ⟨k, o, AQ1, cQ1, AL1, cL1⟩ T1 h_k E_k J_k
  refine goes_norm [_, _, _] rfl ?_
  obtain ⟨⟨J1, J6⟩, J2, J3, J4, J5⟩ := J_k
  refine xp_seq ?_
  refine xp_seq ?_
  refine xp_region rfl ?_
  refine op_pure (pv_move (v := .int .i64 _) rfl) ?_
  refine op_pure (pv_of (v := .bool _) rfl) ?_
  refine xp_cond rfl (fun hk => ?_) (fun hk => ?_)
  · skip
    have hkl : k < l.length := by have := of_decide_eq_true hk; omega
    have hjx : l.length - 1 - k < l.length := by omega
    have hjf : fs.length - 1 - k < fs.length := by omega
    obtain ⟨hx, hfe⟩ := hfx (l.length - 1 - k) hjx (by omega)
    have hl0 := hls _ (List.getElem_mem hjx)
    have hsc := ownK_succ (m := m) (fs := fs) (k := k) (by omega)
    have hasc := asc_drop hfa (fs.length - (k + 1))
    rw [drop_at (fs := fs) (k := k) (by omega)] at hasc
    have hef : fs[fs.length - 1 - k] = (faultsM m)[l[l.length - 1 - k].toNat] := by rw [← hfe]; congr 1; omega
    have hok := hfo _ (List.getElem_mem hjf)
    rw [hef] at hsc hasc hok
    rw [← J6] at hsc
    obtain ⟨g, off, hA, hc⟩ := (RN.ext (Ext.trans E1 E_k)).at (by omega) hjx
    have hc : Cells h_k g (off + ((l.length : Int) - 1 - k).toNat * 1) (intC l[l.length - 1 - k]) := by rw [show ((l.length : Int) - 1 - k).toNat = l.length - 1 - k by omega]; exact hc
    obtain ⟨g2, off2, hA2, hc2⟩ := (RF.ext E_k).at (by omega) hx
    obtain ⟨F, hF⟩ : ∃ F, F = (faultsM m)[l[l.length - 1 - k].toNat] := ⟨_, rfl⟩
    rw [← hF] at hc2 hsc hasc hok
    refine xp_skip ?_
    refine xp_seq ?_
    refine xp_block ?_
    refine xp_seq ?_
    refine xp_region rfl ?_
    refine op_pure (pv_move (v := .slice _ _ _) rfl) ?_
    refine op_pure (pv_move (v := .slice _ _ _) rfl) ?_
    refine op_pure (pv_move (v := .int .i64 _) rfl) ?_
    refine op_pure (pv_indexE rfl hA rfl rfl rfl (by omega) (by omega)) ?_
    refine op_load (v := .int .i64 _) rfl rfl ((hc) 0 _ rfl) ?_
    refine op_pure (pv_indexE (m := 2) rfl hA2 rfl rfl rfl (by omega) (by omega)) ?_
    rcases F with i | i | i | i
    · skip
      refine op_loadA rfl rfl rfl rfl (hc2) ?_
      refine op_alloc (cs := [_, _]) rfl rfl fun b10 hb10 => ?_
      refine wp_norm [_, _, _, _] rfl ?_
      refine op_storeP 3 (v := .agg #[.int .i64 _, .int .i64 _]) (vs := [_, _]) (c' := [_, _]) rfl rfl rfl rfl rfl rfl rfl rfl rfl ?_
      refine wp_norm [_, _, _, _] rfl ?_
      refine xp_seq ?_
      refine xp_region rfl ?_
      refine op_pure (pv_fieldAddr rfl rfl rfl rfl 0 rfl) ?_
      refine op_loadP 3 (v := .int .i64 _) rfl rfl rfl rfl ?_
      refine xp_block ?_
      refine xp_seq ?_
      refine xp_region rfl ?_
      refine op_pure (pv_of (v := .bool _) rfl) ?_
      refine op_pure (pv_assign (v := .bool _) rfl) ?_
      refine xp_condF rfl (rfl) ?_
      refine xp_seq ?_
      refine xp_region rfl ?_
      refine op_pure (pv_of (v := .bool _) rfl) ?_
      refine op_pure (pv_assign (v := .bool _) rfl) ?_
      refine xp_condF rfl (rfl) ?_
      refine xp_skip ?_
      refine xp_region rfl ?_
      refine op_pure (pv_move (v := .int .i64 _) rfl) ?_
      refine op_pure (pv_arith rfl (by omega)) ?_
      refine op_pure (pv_assign (v := .int .i64 _) rfl) ?_
      refine ⟨(k + 1, o, AQ1, cQ1, AL1, cL1), ⟨intE (by omega), trivial⟩, rfl, rfl, E_k, fun h3 E3 => ⟨⟨by omega, hsc.symm⟩, (J2.ext (Ext.refl _)).ext E3, (J3.ext (Ext.refl _)).ext E3, J4, J5⟩, by first | omega | (dsimp only; omega), ?_⟩
      repeat (first | exact off_base _ _ _ | refine off_upd (by decide) ?_ | refine off_updL rfl ?_ | refine off_mix rfl ?_)
    · skip
      refine op_loadA rfl rfl rfl rfl (hc2) ?_
      refine op_alloc (cs := [_, _]) rfl rfl fun b10_1 hb10_1 => ?_
      refine wp_norm [_, _, _, _] rfl ?_
      refine op_storeP 3 (v := .agg #[.int .i64 _, .int .i64 _]) (vs := [_, _]) (c' := [_, _]) rfl rfl rfl rfl rfl rfl rfl rfl rfl ?_
      refine wp_norm [_, _, _, _] rfl ?_
      refine xp_seq ?_
      refine xp_region rfl ?_
      refine op_pure (pv_fieldAddr rfl rfl rfl rfl 0 rfl) ?_
      refine op_loadP 3 (v := .int .i64 _) rfl rfl rfl rfl ?_
      refine xp_block ?_
      refine xp_seq ?_
      refine xp_region rfl ?_
      refine op_pure (pv_of (v := .bool _) rfl) ?_
      refine op_pure (pv_assign (v := .bool _) rfl) ?_
      refine xp_condF rfl (rfl) ?_
      refine xp_seq ?_
      refine xp_region rfl ?_
      refine op_pure (pv_of (v := .bool _) rfl) ?_
      refine op_pure (pv_assign (v := .bool _) rfl) ?_
      refine xp_condF rfl (rfl) ?_
      refine xp_skip ?_
      refine xp_region rfl ?_
      refine op_pure (pv_move (v := .int .i64 _) rfl) ?_
      refine op_pure (pv_arith rfl (by omega)) ?_
      refine op_pure (pv_assign (v := .int .i64 _) rfl) ?_
      refine ⟨(k + 1, o, AQ1, cQ1, AL1, cL1), ⟨intE (by omega), trivial⟩, rfl, rfl, E_k, fun h3 E3 => ⟨⟨by omega, hsc.symm⟩, (J2.ext (Ext.refl _)).ext E3, (J3.ext (Ext.refl _)).ext E3, J4, J5⟩, by first | omega | (dsimp only; omega), ?_⟩
      repeat (first | exact off_base _ _ _ | refine off_upd (by decide) ?_ | refine off_updL rfl ?_ | refine off_mix rfl ?_)
    · skip
      have hil : i < o.pins.length := by rw [J6]; exact own_pin_lt hasc hok
      have hol : o.pins.length ≤ m.pins.length := by rw [J6]; exact (own_mem (m := m) (fs := fs.drop (fs.length - k))).2.2.1
      refine op_loadA rfl rfl rfl rfl (hc2) ?_
      refine op_alloc (cs := [_, _]) rfl rfl fun b10_2 hb10_2 => ?_
      refine wp_norm [_, _, _, _] rfl ?_
      refine op_storeP 3 (v := .agg #[.int .i64 _, .int .i64 _]) (vs := [_, _]) (c' := [_, _]) rfl rfl rfl rfl rfl rfl rfl rfl rfl ?_
      refine wp_norm [_, _, _, _] rfl ?_
      refine xp_seq ?_
      refine xp_region rfl ?_
      refine op_pure (pv_fieldAddr rfl rfl rfl rfl 0 rfl) ?_
      refine op_loadP 3 (v := .int .i64 _) rfl rfl rfl rfl ?_
      refine xp_block ?_
      refine xp_seq ?_
      refine xp_region rfl ?_
      refine op_pure (pv_of (v := .bool _) rfl) ?_
      refine op_pure (pv_assign (v := .bool _) rfl) ?_
      refine xp_condT rfl (rfl) ?_
      refine xp_region rfl ?_
      refine op_loadPA 2 (vs := [.int .i64 _, .int .i64 _, .int .i64 _, .int .i64 _, .int .i64 _, .slice _ _ _, .slice _ _ _, .slice _ _ _, .slice _ _ _]) rfl rfl rfl rfl rfl ?_
      refine op_pure (pv_fieldAddr rfl rfl rfl rfl 1 rfl) ?_
      refine op_loadP 3 (v := .int .i64 _) rfl rfl rfl rfl ?_
      refine op_fn (caps := []) (vs := [.agg #[.int .i64 _, .int .i64 _, .int .i64 _, .int .i64 _, .int .i64 _, .slice _ _ _, .slice _ _ _, .slice _ _ _, .slice _ _ _], .int .i64 _]) rfl rfl rfl (WithoutPinR_ok o i hil (by omega) AB AQ1 AL1 AW cB cQ1 cL1 cW J4 h_k (J2.ext (Ext.refl _))) ?_
      rintro _ h2 E2 ⟨A2, c2, rfl, R2, C2⟩
      refine op_storeP 2 (v := .agg #[.int .i64 _, .int .i64 _, .int .i64 _, .int .i64 _, .int .i64 _, .slice _ _ _, .slice _ _ _, .slice _ _ _, .slice _ _ _]) (vs := [_, _, _, _, _, _, _, _, _]) (c' := [_, _, _, _, _, _, _, _, _]) rfl rfl rfl rfl rfl rfl rfl rfl rfl ?_
      refine wp_norm [_, _, _, _] rfl ?_
      refine xp_region rfl ?_
      refine op_pure (pv_move (v := .int .i64 _) rfl) ?_
      refine op_pure (pv_arith rfl (by omega)) ?_
      refine op_pure (pv_assign (v := .int .i64 _) rfl) ?_
      refine ⟨(k + 1, { o with pins := o.pins.eraseIdx i }, A2, c2, AL1, cL1), ⟨intE (by omega), trivial⟩, rfl, rfl, (Ext.trans E_k E2), fun h3 E3 => ⟨⟨by omega, hsc.symm⟩, (R2.ext (Ext.refl _)).ext E3, (J3.ext E2).ext E3, C2, J5⟩, by first | omega | (dsimp only; omega), ?_⟩
      repeat (first | exact off_base _ _ _ | refine off_upd (by decide) ?_ | refine off_updL rfl ?_ | refine off_mix rfl ?_)
    · skip
      have hil : i < o.links.length := by rw [J6]; exact own_link_lt hasc hok
      have hol : o.links.length ≤ m.links.length := by rw [J6]; exact (own_mem (m := m) (fs := fs.drop (fs.length - k))).2.2.2
      refine op_loadA rfl rfl rfl rfl (hc2) ?_
      refine op_alloc (cs := [_, _]) rfl rfl fun b10_3 hb10_3 => ?_
      refine wp_norm [_, _, _, _] rfl ?_
      refine op_storeP 3 (v := .agg #[.int .i64 _, .int .i64 _]) (vs := [_, _]) (c' := [_, _]) rfl rfl rfl rfl rfl rfl rfl rfl rfl ?_
      refine wp_norm [_, _, _, _] rfl ?_
      refine xp_seq ?_
      refine xp_region rfl ?_
      refine op_pure (pv_fieldAddr rfl rfl rfl rfl 0 rfl) ?_
      refine op_loadP 3 (v := .int .i64 _) rfl rfl rfl rfl ?_
      refine xp_block ?_
      refine xp_seq ?_
      refine xp_region rfl ?_
      refine op_pure (pv_of (v := .bool _) rfl) ?_
      refine op_pure (pv_assign (v := .bool _) rfl) ?_
      refine xp_condF rfl (rfl) ?_
      refine xp_seq ?_
      refine xp_region rfl ?_
      refine op_pure (pv_of (v := .bool _) rfl) ?_
      refine op_pure (pv_assign (v := .bool _) rfl) ?_
      refine xp_condT rfl (rfl) ?_
      refine xp_region rfl ?_
      refine op_loadPA 2 (vs := [.int .i64 _, .int .i64 _, .int .i64 _, .int .i64 _, .int .i64 _, .slice _ _ _, .slice _ _ _, .slice _ _ _, .slice _ _ _]) rfl rfl rfl rfl rfl ?_
      refine op_pure (pv_fieldAddr rfl rfl rfl rfl 1 rfl) ?_
      refine op_loadP 3 (v := .int .i64 _) rfl rfl rfl rfl ?_
      refine op_fn (caps := []) (vs := [.agg #[.int .i64 _, .int .i64 _, .int .i64 _, .int .i64 _, .int .i64 _, .slice _ _ _, .slice _ _ _, .slice _ _ _, .slice _ _ _], .int .i64 _]) rfl rfl rfl (WithoutLinkR_ok o i hil (by omega) AB AQ1 AL1 AW cB cQ1 cL1 cW J5 h_k (J3.ext (Ext.refl _))) ?_
      rintro _ h2 E2 ⟨A2, c2, rfl, R2, C2⟩
      refine op_storeP 2 (v := .agg #[.int .i64 _, .int .i64 _, .int .i64 _, .int .i64 _, .int .i64 _, .slice _ _ _, .slice _ _ _, .slice _ _ _, .slice _ _ _]) (vs := [_, _, _, _, _, _, _, _, _]) (c' := [_, _, _, _, _, _, _, _, _]) rfl rfl rfl rfl rfl rfl rfl rfl rfl ?_
      refine wp_norm [_, _, _, _] rfl ?_
      refine xp_region rfl ?_
      refine op_pure (pv_move (v := .int .i64 _) rfl) ?_
      refine op_pure (pv_arith rfl (by omega)) ?_
      refine op_pure (pv_assign (v := .int .i64 _) rfl) ?_
      refine ⟨(k + 1, { o with links := o.links.eraseIdx i }, AQ1, cQ1, A2, c2), ⟨intE (by omega), trivial⟩, rfl, rfl, (Ext.trans E_k E2), fun h3 E3 => ⟨⟨by omega, hsc.symm⟩, (J2.ext E2).ext E3, (R2.ext (Ext.refl _)).ext E3, J4, C2⟩, by first | omega | (dsimp only; omega), ?_⟩
      repeat (first | exact off_base _ _ _ | refine off_upd (by decide) ?_ | refine off_updL rfl ?_ | refine off_mix rfl ?_)
  · skip
    have hke : k = fs.length := by have := of_decide_eq_false hk; omega
    rw [hke, ownK_all] at J6
    subst J6
    obtain ⟨s1, s2, s3, s4, s5, s6, s7⟩ := own_same m fs
    have hX := own_sounds M H hfa
    obtain ⟨x, hx0⟩ : ∃ x, x = soundsM (brkM m fs) a m.travel := ⟨_, rfl⟩
    have L1 := soundsR_ok (ownR m fs) (own_mok M fs) a (fit_of (own_mok M fs) (own_hok H fs)) AB AQ1 AL1 AW HA OA cB cQ1 cL1 cW cH cO
    rw [s4, hX, ← hx0] at L1
    have RB1 := RM.b.ext (Ext.trans E1 E_k)
    have RW1 := RM.w.ext (Ext.trans E1 E_k)
    rw [← s6] at RB1
    rw [← s7] at RW1
    refine xp_exit ?_
    refine xp_seq ?_
    refine xp_region rfl ?_
    refine op_loadPA 2 (vs := [.int .i64 _, .int .i64 _, .int .i64 _, .int .i64 _, .int .i64 _, .slice _ _ _, .slice _ _ _, .slice _ _ _, .slice _ _ _]) rfl rfl rfl rfl rfl ?_
    refine op_loadPA 1 (vs := [.slice _ _ _, .slice _ _ _]) rfl rfl rfl rfl rfl ?_
    refine op_fn (caps := []) (vs := [.agg _, .agg _]) rfl rfl rfl (L1 h_k ⟨RB1, J2.ext (Ext.refl _), J3.ext (Ext.refl _), RW1⟩ (RH.ext (Ext.trans E1 E_k))) ?_
    rintro _ h4 E4 ⟨A4, c4, rfl, R4⟩
    have bb := brk_bits mlv.2 hfo
    have hx6 : x < 2 ^ 6 := by
      rw [hx0]
      exact Nat.lt_of_lt_of_le (sounds_lt (brkM m fs) a m.travel) (Nat.pow_le_pow_right (by omega) (by show m.levers.toNat ≤ 6; omega))
    obtain ⟨sK, hsK⟩ : ∃ sK : Nat → Nat, ∀ k, sK k = x ||| (brkF m (fs.take k)).stay := ⟨fun k => x ||| (brkF m (fs.take k)).stay, fun _ => rfl⟩
    have hs0 : sK 0 = x := (hsK 0).trans (Nat.or_zero x)
    have hsS : ∀ k (hk : k < fs.length), sK (k + 1) = x ||| (brkS m.travel (brkF m (fs.take k)) fs[k]).stay := fun k hk => by rw [hsK, brkF_take hk]
    obtain ⟨y, hy⟩ : ∃ y, y = sK l.length := ⟨_, rfl⟩
    have hyv : y = x ||| (brkF m fs).stay := by rw [hy, hsK, ← hfl, List.take_length]
    have hy6 : y < 2 ^ 6 := by rw [hyv]; exact Nat.or_lt_two_pow hx6 bb.1
    obtain ⟨dK, hdK⟩ : ∃ dK : Nat → Nat, ∀ k, dK k = y &&& (2 ^ 64 - 1 - (brkF m (fs.take k)).dumb) := ⟨fun k => y &&& (2 ^ 64 - 1 - (brkF m (fs.take k)).dumb), fun _ => rfl⟩
    have hd0 : dK 0 = y := (hdK 0).trans (and_mask (by omega))
    have hdS : ∀ k (hk : k < fs.length), dK (k + 1) = y &&& (2 ^ 64 - 1 - (brkS m.travel (brkF m (fs.take k)) fs[k]).dumb) := fun k hk => by rw [hdK, brkF_take hk]
    have hdv : dK l.length = soundsB m fs a := by rw [hdK, ← hfl, List.take_length, hyv, hx0]; rfl
    have hdb : ∀ k, (brkF m (fs.take k)).dumb < 2 ^ 6 := fun k => (brk_bits mlv.2 (fun f hf => hfo f (take_mem hf))).2
    rw [← hdv]
    refine op_pure (pv_assign (v := .slice _ _ _) rfl) ?_
    refine xp_seq ?_
    refine xp_seq ?_
    refine xp_region rfl ?_
    refine op_pure (pv_assign (v := .int .i64 _) rfl) ?_
    refine xp_block ?_
    refine xp_loopB [11, 12, 13, 50, 51, 52, 53, 54, 55, 56, 57, 58, 59, 60, 61, 62, 63, 64, 65, 66, 67, 68, 69, 70, 71, 72, 73, 74, 75, 76] 3 (α := Nat × Option Addr × Nat) (fun ⟨q, VA, cV⟩ => [(12, .int .i64 q), (11, .slice VA (listN (sK q) 6).length cV)]) (fun ⟨q, VA, cV⟩ => _) (fun ⟨q, VA, cV⟩ h_q => q ≤ l.length ∧ Row h_q 1 intC VA (listN (sK q) 6)) (fun ⟨q, VA, cV⟩ => l.length - q) ((0, A4, c4)) ⟨rfl, slcE (lenE hs0.symm), trivial⟩ (rfl) (⟨Nat.zero_le _, rowE hs0.symm (R4.ext (Ext.refl _))⟩) ?_
    rintro ⟨q, VA, cV⟩ T2 h_q E_q J_q
    refine goes_norm [_, _, _] rfl ?_
    obtain ⟨Q1, Q2⟩ := J_q
    refine xp_seq ?_
    refine xp_seq ?_
    refine xp_region rfl ?_
    refine op_pure (pv_move (v := .int .i64 _) rfl) ?_
    refine op_pure (pv_move (v := .slice _ _ _) rfl) ?_
    refine op_pure (pv_len rfl rfl) ?_
    refine op_pure (pv_of (v := .bool _) rfl) ?_
    refine xp_cond rfl (fun hq => ?_) (fun hq => ?_)
    · skip
      have hql : q < l.length := ltI hq
      have hqf : q < fs.length := by omega
      obtain ⟨hx, hfe⟩ := hfx q hql hqf
      have hl0 := hls _ (List.getElem_mem hql)
      have hsc := hsS q hqf
      have hok := hfo _ (List.getElem_mem hqf)
      rw [hfe] at hsc hok
      have hll2 := listN_len (sK q) 6
      obtain ⟨g, off, hA, hc⟩ := (RN.ext (Ext.trans (Ext.trans (Ext.trans E1 E_k) E4) E_q)).at (by omega) hql
      obtain ⟨g2, off2, hA2, hc2⟩ := (RF.ext (Ext.trans (Ext.trans E_k E4) E_q)).at (by omega) hx
      obtain ⟨F, hF⟩ : ∃ F, F = (faultsM m)[l[q].toNat] := ⟨_, rfl⟩
      rw [← hF] at hc2 hsc hok
      refine xp_skip ?_
      refine xp_seq ?_
      refine xp_block ?_
      refine xp_seq ?_
      refine xp_region rfl ?_
      refine op_pure (pv_move (v := .slice _ _ _) rfl) ?_
      refine op_pure (pv_move (v := .slice _ _ _) rfl) ?_
      refine op_pure (pv_move (v := .int .i64 _) rfl) ?_
      refine op_pure (pv_indexE rfl hA rfl rfl rfl (by omega) (by omega)) ?_
      refine op_load (v := .int .i64 _) rfl rfl ((hc) 0 _ rfl) ?_
      refine op_pure (pv_indexE (m := 2) rfl hA2 rfl rfl rfl (by omega) (by omega)) ?_
      rcases F with i | i | i | i
      · skip
        have hsc : sK (q + 1) = sK q := hsc.trans (hsK q).symm
        refine op_loadA rfl rfl rfl rfl (hc2) ?_
        refine op_alloc (cs := [_, _]) rfl rfl fun b13 hb13 => ?_
        refine wp_norm [_, _, _, _] rfl ?_
        refine op_storeP 3 (v := .agg #[.int .i64 _, .int .i64 _]) (vs := [_, _]) (c' := [_, _]) rfl rfl rfl rfl rfl rfl rfl rfl rfl ?_
        refine wp_norm [_, _, _, _] rfl ?_
        refine xp_seq ?_
        refine xp_region rfl ?_
        refine op_pure (pv_fieldAddr rfl rfl rfl rfl 0 rfl) ?_
        refine op_loadP 3 (v := .int .i64 _) rfl rfl rfl rfl ?_
        refine op_pure (pv_of (v := .bool _) rfl) ?_
        refine op_pure (pv_move (v := .bool _) rfl) ?_
        refine guard_no rfl rfl ?_
        refine guard_no rfl rfl ?_
        refine guard_no rfl rfl ?_
        refine guard_no rfl rfl ?_
        refine guard_no rfl rfl ?_
        refine op_pure (pv_pickF rfl rfl (v := .bool _) rfl) ?_
        refine xp_condF rfl (rfl) ?_
        refine xp_skip ?_
        refine xp_region rfl ?_
        refine op_pure (pv_move (v := .int .i64 _) rfl) ?_
        refine op_pure (pv_arith rfl (by omega)) ?_
        refine op_pure (pv_assign (v := .int .i64 _) rfl) ?_
        refine ⟨(q + 1, VA, cV), ⟨rfl, slcE (lenE hsc.symm), trivial⟩, rfl, rfl, E_q, fun h3 E3 => ⟨hql, rowE hsc.symm ((Q2.ext (Ext.refl _)).ext E3)⟩, by first | omega | (dsimp only; omega), ?_⟩
        repeat (first | exact off_base _ _ _ | refine off_upd (by decide) ?_ | refine off_updL rfl ?_ | refine off_mix rfl ?_)
      · skip
        have hi6 : i < 6 := by have : (i : Int) < m.levers := hok; omega
        have hsc : sK (q + 1) = sK q ||| 2 ^ i := by rw [hsc, hsK q, Nat.or_assoc]; rfl
        refine op_loadA rfl rfl rfl rfl (hc2) ?_
        refine op_alloc (cs := [_, _]) rfl rfl fun b13_1 hb13_1 => ?_
        refine wp_norm [_, _, _, _] rfl ?_
        refine op_storeP 3 (v := .agg #[.int .i64 _, .int .i64 _]) (vs := [_, _]) (c' := [_, _]) rfl rfl rfl rfl rfl rfl rfl rfl rfl ?_
        refine wp_norm [_, _, _, _] rfl ?_
        refine xp_seq ?_
        refine xp_region rfl ?_
        refine op_pure (pv_fieldAddr rfl rfl rfl rfl 0 rfl) ?_
        refine op_loadP 3 (v := .int .i64 _) rfl rfl rfl rfl ?_
        refine op_pure (pv_of (v := .bool _) rfl) ?_
        refine op_pure (pv_move (v := .bool _) rfl) ?_
        refine guard_yes rfl rfl ?_
        refine op_pure (pv_move (v := .slice _ _ _) rfl) ?_
        refine guard_yes rfl rfl ?_
        refine op_pure (pv_fieldAddr rfl rfl rfl rfl 1 rfl) ?_
        refine guard_yes rfl rfl ?_
        refine op_loadP 3 (v := .int .i64 _) rfl rfl rfl rfl ?_
        refine guard_yes rfl rfl ?_
        refine op_fn (caps := []) (vs := [.slice _ _ _, .int .i64 _]) rfl rfl rfl (hasR_ok (listN (sK q) 6) i VA cV h_q (Q2.ext (Ext.refl _)) (by omega)) ?_
        rintro _ h5 E5 rfl
        rw [has_bit hi6]
        refine guard_yes rfl rfl ?_
        refine op_pure (pv_of (v := .bool _) rfl) ?_
        refine op_pure (pv_pickT rfl rfl (v := .bool _) rfl) ?_
        refine xp_cond rfl (fun hb => ?_) (fun hb => ?_)
        · skip
          have hb' : (sK q).testBit i = false := by simpa using hb
          refine xp_region rfl ?_
          refine op_pure (pv_move (v := .slice _ _ _) rfl) ?_
          refine op_pure (pv_fieldAddr rfl rfl rfl rfl 1 rfl) ?_
          refine op_loadP 3 (v := .int .i64 _) rfl rfl rfl rfl ?_
          refine op_fn (caps := []) (vs := [.slice _ _ _, .int .i64 _]) rfl rfl rfl (withR_ok (listN (sK q) 6) i VA cV h5 (Q2.ext E5) (by omega)) ?_
          rintro _ h6 E6 ⟨A6, c6, rfl, R6⟩
          rw [with_list hi6 hb'] at R6 ⊢
          refine op_pure (pv_assign (v := .slice _ _ _) rfl) ?_
          refine xp_region rfl ?_
          refine op_pure (pv_move (v := .int .i64 _) rfl) ?_
          refine op_pure (pv_arith rfl (by omega)) ?_
          refine op_pure (pv_assign (v := .int .i64 _) rfl) ?_
          refine ⟨(q + 1, A6, c6), ⟨rfl, slcE (lenE hsc.symm), trivial⟩, rfl, rfl, (Ext.trans (Ext.trans E_q E5) E6), fun h3 E3 => ⟨hql, rowE hsc.symm ((R6.ext (Ext.refl _)).ext E3)⟩, by first | omega | (dsimp only; omega), ?_⟩
          repeat (first | exact off_base _ _ _ | refine off_upd (by decide) ?_ | refine off_updL rfl ?_ | refine off_mix rfl ?_)
        · skip
          have hb' : (sK q).testBit i = true := by simpa using hb
          have hsc : sK (q + 1) = sK q := hsc.trans (with_had hb')
          refine xp_skip ?_
          refine xp_region rfl ?_
          refine op_pure (pv_move (v := .int .i64 _) rfl) ?_
          refine op_pure (pv_arith rfl (by omega)) ?_
          refine op_pure (pv_assign (v := .int .i64 _) rfl) ?_
          refine ⟨(q + 1, VA, cV), ⟨rfl, slcE (lenE hsc.symm), trivial⟩, rfl, rfl, (Ext.trans E_q E5), fun h3 E3 => ⟨hql, rowE hsc.symm ((Q2.ext E5).ext E3)⟩, by first | omega | (dsimp only; omega), ?_⟩
          repeat (first | exact off_base _ _ _ | refine off_upd (by decide) ?_ | refine off_updL rfl ?_ | refine off_mix rfl ?_)
      · skip
        have hsc : sK (q + 1) = sK q := hsc.trans (hsK q).symm
        refine op_loadA rfl rfl rfl rfl (hc2) ?_
        refine op_alloc (cs := [_, _]) rfl rfl fun b13_2 hb13_2 => ?_
        refine wp_norm [_, _, _, _] rfl ?_
        refine op_storeP 3 (v := .agg #[.int .i64 _, .int .i64 _]) (vs := [_, _]) (c' := [_, _]) rfl rfl rfl rfl rfl rfl rfl rfl rfl ?_
        refine wp_norm [_, _, _, _] rfl ?_
        refine xp_seq ?_
        refine xp_region rfl ?_
        refine op_pure (pv_fieldAddr rfl rfl rfl rfl 0 rfl) ?_
        refine op_loadP 3 (v := .int .i64 _) rfl rfl rfl rfl ?_
        refine op_pure (pv_of (v := .bool _) rfl) ?_
        refine op_pure (pv_move (v := .bool _) rfl) ?_
        refine guard_no rfl rfl ?_
        refine guard_no rfl rfl ?_
        refine guard_no rfl rfl ?_
        refine guard_no rfl rfl ?_
        refine guard_no rfl rfl ?_
        refine op_pure (pv_pickF rfl rfl (v := .bool _) rfl) ?_
        refine xp_condF rfl (rfl) ?_
        refine xp_skip ?_
        refine xp_region rfl ?_
        refine op_pure (pv_move (v := .int .i64 _) rfl) ?_
        refine op_pure (pv_arith rfl (by omega)) ?_
        refine op_pure (pv_assign (v := .int .i64 _) rfl) ?_
        refine ⟨(q + 1, VA, cV), ⟨rfl, slcE (lenE hsc.symm), trivial⟩, rfl, rfl, E_q, fun h3 E3 => ⟨hql, rowE hsc.symm ((Q2.ext (Ext.refl _)).ext E3)⟩, by first | omega | (dsimp only; omega), ?_⟩
        repeat (first | exact off_base _ _ _ | refine off_upd (by decide) ?_ | refine off_updL rfl ?_ | refine off_mix rfl ?_)
      · skip
        have hsc : sK (q + 1) = sK q := hsc.trans (hsK q).symm
        refine op_loadA rfl rfl rfl rfl (hc2) ?_
        refine op_alloc (cs := [_, _]) rfl rfl fun b13_3 hb13_3 => ?_
        refine wp_norm [_, _, _, _] rfl ?_
        refine op_storeP 3 (v := .agg #[.int .i64 _, .int .i64 _]) (vs := [_, _]) (c' := [_, _]) rfl rfl rfl rfl rfl rfl rfl rfl rfl ?_
        refine wp_norm [_, _, _, _] rfl ?_
        refine xp_seq ?_
        refine xp_region rfl ?_
        refine op_pure (pv_fieldAddr rfl rfl rfl rfl 0 rfl) ?_
        refine op_loadP 3 (v := .int .i64 _) rfl rfl rfl rfl ?_
        refine op_pure (pv_of (v := .bool _) rfl) ?_
        refine op_pure (pv_move (v := .bool _) rfl) ?_
        refine guard_no rfl rfl ?_
        refine guard_no rfl rfl ?_
        refine guard_no rfl rfl ?_
        refine guard_no rfl rfl ?_
        refine guard_no rfl rfl ?_
        refine op_pure (pv_pickF rfl rfl (v := .bool _) rfl) ?_
        refine xp_condF rfl (rfl) ?_
        refine xp_skip ?_
        refine xp_region rfl ?_
        refine op_pure (pv_move (v := .int .i64 _) rfl) ?_
        refine op_pure (pv_arith rfl (by omega)) ?_
        refine op_pure (pv_assign (v := .int .i64 _) rfl) ?_
        refine ⟨(q + 1, VA, cV), ⟨rfl, slcE (lenE hsc.symm), trivial⟩, rfl, rfl, E_q, fun h3 E3 => ⟨hql, rowE hsc.symm ((Q2.ext (Ext.refl _)).ext E3)⟩, by first | omega | (dsimp only; omega), ?_⟩
        repeat (first | exact off_base _ _ _ | refine off_upd (by decide) ?_ | refine off_updL rfl ?_ | refine off_mix rfl ?_)
    · skip
      have hqe : q = l.length := by have := geI hq; omega
      subst hqe
      have hyd : sK l.length = dK 0 := hy.symm.trans hd0.symm
      refine xp_exit ?_
      refine xp_seq ?_
      refine xp_seq ?_
      refine xp_region rfl ?_
      refine op_pure (pv_assign (v := .int .i64 _) rfl) ?_
      refine xp_block ?_
      refine xp_loopB [11, 14, 15, 77, 78, 79, 80, 81, 82, 83, 84, 85, 86, 87, 88, 89, 90, 91, 92, 93, 94, 95, 96] 3 (α := Nat × Option Addr × Nat) (fun ⟨z, VB, cV2⟩ => [(14, .int .i64 z), (11, .slice VB (listN (dK z) 6).length cV2)]) (fun ⟨z, VB, cV2⟩ => _) (fun ⟨z, VB, cV2⟩ h_z => z ≤ l.length ∧ Row h_z 1 intC VB (listN (dK z) 6)) (fun ⟨z, VB, cV2⟩ => l.length - z) ((0, VA, cV)) ⟨rfl, slcE (lenE hyd), trivial⟩ (rfl) (⟨Nat.zero_le _, rowE hyd (Q2.ext (Ext.refl _))⟩) ?_
      rintro ⟨z, VB, cV2⟩ T3 h_z E_z J_z
      refine goes_norm [_, _, _] rfl ?_
      obtain ⟨Z1, Z2⟩ := J_z
      refine xp_seq ?_
      refine xp_seq ?_
      refine xp_region rfl ?_
      refine op_pure (pv_move (v := .int .i64 _) rfl) ?_
      refine op_pure (pv_move (v := .slice _ _ _) rfl) ?_
      refine op_pure (pv_len rfl rfl) ?_
      refine op_pure (pv_of (v := .bool _) rfl) ?_
      refine xp_cond rfl (fun hz => ?_) (fun hz => ?_)
      · skip
        have hzl : z < l.length := ltI hz
        have hzf : z < fs.length := by omega
        obtain ⟨hx, hfe⟩ := hfx z hzl hzf
        have hl0 := hls _ (List.getElem_mem hzl)
        have hsc := hdS z hzf
        have hok := hfo _ (List.getElem_mem hzf)
        rw [hfe] at hsc hok
        have hll2 := listN_len (dK z) 6
        obtain ⟨g, off, hA, hc⟩ := (RN.ext (Ext.trans (Ext.trans (Ext.trans (Ext.trans E1 E_k) E4) E_q) E_z)).at (by omega) hzl
        obtain ⟨g2, off2, hA2, hc2⟩ := (RF.ext (Ext.trans (Ext.trans (Ext.trans E_k E4) E_q) E_z)).at (by omega) hx
        obtain ⟨F, hF⟩ : ∃ F, F = (faultsM m)[l[z].toNat] := ⟨_, rfl⟩
        rw [← hF] at hc2 hsc hok
        refine xp_skip ?_
        refine xp_seq ?_
        refine xp_block ?_
        refine xp_seq ?_
        refine xp_region rfl ?_
        refine op_pure (pv_move (v := .slice _ _ _) rfl) ?_
        refine op_pure (pv_move (v := .slice _ _ _) rfl) ?_
        refine op_pure (pv_move (v := .int .i64 _) rfl) ?_
        refine op_pure (pv_indexE rfl hA rfl rfl rfl (by omega) (by omega)) ?_
        refine op_load (v := .int .i64 _) rfl rfl ((hc) 0 _ rfl) ?_
        refine op_pure (pv_indexE (m := 2) rfl hA2 rfl rfl rfl (by omega) (by omega)) ?_
        rcases F with i | i | i | i
        · skip
          have hi6 : i < 6 := by have : (i : Int) < m.levers := hok; omega
          have hwl : (listN (dK z) 6).filter (fun u => u != (i : Int)) = listN (dK (z + 1)) 6 := by rw [hsc, hdK z]; exact without_list (hdb z) hi6
          refine op_loadA rfl rfl rfl rfl (hc2) ?_
          refine op_alloc (cs := [_, _]) rfl rfl fun b15 hb15 => ?_
          refine wp_norm [_, _, _, _] rfl ?_
          refine op_storeP 3 (v := .agg #[.int .i64 _, .int .i64 _]) (vs := [_, _]) (c' := [_, _]) rfl rfl rfl rfl rfl rfl rfl rfl rfl ?_
          refine wp_norm [_, _, _, _] rfl ?_
          refine xp_seq ?_
          refine xp_region rfl ?_
          refine op_pure (pv_fieldAddr rfl rfl rfl rfl 0 rfl) ?_
          refine op_loadP 3 (v := .int .i64 _) rfl rfl rfl rfl ?_
          refine op_pure (pv_of (v := .bool _) rfl) ?_
          refine xp_condT rfl (rfl) ?_
          refine xp_region rfl ?_
          refine op_pure (pv_move (v := .slice _ _ _) rfl) ?_
          refine op_pure (pv_fieldAddr rfl rfl rfl rfl 1 rfl) ?_
          refine op_loadP 3 (v := .int .i64 _) rfl rfl rfl rfl ?_
          refine op_fn (caps := []) (vs := [.slice _ _ _, .int .i64 _]) rfl rfl rfl (withoutR_ok (listN (dK z) 6) i VB cV2 h_z (Z2.ext (Ext.refl _)) (by omega)) ?_
          rintro _ h6 E6 ⟨A6, c6, rfl, R6⟩
          rw [hwl] at R6 ⊢
          refine op_pure (pv_assign (v := .slice _ _ _) rfl) ?_
          refine xp_region rfl ?_
          refine op_pure (pv_move (v := .int .i64 _) rfl) ?_
          refine op_pure (pv_arith rfl (by omega)) ?_
          refine op_pure (pv_assign (v := .int .i64 _) rfl) ?_
          refine ⟨(z + 1, A6, c6), ⟨rfl, rfl, trivial⟩, rfl, rfl, (Ext.trans E_z E6), fun h3 E3 => ⟨hzl, (R6.ext (Ext.refl _)).ext E3⟩, by first | omega | (dsimp only; omega), ?_⟩
          repeat (first | exact off_base _ _ _ | refine off_upd (by decide) ?_ | refine off_updL rfl ?_ | refine off_mix rfl ?_)
        · skip
          have hsc : dK (z + 1) = dK z := hsc.trans (hdK z).symm
          refine op_loadA rfl rfl rfl rfl (hc2) ?_
          refine op_alloc (cs := [_, _]) rfl rfl fun b15_1 hb15_1 => ?_
          refine wp_norm [_, _, _, _] rfl ?_
          refine op_storeP 3 (v := .agg #[.int .i64 _, .int .i64 _]) (vs := [_, _]) (c' := [_, _]) rfl rfl rfl rfl rfl rfl rfl rfl rfl ?_
          refine wp_norm [_, _, _, _] rfl ?_
          refine xp_seq ?_
          refine xp_region rfl ?_
          refine op_pure (pv_fieldAddr rfl rfl rfl rfl 0 rfl) ?_
          refine op_loadP 3 (v := .int .i64 _) rfl rfl rfl rfl ?_
          refine op_pure (pv_of (v := .bool _) rfl) ?_
          refine xp_condF rfl (rfl) ?_
          refine xp_skip ?_
          refine xp_region rfl ?_
          refine op_pure (pv_move (v := .int .i64 _) rfl) ?_
          refine op_pure (pv_arith rfl (by omega)) ?_
          refine op_pure (pv_assign (v := .int .i64 _) rfl) ?_
          refine ⟨(z + 1, VB, cV2), ⟨rfl, slcE (lenE hsc.symm), trivial⟩, rfl, rfl, E_z, fun h3 E3 => ⟨hzl, rowE hsc.symm ((Z2.ext (Ext.refl _)).ext E3)⟩, by first | omega | (dsimp only; omega), ?_⟩
          repeat (first | exact off_base _ _ _ | refine off_upd (by decide) ?_ | refine off_updL rfl ?_ | refine off_mix rfl ?_)
        · skip
          have hsc : dK (z + 1) = dK z := hsc.trans (hdK z).symm
          refine op_loadA rfl rfl rfl rfl (hc2) ?_
          refine op_alloc (cs := [_, _]) rfl rfl fun b15_2 hb15_2 => ?_
          refine wp_norm [_, _, _, _] rfl ?_
          refine op_storeP 3 (v := .agg #[.int .i64 _, .int .i64 _]) (vs := [_, _]) (c' := [_, _]) rfl rfl rfl rfl rfl rfl rfl rfl rfl ?_
          refine wp_norm [_, _, _, _] rfl ?_
          refine xp_seq ?_
          refine xp_region rfl ?_
          refine op_pure (pv_fieldAddr rfl rfl rfl rfl 0 rfl) ?_
          refine op_loadP 3 (v := .int .i64 _) rfl rfl rfl rfl ?_
          refine op_pure (pv_of (v := .bool _) rfl) ?_
          refine xp_condF rfl (rfl) ?_
          refine xp_skip ?_
          refine xp_region rfl ?_
          refine op_pure (pv_move (v := .int .i64 _) rfl) ?_
          refine op_pure (pv_arith rfl (by omega)) ?_
          refine op_pure (pv_assign (v := .int .i64 _) rfl) ?_
          refine ⟨(z + 1, VB, cV2), ⟨rfl, slcE (lenE hsc.symm), trivial⟩, rfl, rfl, E_z, fun h3 E3 => ⟨hzl, rowE hsc.symm ((Z2.ext (Ext.refl _)).ext E3)⟩, by first | omega | (dsimp only; omega), ?_⟩
          repeat (first | exact off_base _ _ _ | refine off_upd (by decide) ?_ | refine off_updL rfl ?_ | refine off_mix rfl ?_)
        · skip
          have hsc : dK (z + 1) = dK z := hsc.trans (hdK z).symm
          refine op_loadA rfl rfl rfl rfl (hc2) ?_
          refine op_alloc (cs := [_, _]) rfl rfl fun b15_3 hb15_3 => ?_
          refine wp_norm [_, _, _, _] rfl ?_
          refine op_storeP 3 (v := .agg #[.int .i64 _, .int .i64 _]) (vs := [_, _]) (c' := [_, _]) rfl rfl rfl rfl rfl rfl rfl rfl rfl ?_
          refine wp_norm [_, _, _, _] rfl ?_
          refine xp_seq ?_
          refine xp_region rfl ?_
          refine op_pure (pv_fieldAddr rfl rfl rfl rfl 0 rfl) ?_
          refine op_loadP 3 (v := .int .i64 _) rfl rfl rfl rfl ?_
          refine op_pure (pv_of (v := .bool _) rfl) ?_
          refine xp_condF rfl (rfl) ?_
          refine xp_skip ?_
          refine xp_region rfl ?_
          refine op_pure (pv_move (v := .int .i64 _) rfl) ?_
          refine op_pure (pv_arith rfl (by omega)) ?_
          refine op_pure (pv_assign (v := .int .i64 _) rfl) ?_
          refine ⟨(z + 1, VB, cV2), ⟨rfl, slcE (lenE hsc.symm), trivial⟩, rfl, rfl, E_z, fun h3 E3 => ⟨hzl, rowE hsc.symm ((Z2.ext (Ext.refl _)).ext E3)⟩, by first | omega | (dsimp only; omega), ?_⟩
          repeat (first | exact off_base _ _ _ | refine off_upd (by decide) ?_ | refine off_updL rfl ?_ | refine off_mix rfl ?_)
      · skip
        have hze : z = l.length := by have := geI hz; omega
        subst hze
        refine xp_exit ?_
        refine xp_seq ?_
        refine xp_region rfl ?_
        refine op_pure (pv_move (v := .slice _ _ _) rfl) ?_
        refine op_pure (pv_assign (v := .slice _ _ _) rfl) ?_
        refine xp_ret ?_
        refine res_list (vs := [_]) Try.results107 ⟨resV_tmp rfl rfl, trivial⟩ fun V => ?_
        exact ⟨(Ext.trans (Ext.trans (Ext.trans (Ext.trans (Ext.trans E1 E_k) E4) E_q) E_z) (ext_wl V)), VB, cV2, rfl, (Z2.ext (Ext.refl _)).ext (ext_wl V)⟩
end
end Go.Proofs.Ythphpbdmbmiaiaa
/- Walks of the reference: Broken, told, Left; what is heard of a machine with faults. Conditions: as each theorem states. -/
namespace Go.Proofs.Ythphpbdmbmiaiaa
open Go Go.HL Go.Proofs Go.Wx Go.Rd
section
variable [Lvl]
set_option maxRecDepth 100000
theorem brokenE_ok {m : MachP} (M : MOK m) {l : List Int} (S : SetOK l (faultsM m).length) {a : HandP} (H : HOK m a) : brokenE m l a = 0 := by
  rw [brokenE, chk_of M, if_neg (by decide), checkSet_iff.2 S, if_neg (by decide), hand_of M H]
theorem BrokenR_ok (m : MachP) (M : MOK m) (l : List Int) (S : SetOK l (faultsM m).length) (a : HandP) (H : HOK m a) (AB AQ AL AW NA HA OA : Option Addr) (cB cQ cL cW cN cH cO : Nat) (hcQ : m.pins.length ≤ cQ) (hcL : m.links.length ≤ cL) (h : AH) (RM : MachR h AB AQ AL AW m) (RN : Row h 1 intC NA l) (RH : HandR h HA OA a) :
    FnT Try.prog 67 #[machV AB AQ AL AW cB cQ cL cW m, .slice NA l.length cN, handV HA OA cH cO a] h (fun v h' => ∃ L, v = .tuple #[L, .int .i64 0] ∧ SlR h' 1 intC (listN (soundsB m (pickL m l) a) 6) L) := by
  have mlv := M.levers
  have mpl := M.pl
  have mll := M.ll
  have fl := faults_len m
  have hll : l.length ≤ (faultsM m).length := set_len S
  have hs : checkSetM l (faultsM m).length = 0 := checkSet_iff.2 S
  have hd : checkHandM m a = 0 := hand_of M H
  have L1 := checkSetR_ok l (faultsM m).length (by omega) NA cN
  rw [hs] at L1
  have L2 := checkHandR_ok m M a AB AQ AL AW HA OA cB cQ cL cW cH cO
  rw [hd] at L2
  refine call_body Try.func67 rfl Try.ntmps67 rfl ?_
  refine xp_seq ?_
  refine xp_region rfl ?_
  refine op_box (v := .agg #[.int .i64 _, .int .i64 _, .int .i64 _, .int .i64 _, .int .i64 _, .slice _ _ _, .slice _ _ _, .slice _ _ _, .slice _ _ _]) (cs := [_, _, _, _, _, _, _, _, _]) rfl rfl fun b3 hb3 => ?_
  refine wp_norm [_] rfl ?_
  refine op_box (v := .agg #[.slice _ _ _, .slice _ _ _]) (cs := [_, _]) rfl rfl fun b5 hb5 => ?_
  refine wp_norm [_, _] rfl ?_
  refine op_pure (pv_assign (v := .slice _ _ _) rfl) ?_
  refine op_pure (pv_assign (v := .int .i64 _) rfl) ?_
  refine xp_seq ?_
  refine xp_seq ?_
  refine xp_region rfl ?_
  refine op_loadPA 0 (vs := [.int .i64 _, .int .i64 _, .int .i64 _, .int .i64 _, .int .i64 _, .slice _ _ _, .slice _ _ _, .slice _ _ _, .slice _ _ _]) rfl rfl rfl rfl rfl ?_
  refine op_fn (caps := []) (vs := [.agg #[.int .i64 _, .int .i64 _, .int .i64 _, .int .i64 _, .int .i64 _, .slice _ _ _, .slice _ _ _, .slice _ _ _, .slice _ _ _]]) rfl rfl rfl (CheckR_ok m M AB AQ AL AW cB cQ cL cW h (RM.ext (Ext.refl _))) ?_
  rintro _ h3 E3 rfl
  refine op_pure (pv_assign (v := .int .i64 _) rfl) ?_
  refine xp_seq ?_
  refine xp_region rfl ?_
  refine op_pure (pv_move (v := .int .i64 _) rfl) ?_
  refine op_pure (pv_of (v := .bool _) rfl) ?_
  refine xp_condF rfl (rfl) ?_
  refine xp_skip ?_
  refine xp_seq ?_
  refine xp_seq ?_
  refine xp_region rfl ?_
  refine op_pure (pv_move (v := .slice _ _ _) rfl) ?_
  refine op_loadPA 0 (vs := [.int .i64 _, .int .i64 _, .int .i64 _, .int .i64 _, .int .i64 _, .slice _ _ _, .slice _ _ _, .slice _ _ _, .slice _ _ _]) rfl rfl rfl rfl rfl ?_
  refine op_fn (caps := []) (vs := [.agg #[.int .i64 _, .int .i64 _, .int .i64 _, .int .i64 _, .int .i64 _, .slice _ _ _, .slice _ _ _, .slice _ _ _, .slice _ _ _]]) rfl rfl rfl (faultsR_ok m M AB AQ AL AW cB cQ cL cW h3) ?_
  rintro _ h4 E4 ⟨FA, cF, rfl, RF⟩
  refine op_pure (pv_len rfl rfl) ?_
  refine op_fn (caps := []) (vs := [.slice _ _ _, .int .i64 _]) rfl rfl rfl (L1 h4 (RN.ext (Ext.trans E3 E4)) (by omega)) ?_
  rintro _ h5 E5 rfl
  refine op_pure (pv_assign (v := .int .i64 _) rfl) ?_
  refine xp_seq ?_
  refine xp_region rfl ?_
  refine op_pure (pv_move (v := .int .i64 _) rfl) ?_
  refine op_pure (pv_of (v := .bool _) rfl) ?_
  refine xp_condF rfl (rfl) ?_
  refine xp_skip ?_
  refine xp_seq ?_
  refine xp_seq ?_
  refine xp_region rfl ?_
  refine op_loadPA 0 (vs := [.int .i64 _, .int .i64 _, .int .i64 _, .int .i64 _, .int .i64 _, .slice _ _ _, .slice _ _ _, .slice _ _ _, .slice _ _ _]) rfl rfl rfl rfl rfl ?_
  refine op_loadPA 1 (vs := [.slice _ _ _, .slice _ _ _]) rfl rfl rfl rfl rfl ?_
  refine op_fn (caps := []) (vs := [.agg _, .agg _]) rfl rfl rfl (L2 h5 (RH.ext (Ext.trans (Ext.trans E3 E4) E5)) (H.blen M) (H.olen M)) ?_
  rintro _ h6 E6 rfl
  refine op_pure (pv_assign (v := .int .i64 _) rfl) ?_
  refine xp_seq ?_
  refine xp_region rfl ?_
  refine op_pure (pv_move (v := .int .i64 _) rfl) ?_
  refine op_pure (pv_of (v := .bool _) rfl) ?_
  refine xp_condF rfl (rfl) ?_
  refine xp_skip ?_
  refine xp_seq ?_
  refine xp_region rfl ?_
  refine op_loadPA 0 (vs := [.int .i64 _, .int .i64 _, .int .i64 _, .int .i64 _, .int .i64 _, .slice _ _ _, .slice _ _ _, .slice _ _ _, .slice _ _ _]) rfl rfl rfl rfl rfl ?_
  refine op_pure (pv_move (v := .slice _ _ _) rfl) ?_
  refine op_loadPA 1 (vs := [.slice _ _ _, .slice _ _ _]) rfl rfl rfl rfl rfl ?_
  refine op_fn (caps := []) (vs := [.agg #[.int .i64 _, .int .i64 _, .int .i64 _, .int .i64 _, .int .i64 _, .slice _ _ _, .slice _ _ _, .slice _ _ _, .slice _ _ _], .slice _ _ _, .agg #[.slice _ _ _, .slice _ _ _]]) rfl rfl rfl (brokenR_ok m M l S a H AB AQ AL AW NA HA OA cB cQ cL cW cN cH cO hcQ hcL h6 (RM.ext (Ext.trans (Ext.trans (Ext.trans E3 E4) E5) E6)) (RN.ext (Ext.trans (Ext.trans (Ext.trans E3 E4) E5) E6)) (RH.ext (Ext.trans (Ext.trans (Ext.trans E3 E4) E5) E6))) ?_
  rintro _ h7 E7 ⟨A7, c7, rfl, R7⟩
  refine op_pure (pv_assign (v := .slice _ _ _) rfl) ?_
  refine op_pure (pv_assign (v := .int .i64 _) rfl) ?_
  refine xp_ret ?_
  refine res_list (vs := [_, _]) Try.results67 ⟨resV_tmp rfl rfl, resV_tmp rfl rfl, trivial⟩ fun V => ?_
  exact ⟨(Ext.trans (Ext.trans (Ext.trans (Ext.trans (Ext.trans E3 E4) E5) E6) E7) (ext_wl V)), _, rfl, A7, c7, rfl, R7.ext (ext_wl V)⟩
/-- What is heard of a machine with some faults. -/
theorem heardOf_ok (b x : Nat) (m : MachP) (M : MOK m) (l : List Int) (S : SetOK l (faultsM m).length) (most : Int) (hm : 0 ≤ most ∧ most ≤ 5) (AB AQ AL AW NA : Option Addr) (cB cQ cL cW cN : Nat) (hcQ : m.pins.length ≤ cQ) (hcL : m.links.length ≤ cL) (h : AH) (RM : MachR h AB AQ AL AW m) (RN : Row h 1 intC NA l) :
    FnM Try.prog (.func (.func 49) #[] ([] : List Value).toArray) [.pointer (some ⟨b, 0, none⟩), machV AB AQ AL AW cB cQ cL cW m, .slice NA l.length cN, .int .i64 most] h [some (b, .cells #[.int .u64 (x : Int)] 97 (0, 0))]
    (fun v h' M' => ∃ (x' : Nat) (hs : List HeardP), M' = [some (b, .cells #[.int .u64 (x' : Int)] 97 (0, 0))] ∧ SlX h' 3 TU hs v ∧ (hs.length : Int) ≤ most ∧ ∀ x ∈ hs, HOK m x.hand ∧ x.sounds = listN (soundsB m (pickL m l) x.hand) 6) := by
  have mbl := M.bl
  have mrg := M.regs
  refine fnM_body rfl rfl Try.func49 rfl Try.ntmps49 rfl ?_
  refine xp_seq ?_
  refine xp_region rfl ?_
  refine op_box (v := .agg #[.int .i64 _, .int .i64 _, .int .i64 _, .int .i64 _, .int .i64 _, .slice _ _ _, .slice _ _ _, .slice _ _ _, .slice _ _ _]) (cs := [_, _, _, _, _, _, _, _, _]) rfl rfl fun b5 hb5 => ?_
  refine wp_norm [_, _] rfl ?_
  refine op_pure (pv_assign (v := .slice _ _ _) rfl) ?_
  refine goes_more ?_
  refine goes_norm [_, _, _] rfl ?_
  refine xp_seq ?_
  refine xp_region rfl ?_
  refine op_pure (pv_assign (v := .slice _ _ _) rfl) ?_
  refine xp_seq ?_
  refine xp_seq ?_
  refine xp_region rfl ?_
  refine op_pure (pv_move (v := .pointer (some ⟨b, 0, none⟩)) rfl) ?_
  refine op_pure (pv_move (v := .int .i64 _) rfl) ?_
  refine op_fnMM [] [_] [_, _] (vs := [.pointer _, .int .i64 _]) rfl rfl rfl ((Upto_ok b x most (by omega) h)) ?_
  rintro _ h3 _ E13 ⟨x3, i0, rfl, rfl, i01, i02⟩
  refine wp_norm [_, _, _] rfl ?_
  refine op_pure (pv_assign (v := .int .i64 _) rfl) ?_
  refine xp_block ?_
  refine xp_loopL [9, 10, 11, 12, 13, 17, 18, 19, 20, 21, 22, 23, 24, 25, 26, 27, 28, 29, 30, 31, 32, 33, 34, 35, 36] 3 (α := Int × Nat × List HeardP × Acc × List (List Value)) (fun ⟨i, y, hs, a, cs⟩ => [(10, .int .i64 i), (9, .slice a.A a.n a.c)]) (fun ⟨i, y, hs, a, cs⟩ L => (L.set 0 (some (b, .cells #[.int .u64 (y : Int)] 97 (0, 0)))).set 2 (a.p)) (fun ⟨i, y, hs, a, cs⟩ h_i => (0 ≤ i ∧ i + hs.length ≤ most) ∧ (∀ x ∈ hs, HOK m x.hand ∧ x.sounds = listN (soundsB m (pickL m l) x.hand) 6) ∧ AccR 78 3 (cs.flatMap id) a ∧ Els h_i TU hs cs ∧ ∀ x ∈ cs, x.length = 3) (fun ⟨i, y, hs, a, cs⟩ => i.toNat) ((i0, x3, [], acc0, [])) ⟨rfl, rfl, trivial⟩ (rfl) (⟨⟨by omega, by simp; omega⟩, fun _ hx => absurd hx List.not_mem_nil, accR0, Els.nil _ _, fun _ hx => absurd hx List.not_mem_nil⟩) ?_
  rintro ⟨i, y, hs, a, cs⟩ T1 h_i E_i J_i
  refine goes_norm [_, _, _] rfl ?_
  obtain ⟨⟨K1, K2⟩, K3, K4, K5, K6⟩ := J_i
  refine xp_seq ?_
  refine xp_seq ?_
  refine xp_region rfl ?_
  refine op_pure (pv_move (v := .int .i64 _) rfl) ?_
  refine op_pure (pv_of (v := .bool _) rfl) ?_
  refine xp_cond rfl (fun hi => ?_) (fun hi => ?_)
  · skip
    have hi0 : 0 < i := of_decide_eq_true hi
    refine xp_skip ?_
    refine xp_seq ?_
    refine xp_block ?_
    refine xp_seq ?_
    refine xp_region rfl ?_
    refine op_pure (pv_move (v := .pointer (some ⟨b, 0, none⟩)) rfl) ?_
    refine op_loadPA 1 (vs := [.int .i64 _, .int .i64 _, .int .i64 _, .int .i64 _, .int .i64 _, .slice _ _ _, .slice _ _ _, .slice _ _ _, .slice _ _ _]) rfl rfl rfl rfl rfl ?_
    refine op_fnMM [] [_] [_, _] (vs := _) rfl rfl rfl ((HandOf_ok b y m (by omega) (by omega) AB AQ AL AW cB cQ cL cW h_i)) ?_
    rintro _ h6 _ E6 ⟨y2, a1, rfl, VH, H⟩
    refine wp_norm [_, _, _] rfl ?_
    obtain ⟨HA, OA, cH, cO, rfl, RH⟩ := VH.open
    refine op_alloc (cs := [_, _]) rfl rfl fun b11 hb11 => ?_
    refine wp_norm [_, _, _, _] rfl ?_
    refine op_storeP 3 (v := .agg #[.slice _ _ _, .slice _ _ _]) (vs := [_, _]) (c' := [_, _]) rfl rfl rfl rfl rfl rfl rfl rfl rfl ?_
    refine wp_norm [_, _, _, _] rfl ?_
    refine xp_seq ?_
    refine xp_region rfl ?_
    refine op_loadPA 1 (vs := [.int .i64 _, .int .i64 _, .int .i64 _, .int .i64 _, .int .i64 _, .slice _ _ _, .slice _ _ _, .slice _ _ _, .slice _ _ _]) rfl rfl rfl rfl rfl ?_
    refine op_pure (pv_move (v := .slice _ _ _) rfl) ?_
    refine op_loadPA 3 (vs := [.slice _ _ _, .slice _ _ _]) rfl rfl rfl rfl rfl ?_
    refine op_fn (caps := []) (vs := [.agg _, .slice _ _ _, .agg _]) rfl rfl rfl (BrokenR_ok m M l S a1 H AB AQ AL AW NA HA OA cB cQ cL cW cN cH cO hcQ hcL h6 (RM.ext (Ext.trans (Ext.trans E13 E_i) E6)) (RN.ext (Ext.trans (Ext.trans E13 E_i) E6)) (RH.ext (Ext.refl _))) ?_
    rintro _ h7 E7 ⟨_, rfl, A7, c7, rfl, S7⟩
    refine op_pure (pv_move (v := .tuple #[.slice _ _ _, .int .i64 _]) rfl) ?_
    refine op_pure (pv_of (v := .slice _ _ _) rfl) ?_
    refine op_pure (pv_of (v := .int .i64 _) rfl) ?_
    refine op_pure (pv_assign (v := .slice _ _ _) rfl) ?_
    refine op_pure (pv_assign (v := .int .i64 _) rfl) ?_
    refine xp_region rfl ?_
    refine op_pure (pv_move (v := .slice _ _ _) rfl) ?_
    refine op_loadPA 3 (vs := [.slice _ _ _, .slice _ _ _]) rfl rfl rfl rfl rfl ?_
    refine op_pure (pv_move (v := .slice _ _ _) rfl) ?_
    refine op_pure (pv_build (zc := [_, _, _]) (vs := [(0, .agg #[.slice _ _ _, .slice _ _ _]), (1, .slice _ _ _)]) (cs := [_, _, _]) rfl rfl rfl rfl rfl rfl) ?_
    refine op_buildSlice (zc := [_, _, _]) (vs := [(0, .agg #[.slice _ _ _, .slice _ _ _, .slice _ _ _])]) (cs := [_, _, _]) rfl rfl rfl rfl rfl rfl rfl fun b35 hb35 => ?_
    refine wp_norm [_, _, _, _, _] rfl ?_
    refine op_appendR 2 K4 rfl rfl rfl (fun V => rdP V (i := 4) rfl) rfl rfl rfl rfl rfl rfl rfl rfl rfl (by omega) rfl (by rw [flat_len (enc := id) (m := 3) K6, K5.1]; simp; omega) fun a2 h2a E2a ha2 => ?_
    refine wp_norm [_, _, _, _, _] rfl ?_
    refine op_pure (pv_assign (v := .slice _ _ _) rfl) ?_
    refine xp_region rfl ?_
    refine op_pure (pv_move (v := .int .i64 _) rfl) ?_
    refine op_pure (pv_arith rfl (by omega)) ?_
    refine op_pure (pv_assign (v := .int .i64 _) rfl) ?_
    refine ⟨(i - 1, y2, hs ++ [⟨a1, listN (soundsB m (pickL m l) a1) 6⟩], a2, cs ++ [[.slice HA a1.buttons.length cH, .slice OA a1.on.length cO, .slice A7 (listN (soundsB m (pickL m l) a1) 6).length c7]]), ⟨rfl, rfl, trivial⟩, rfl, rfl, (Ext.trans (Ext.trans (Ext.trans E_i E6) E7) E2a), fun h3 E3 => ⟨⟨by omega, by simp; omega⟩, mem_one K3 ⟨H, rfl⟩, by rw [List.flatMap_append]; exact ha2, (Els.snoc (K5.ext TU.mono (Ext.trans (Ext.trans E6 E7) E2a)) (tu_of (RH.ext (Ext.trans E7 E2a)) (S7.ext E2a))).ext TU.mono E3, three_len K6 rfl⟩, by first | omega | (dsimp only; omega), ?_⟩
    repeat (first | exact off_base _ _ _ | refine off_upd (by decide) ?_ | refine off_updL rfl ?_ | refine off_mix rfl ?_)
  · skip
    obtain ⟨p8, A8, n8, c8⟩ := a
    obtain rfl : n8 = hs.length := by have := AccR.len K4; rw [flat_len (enc := id) (m := 3) K6, K5.1] at this; dsimp only at this; omega
    dsimp only at *
    refine goes_pubO 2 rfl ?_
    intro g8 G8 P8
    refine goes_norm [_, _, _] rfl ?_
    have RU : Row g8 3 id A8 cs := ⟨K6, AccR.rd K4 P8⟩
    have EU : Els g8 TU hs cs := K5.ext TU.mono G8
    refine xp_exit ?_
    refine xp_seq ?_
    refine xp_region rfl ?_
    refine op_pure (pv_move (v := .slice _ _ _) rfl) ?_
    refine op_pure (pv_assign (v := .slice _ _ _) rfl) ?_
    refine xp_ret ?_
    refine res_list (vs := [_]) Try.results49 ⟨resV_tmp rfl rfl, trivial⟩ fun V => ?_
    obtain ⟨h9, E9, e9, V9⟩ := wl_drop [_, _] [_] V
    exact ⟨h9, _, e9, V9, Ext.trans (Ext.trans (Ext.trans E13 E_i) G8) E9, y, hs, rfl, SlX.of (RU.ext E9) (EU.ext TU.mono E9) rfl, by omega, K3⟩
end
end Go.Proofs.Ythphpbdmbmiaiaa
/- Walks: copies of what was heard; how many are left. Conditions: as each theorem states. -/
namespace Go.Proofs.Ythphpbdmbmiaiaa
open Go Go.HL Go.Proofs Go.Wx Go.Rd
section
variable [Lvl]
set_option maxRecDepth 100000
end
end Go.Proofs.Ythphpbdmbmiaiaa
/- Walks: after the hand of Test as few are left as it says, and no hand is better. Conditions: as each theorem states. -/
namespace Go.Proofs.Ythphpbdmbmiaiaa
open Go Go.HL Go.Proofs Go.Wx Go.Rd
section
variable [Lvl]
set_option maxRecDepth 100000
end
end Go.Proofs.Ythphpbdmbmiaiaa
/- Walks: a set of at most two faults. Conditions: as each theorem states. -/
namespace Go.Proofs.Ythphpbdmbmiaiaa
open Go Go.HL Go.Proofs Go.Wx Go.Rd
section
variable [Lvl]
set_option maxRecDepth 100000
theorem row_two {h : AH} {b : Nat} {z y : Int} {e : TypeId} {f : Nat × Nat} (hb : h b = some (.cells #[.int .i64 z, .int .i64 y] e f)) : Row h 1 intC (some ⟨b, 0, none⟩) [z, y] :=
  ⟨fun _ _ => rfl, fun _ => ⟨b, 0, rfl, cellsB (cs := [.int .i64 z, .int .i64 y]) hb⟩⟩
theorem set_one {n : Int} {z : Int} (h : 0 ≤ z ∧ z < n) : SetOK [z] n := ⟨fun x hx => by simp at hx; omega, by simp⟩
theorem set_two {n : Int} {z y : Int} (h : 0 ≤ z ∧ z < n) (h' : 0 ≤ y ∧ y < n) (hne : z ≠ y) : SetOK [min z y, max z y] n := by
  refine ⟨fun x hx => ?_, ?_⟩
  · simp at hx
    rcases hx with rfl | rfl <;> omega
  · simp; omega
set_option maxHeartbeats 4000000 in
theorem faultsOf_ok (b x : Nat) (m : MachP) (M : MOK m) (AB AQ AL AW : Option Addr) (cB cQ cL cW : Nat) (h : AH) (RM : MachR h AB AQ AL AW m) :
    FnM Try.prog (.func (.func 63) #[] ([] : List Value).toArray) [.pointer (some ⟨b, 0, none⟩), machV AB AQ AL AW cB cQ cL cW m] h [some (b, .cells #[.int .u64 (x : Int)] 97 (0, 0))]
    (fun v h' M' => ∃ (x' : Nat) (ls : List Int), M' = [some (b, .cells #[.int .u64 (x' : Int)] 97 (0, 0))] ∧ SlR h' 1 intC ls v ∧ SetOK ls (faultsM m).length ∧ ls.length ≤ 2) := by
  have mlv := M.levers
  have mpl := M.pl
  have mll := M.ll
  have fln := faults_len m
  refine fnM_body rfl rfl Try.func63 rfl Try.ntmps63 rfl ?_
  refine xp_seq ?_
  refine xp_region rfl ?_
  refine op_box (v := .agg #[.int .i64 _, .int .i64 _, .int .i64 _, .int .i64 _, .int .i64 _, .slice _ _ _, .slice _ _ _, .slice _ _ _, .slice _ _ _]) (cs := [_, _, _, _, _, _, _, _, _]) rfl rfl fun b3 hb3 => ?_
  refine wp_norm [_, _] rfl ?_
  refine op_pure (pv_assign (v := .slice _ _ _) rfl) ?_
  refine xp_seq ?_
  refine xp_region rfl ?_
  refine op_loadPA 1 (vs := [.int .i64 _, .int .i64 _, .int .i64 _, .int .i64 _, .int .i64 _, .slice _ _ _, .slice _ _ _, .slice _ _ _, .slice _ _ _]) rfl rfl rfl rfl rfl ?_
  refine op_fn (caps := []) (vs := [.agg #[.int .i64 _, .int .i64 _, .int .i64 _, .int .i64 _, .int .i64 _, .slice _ _ _, .slice _ _ _, .slice _ _ _, .slice _ _ _]]) rfl rfl rfl (FaultsR_ok m M AB AQ AL AW cB cQ cL cW h (RM.ext (Ext.refl _))) ?_
  rintro _ h13 E13 ⟨_, rfl, A3, c3, rfl, S3⟩
  refine op_pure (pv_move (v := .tuple #[.slice _ _ _, .int .i64 _]) rfl) ?_
  refine op_pure (pv_of (v := .slice _ _ _) rfl) ?_
  refine op_pure (pv_of (v := .int .i64 _) rfl) ?_
  refine op_pure (pv_assign (v := .slice _ _ _) rfl) ?_
  refine op_pure (pv_assign (v := .int .i64 _) rfl) ?_
  refine xp_seq ?_
  refine xp_region rfl ?_
  refine op_pure (pv_move (v := .pointer (some ⟨b, 0, none⟩)) rfl) ?_
  refine op_pure (pv_move (v := .slice _ _ _) rfl) ?_
  refine op_pure (pv_len rfl rfl) ?_
  refine op_pure (pv_arith rfl (by omega)) ?_
  refine op_fnMM [] [_] [_] (vs := [.pointer _, .int .i64 _]) rfl rfl rfl ((Upto_ok b x ((faultsM m).length - 1) (by omega) h13)) ?_
  rintro _ h4 _ E4 ⟨x4, a, rfl, rfl, a1, a2⟩
  refine wp_norm [_, _] rfl ?_
  refine op_pure (pv_move (v := .pointer (some ⟨b, 0, none⟩)) rfl) ?_
  refine op_pure (pv_move (v := .slice _ _ _) rfl) ?_
  refine op_pure (pv_len rfl rfl) ?_
  refine op_pure (pv_arith rfl (by omega)) ?_
  refine op_fnMM [] [_] [_] (vs := [.pointer _, .int .i64 _]) rfl rfl rfl ((Upto_ok b x4 ((faultsM m).length - 1) (by omega) h4)) ?_
  rintro _ h5 _ E5 ⟨x5, d, rfl, rfl, d1, d2⟩
  refine wp_norm [_, _] rfl ?_
  refine op_pure (pv_assign (v := .int .i64 _) rfl) ?_
  refine op_pure (pv_assign (v := .int .i64 _) rfl) ?_
  refine xp_seq ?_
  refine xp_block ?_
  refine xp_seq ?_
  refine xp_region rfl ?_
  refine op_pure (pv_move (v := .pointer (some ⟨b, 0, none⟩)) rfl) ?_
  refine op_fnMM [] [_] [_] (vs := [.pointer _, .int .i64 _, .int .i64 _]) rfl rfl rfl ((Odds_ok b x5 1 4 (by omega) h5)) ?_
  rintro _ h6 _ E6 ⟨x6, u, rfl, rfl⟩
  refine wp_norm [_, _] rfl ?_
  have ha : 0 ≤ a ∧ a < (faultsM m).length := by omega
  have hd : 0 ≤ d ∧ d < (faultsM m).length := by omega
  refine op_pure (pv_assign (v := .bool _) rfl) ?_
  refine xp_cond rfl (fun hu => ?_) (fun hu => ?_)
  · skip
    refine xp_seq ?_
    refine xp_region rfl ?_
    refine op_pure (pv_assign (v := .slice _ _ _) rfl) ?_
    refine xp_ret ?_
    refine res_list (vs := [_]) Try.results63 ⟨resV_tmp rfl rfl, trivial⟩ fun V => ?_
    obtain ⟨h9, E9, e9, V9⟩ := wl_drop [_] [_] V
    exact ⟨h9, _, e9, V9, Ext.trans (Ext.trans (Ext.trans (Ext.trans E13 E4) E5) E6) E9, x6, [], rfl, ⟨none, 0, rfl, row_nil _ _⟩, set_nil _, by simp⟩
  · skip
    by_cases he : a = d
    · skip
      have he' : (a == d) = true := by simpa using he
      refine xp_seq ?_
      refine xp_region rfl ?_
      refine op_pure (pv_move (v := .int .i64 _) rfl) ?_
      refine op_pure (pv_move (v := .int .i64 _) rfl) ?_
      refine op_pure (pv_of (v := .bool _) rfl) ?_
      refine op_pure (pv_move (v := .bool _) rfl) ?_
      refine guard_no rfl he' ?_
      refine guard_no rfl he' ?_
      refine op_pure (pv_pickT rfl he' (v := .bool _) rfl) ?_
      refine op_pure (pv_assign (v := .bool _) rfl) ?_
      refine xp_condT rfl (rfl) ?_
      refine xp_seq ?_
      refine xp_region rfl ?_
      refine op_pure (pv_move (v := .int .i64 _) rfl) ?_
      refine op_buildSlice (zc := [_]) (vs := [(0, .int .i64 _)]) (cs := [_]) rfl rfl rfl rfl rfl rfl rfl fun b36 hb36 => ?_
      refine wp_norm [_, _, _] rfl ?_
      refine wp_pub 2 rfl rfl ?_
      intro g1 G1 p1
      refine wp_norm [_, _, _] rfl ?_
      refine op_pure (pv_assign (v := .slice _ _ _) rfl) ?_
      refine xp_ret ?_
      refine res_list (vs := [_]) Try.results63 ⟨resV_tmp rfl rfl, trivial⟩ fun V => ?_
      obtain ⟨h9, E9, e9, V9⟩ := wl_drop [_, _] [_] V
      exact ⟨h9, _, e9, V9, Ext.trans (Ext.trans (Ext.trans (Ext.trans (Ext.trans E13 E4) E5) E6) G1) E9, x6, [a], rfl, ⟨_, _, rfl, (row_one p1).ext E9⟩, set_one ha, by simp⟩
    · skip
      have he' : (a == d) = false := by simpa using he
      refine xp_seq ?_
      refine xp_region rfl ?_
      refine op_pure (pv_move (v := .int .i64 _) rfl) ?_
      refine op_pure (pv_move (v := .int .i64 _) rfl) ?_
      refine op_pure (pv_of (v := .bool _) rfl) ?_
      refine op_pure (pv_move (v := .bool _) rfl) ?_
      refine guard_yes rfl he' ?_
      refine op_pure (pv_move (v := .pointer (some ⟨b, 0, none⟩)) rfl) ?_
      refine guard_yes rfl he' ?_
      refine op_fnMM [] [_] [_] (vs := [.pointer _, .int .i64 _, .int .i64 _]) rfl rfl rfl ((Odds_ok b x6 1 2 (by omega) h6)) ?_
      rintro _ h7 _ E7 ⟨x7, u7, rfl, rfl⟩
      refine wp_norm [_, _] rfl ?_
      refine op_pure (pv_pickF rfl he' (v := .bool _) rfl) ?_
      refine op_pure (pv_assign (v := .bool _) rfl) ?_
      refine xp_cond rfl (fun hv => ?_) (fun hv => ?_)
      · skip
        refine xp_seq ?_
        refine xp_region rfl ?_
        refine op_pure (pv_move (v := .int .i64 _) rfl) ?_
        refine op_buildSlice (zc := [_]) (vs := [(0, .int .i64 _)]) (cs := [_]) rfl rfl rfl rfl rfl rfl rfl fun b36_1 hb36_1 => ?_
        refine wp_norm [_, _, _] rfl ?_
        refine wp_pub 2 rfl rfl ?_
        intro g1 G1 p1
        refine wp_norm [_, _, _] rfl ?_
        refine op_pure (pv_assign (v := .slice _ _ _) rfl) ?_
        refine xp_ret ?_
        refine res_list (vs := [_]) Try.results63 ⟨resV_tmp rfl rfl, trivial⟩ fun V => ?_
        obtain ⟨h9, E9, e9, V9⟩ := wl_drop [_, _] [_] V
        exact ⟨h9, _, e9, V9, Ext.trans (Ext.trans (Ext.trans (Ext.trans (Ext.trans (Ext.trans E13 E4) E5) E6) E7) G1) E9, x7, [a], rfl, ⟨_, _, rfl, (row_one p1).ext E9⟩, set_one ha, by simp⟩
      · skip
        refine xp_skip ?_
        refine xp_seq ?_
        refine xp_region rfl ?_
        refine op_pure (pv_move (v := .int .i64 _) rfl) ?_
        refine op_pure (pv_move (v := .int .i64 _) rfl) ?_
        refine op_pure (pv_min rfl rfl) ?_
        refine op_pure (pv_move (v := .int .i64 _) rfl) ?_
        refine op_pure (pv_move (v := .int .i64 _) rfl) ?_
        refine op_pure (pv_max rfl rfl) ?_
        refine op_buildSlice (zc := [_]) (vs := [(0, .int .i64 _), (1, .int .i64 _)]) (cs := [_, _]) rfl rfl rfl rfl rfl rfl rfl fun b43 hb43 => ?_
        refine wp_norm [_, _, _] rfl ?_
        refine wp_pub 2 rfl rfl ?_
        intro g1 G1 p1
        refine wp_norm [_, _, _] rfl ?_
        refine op_pure (pv_assign (v := .slice _ _ _) rfl) ?_
        refine xp_ret ?_
        refine res_list (vs := [_]) Try.results63 ⟨resV_tmp rfl rfl, trivial⟩ fun V => ?_
        obtain ⟨h9, E9, e9, V9⟩ := wl_drop [_, _] [_] V
        exact ⟨h9, _, e9, V9, Ext.trans (Ext.trans (Ext.trans (Ext.trans (Ext.trans (Ext.trans E13 E4) E5) E6) E7) G1) E9, x7, [min a d, max a d], rfl, ⟨_, _, rfl, (row_two p1).ext E9⟩, set_two ha hd he, by simp⟩
end
end Go.Proofs.Ythphpbdmbmiaiaa
/- Walks of package rod: Useless. Conditions: as each theorem states. -/
namespace Go.Proofs.Ythphpbdmbmiaiaa
open Go Go.HL Go.Proofs Go.Wx Go.Rd
section
variable [Lvl]
set_option maxRecDepth 100000
def alikeB (m : MachP) (i : Nat) (a : HandP) : Bool := decide (soundsB m [.pin i] a = soundsB m [] a)
def uselessB (m : MachP) (i : Nat) : Bool := (handsM m).all (alikeB m i)
def uselessN (m : MachP) (k : Nat) : List Int := ((List.range k).filter (uselessB m)).map fun i : Nat => (i : Int)
theorem uselessN_succ (m : MachP) (k : Nat) : uselessN m (k + 1) = uselessN m k ++ if uselessB m k then [(k : Int)] else [] := by
  unfold uselessN
  rw [List.range_succ, List.filter_append, List.map_append]
  congr 1
  by_cases h : uselessB m k = true
  · simp [h]
  · simp [h]
theorem uselessN_len (m : MachP) : ∀ k, (uselessN m k).length ≤ k
  | 0 => Nat.le_refl _
  | k + 1 => by
    have := uselessN_len m k
    rw [uselessN_succ, List.length_append]
    split <;> simp <;> omega
def uselessL (m : MachP) : List Int := if chkM m = 0 then uselessN m m.pins.length else []
def UseI (m : MachP) (q : Nat) (p1 p5 p8 : Nat × Obj) (pa : Option (Nat × Obj)) (l : Nat) (r : Loop) (h0 : AH) (k : Nat) (h : AH) (M : Pv) : Prop :=
  Ext h0 h ∧ (∀ i x, i < k → (handsM m)[i]? = some x → alikeB m q x = true) ∧ M = [some p1, some p5, pa, none, some p8, some (l, obL r .ready none)]
def UseF (m : MachP) (q : Nat) (p1 p5 p8 : Nat × Obj) (pa : Option (Nat × Obj)) (l : Nat) (r : Loop) (h0 : AH) (h : AH) (M : Pv) : Prop :=
  Ext h0 h ∧ uselessB m q = false ∧ M = [some p1, some p5, pa, none, some p8, some (l, obL r .done (some (.exit 1)))]
theorem UseI.ext {m : MachP} {q : Nat} {p1 p5 p8 : Nat × Obj} {pa : Option (Nat × Obj)} {l : Nat} {r : Loop} {h0 h h' : AH} {k : Nat} {M : Pv} (I : UseI m q p1 p5 p8 pa l r h0 k h M) (E : Ext h h') : UseI m q p1 p5 p8 pa l r h0 k h' M := ⟨I.1.trans E, I.2⟩
theorem UseF.ext {m : MachP} {q : Nat} {p1 p5 p8 : Nat × Obj} {pa : Option (Nat × Obj)} {l : Nat} {r : Loop} {h0 h h' : AH} {M : Pv} (I : UseF m q p1 p5 p8 pa l r h0 h M) (E : Ext h h') : UseF m q p1 p5 p8 pa l r h0 h' M := ⟨I.1.trans E, I.2⟩
theorem useless_no {m : MachP} {q k : Nat} {x : HandP} (h : (handsM m)[k]? = some x) (hx : alikeB m q x = false) : uselessB m q = false := by
  unfold uselessB
  rw [List.all_eq_false]
  exact ⟨x, List.mem_of_getElem? h, by rw [hx]; decide⟩
theorem useless_yes {m : MachP} {q : Nat} (h : ∀ i x, i < (handsM m).length → (handsM m)[i]? = some x → alikeB m q x = true) : uselessB m q = true := by
  unfold uselessB
  rw [List.all_eq_true]
  intro x hx
  obtain ⟨i, hi, rfl⟩ := List.getElem_of_mem hx
  exact h i _ hi (List.getElem?_eq_getElem hi)
set_option maxHeartbeats 4000000 in
theorem Useless_ok (hph : Lvl.ph = true) (m : MachP) (AB AQ AL AW : Option Addr) (cB cQ cL cW : Nat) (h : AH) (RM : MachR h AB AQ AL AW m) (h0 : m.weights.length < 2 ^ 40) :
    FnT Try.prog 62 #[machV AB AQ AL AW cB cQ cL cW m] h (fun v h' => ∃ L, v = .tuple #[L, .int .i64 (chkM m)] ∧ SlR h' 1 intC (uselessL m) L) := by
  refine call_body Try.func62 rfl Try.ntmps62 rfl ?_
  refine xp_seq ?_
  refine xp_region rfl ?_
  refine op_box (v := .agg #[.int .i64 _, .int .i64 _, .int .i64 _, .int .i64 _, .int .i64 _, .slice _ _ _, .slice _ _ _, .slice _ _ _, .slice _ _ _]) (cs := [_, _, _, _, _, _, _, _, _]) rfl rfl fun b1 hb1 => ?_
  refine wp_norm [_] rfl ?_
  refine op_pure (pv_assign (v := .slice _ _ _) rfl) ?_
  refine op_pure (pv_assign (v := .int .i64 _) rfl) ?_
  refine xp_scope ?_
  refine xp_seq ?_
  refine xp_seq ?_
  refine xp_region rfl ?_
  refine op_loadPA 0 (vs := [.int .i64 _, .int .i64 _, .int .i64 _, .int .i64 _, .int .i64 _, .slice _ _ _, .slice _ _ _, .slice _ _ _, .slice _ _ _]) rfl rfl rfl rfl rfl ?_
  refine op_fn (caps := []) (vs := [.agg #[.int .i64 _, .int .i64 _, .int .i64 _, .int .i64 _, .int .i64 _, .slice _ _ _, .slice _ _ _, .slice _ _ _, .slice _ _ _]]) rfl rfl rfl (Check_ok m AB AQ AL AW cB cQ cL cW h (RM.ext (Ext.refl _)) h0) ?_
  rintro _ h3 E13 rfl
  refine op_pure (pv_assign (v := .int .i64 _) rfl) ?_
  refine xp_seq ?_
  refine xp_region rfl ?_
  refine op_pure (pv_move (v := .int .i64 _) rfl) ?_
  refine op_pure (pv_of (v := .bool _) rfl) ?_
  refine xp_cond rfl (fun hc => ?_) (fun hc => ?_)
  · skip
    have hc' : chkM m ≠ 0 := by simpa using hc
    refine xp_seq ?_
    refine xp_region rfl ?_
    refine op_pure (pv_move (v := .int .i64 _) rfl) ?_
    refine op_pure (pv_assign (v := .slice _ _ _) rfl) ?_
    refine op_pure (pv_assign (v := .int .i64 _) rfl) ?_
    refine xp_ret ?_
    refine res_list (vs := [_, _]) Try.results62 ⟨resV_tmp rfl rfl, resV_tmp rfl rfl, trivial⟩ fun V => ?_
    exact ⟨(Ext.trans E13 (ext_wl V)), _, rfl, none, 0, by rw [uselessL, if_neg hc']; rfl, by rw [uselessL, if_neg hc']; exact row_nil _ _⟩
  · skip
    have hc' : chkM m = 0 := by simpa using hc
    have M := check_ok hc'
    have mpl := M.pl
    have mbl := M.bl
    have mrg := M.regs
    rw [hc', uselessL, if_pos hc']
    refine xp_skip ?_
    refine xp_seq ?_
    refine xp_region rfl ?_
    refine op_loadPA 0 (vs := [.int .i64 _, .int .i64 _, .int .i64 _, .int .i64 _, .int .i64 _, .slice _ _ _, .slice _ _ _, .slice _ _ _, .slice _ _ _]) rfl rfl rfl rfl rfl ?_
    refine op_fn (caps := []) (vs := [.agg #[.int .i64 _, .int .i64 _, .int .i64 _, .int .i64 _, .int .i64 _, .slice _ _ _, .slice _ _ _, .slice _ _ _, .slice _ _ _], .slice _ _ _]) rfl rfl rfl (broken_ok m M [] (fun f hf => absurd hf List.not_mem_nil) (by decide) AB AQ AL AW none cB cQ cL cW 0 h3 (RM.ext E13) (row_fnil _ _)) ?_
    rintro _ h6 E6 ⟨z1, z2, z3, z4, rfl, BB⟩
    refine op_alloc (cs := [_]) rfl rfl fun b5 hb5 => ?_
    refine wp_norm [_, _] rfl ?_
    refine op_storeP 1 (v := _) (vs := [_]) (c' := [_]) rfl rfl rfl rfl rfl rfl rfl rfl rfl ?_
    refine wp_norm [_, _] rfl ?_
    refine goes_more ?_
    refine goes_norm [_, _, _] rfl ?_
    refine xp_seq ?_
    refine xp_region rfl ?_
    refine op_pure (pv_assign (v := .slice _ _ _) rfl) ?_
    refine xp_seq ?_
    refine xp_label ?_
    refine xp_seq ?_
    refine xp_seq ?_
    refine xp_region rfl ?_
    refine op_pure (pv_fieldAddr rfl rfl rfl rfl 6 rfl) ?_
    refine op_loadP 0 (v := .slice _ _ _) rfl rfl rfl rfl ?_
    refine op_pure (pv_len rfl rfl) ?_
    refine op_pure (pv_move (v := .int .i64 _) rfl) ?_
    refine xp_block ?_
    refine xp_loopD [6, 7, 8, 9, 20, 21, 22, 23, 24, 25, 26, 27, 28, 29, 30, 31, 32, 33, 34, 35, 36, 37, 38, 39, 40, 41, 42] 3 (α := Nat × Acc) (fun ⟨k, a⟩ => [(20, .int .i64 k), (6, .slice a.A a.n a.c)]) (fun ⟨k, a⟩ L => L.set 2 (a.p)) (fun ⟨k, a⟩ h_k => k ≤ m.pins.length ∧ AccR 3 1 ((uselessN m k).flatMap intC) a) (fun ⟨k, a⟩ => m.pins.length - k) ((0, acc0)) ⟨rfl, rfl, trivial⟩ (rfl) (⟨Nat.zero_le _, accR0⟩) (rfl) ?_
    rintro ⟨k, a⟩ T1 h_k E_k J_k D_k hD_k
    refine goes_norm [_, _, _] rfl ?_
    obtain ⟨K1, K2⟩ := J_k
    refine xp_seq ?_
    refine xp_region rfl ?_
    refine op_pure (pv_of (v := .bool _) rfl) ?_
    refine xp_seq ?_
    refine xp_cond rfl (fun hk => ?_) (fun hk => ?_)
    · skip
      have hkl : k < m.pins.length := ltI hk
      have hfk : ∀ f ∈ [FaultP.pin k], FOK m f := fun f hf => by simp at hf; subst hf; exact hkl
      refine xp_skip ?_
      refine xp_seq ?_
      refine xp_block ?_
      refine xp_seq ?_
      refine xp_region rfl ?_
      refine op_pure (pv_move (v := .int .i64 _) rfl) ?_
      refine op_pure (pv_assign (v := .int .i64 _) rfl) ?_
      refine xp_seq ?_
      refine xp_region rfl ?_
      refine op_loadPA 0 (vs := [.int .i64 _, .int .i64 _, .int .i64 _, .int .i64 _, .int .i64 _, .slice _ _ _, .slice _ _ _, .slice _ _ _, .slice _ _ _]) rfl rfl rfl rfl rfl ?_
      refine op_pure (pv_move (v := .int .i64 _) rfl) ?_
      refine op_pure (pv_of (v := _) rfl) ?_
      refine op_buildSlice (zc := [_]) (vs := [(0, _)]) (cs := [_]) rfl rfl rfl rfl rfl rfl rfl fun b26 hb26 => ?_
      refine wp_norm [_, _, _, _] rfl ?_
      refine wp_pub 3 rfl rfl ?_
      intro g1 G1 p1
      refine wp_norm [_, _, _, _] rfl ?_
      have R1 : Row g1 1 faultC (some ⟨b26, 0, none⟩) [FaultP.pin k] := ⟨fun _ _ => rfl, fun _ => ⟨b26, 0, rfl, cellsB (cs := [faultV (.pin k)]) p1⟩⟩
      refine op_fn (caps := []) (vs := [.agg _, .slice _ _ _]) rfl rfl rfl (broken_ok m M [.pin k] hfk (by show 1 < 2 ^ 20; decide) AB AQ AL AW _ cB cQ cL cW 1 g1 (RM.ext (Ext.trans (Ext.trans (Ext.trans E13 E6) E_k) G1)) R1) ?_
      rintro _ h7 E7 ⟨y1, y2, y3, y4, rfl, BY⟩
      refine op_alloc (cs := [_]) rfl rfl fun b8 hb8 => ?_
      refine wp_norm [_, _, _, _, _] rfl ?_
      refine op_storeP 4 (v := _) (vs := [_]) (c' := [_]) rfl rfl rfl rfl rfl rfl rfl rfl rfl ?_
      refine wp_norm [_, _, _, _, _] rfl ?_
      refine xp_seq ?_
      refine xp_seq ?_
      refine xp_region rfl ?_
      refine op_loadPA 0 (vs := [.int .i64 _, .int .i64 _, .int .i64 _, .int .i64 _, .int .i64 _, .slice _ _ _, .slice _ _ _, .slice _ _ _, .slice _ _ _]) rfl rfl rfl rfl rfl ?_
      refine op_fn (caps := []) (vs := [.agg #[.int .i64 _, .int .i64 _, .int .i64 _, .int .i64 _, .int .i64 _, .slice _ _ _, .slice _ _ _, .slice _ _ _, .slice _ _ _]]) rfl rfl rfl (hands_ok m (by omega) (by omega) AB AQ AL AW cB cQ cL cW h7) ?_
      rintro yv h8 E8 It
      refine xp_block ?_
      have E08 := (Ext.trans (Ext.trans (Ext.trans (Ext.trans (Ext.trans E13 E6) E_k) G1) E7) E8)
      have E68 := (Ext.trans (Ext.trans (Ext.trans E_k G1) E7) E8)
      have E78 := E8
      have EK8 := (Ext.trans (Ext.trans G1 E7) E8)
      refine xp_rangeFunc rfl ?_
      intro r l lp htm hpr has hbd V0
      refine CallV.mono (It (.yield l) #[] #[] (UseI m k (b1, .cells #[.int .i64 m.rods, .int .i64 m.levers, .int .i64 m.regs, .int .i64 m.travel, .int .i64 m.opn, .slice AB m.buttons.length cB, .slice AQ m.pins.length cQ, .slice AL m.links.length cL, .slice AW m.weights.length cW] 28 (0, 0)) (b5, .cells #[brkY z1 z2 z3 z4] 127 (0, 0)) (b8, .cells #[brkY y1 y2 y3 y4] 127 (0, 0)) a.p l lp h8) (UseF m k (b1, .cells #[.int .i64 m.rods, .int .i64 m.levers, .int .i64 m.regs, .int .i64 m.travel, .int .i64 m.opn, .slice AB m.buttons.length cB, .slice AQ m.pins.length cQ, .slice AL m.links.length cL, .slice AW m.weights.length cW] 28 (0, 0)) (b5, .cells #[brkY z1 z2 z3 z4] 127 (0, 0)) (b8, .cells #[brkY y1 y2 y3 y4] 127 (0, 0)) a.p l lp h8) (fun k h1 h2 M E I => I.ext E) (fun h1 h2 M E I => I.ext E) ?_ h8 _ (Ext.refl _) ⟨Ext.refl _, fun i s hi => absurd hi (Nat.not_lt_zero _), rfl⟩ V0) ?_ (fun _ _ y => y)
      · rintro i x v hcl M' hi hT ⟨E9, I1, rfl⟩
        obtain ⟨HB, OB, cHB, cOB, rfl, RX⟩ := HandV.open hT
        have HX : HOK m x := hands_hok ⟨mrg.1, mrg.2⟩ hi
        intro V
        refine callV_yield (wl_get V (i := 5) rfl) hpr rfl htm has hbd ?_
        refine round_enter (i := 5) (r := lp) ?_ V
        refine goes_norm [_, _, _, _, _, _] rfl ?_
        refine xp_region rfl ?_
        refine op_alloc (cs := [_, _]) rfl rfl fun b9 hb9 => ?_
        refine wp_norm [_, _, _, _, _, _, _] rfl ?_
        refine op_storeP 6 (v := .agg #[.slice _ _ _, .slice _ _ _]) (vs := [_, _]) (c' := [_, _]) rfl rfl rfl rfl rfl rfl rfl rfl rfl ?_
        refine wp_norm [_, _, _, _, _, _, _] rfl ?_
        refine ⟨rfl, none, rfl, ?_⟩
        refine goes_norm [_, _, _, _, _, _, _] rfl ?_
        refine xp_block ?_
        refine xp_seq ?_
        refine xp_dw [] rfl rfl rfl ?_
        refine dw_load (i := 0) rfl (by decide +kernel) ?_
        refine op_loadP 4 (v := _) rfl rfl rfl rfl ?_
        refine dw_load (i := 1) rfl (by decide +kernel) ?_
        refine op_loadPA 6 (vs := [.slice _ _ _, .slice _ _ _]) rfl rfl rfl rfl rfl ?_
        refine dw_load (i := 3) rfl (by decide +kernel) ?_
        refine op_loadP 1 (v := _) rfl rfl rfl rfl ?_
        refine dw_load (i := 4) rfl (by decide +kernel) ?_
        refine op_loadPA 6 (vs := [.slice _ _ _, .slice _ _ _]) rfl rfl rfl rfl rfl ?_
        refine dw_eff (i := 2) rfl (by decide +kernel) ?_
        refine op_fn  (vs := _) rfl rfl rfl (brk_ok hph m M [.pin k] hfk x HX y1 y2 y3 y4 HB OB cHB cOB hcl (BY.ext (Ext.trans E78 (Ext.trans E9 (Ext.refl _)))) (RX.ext (Ext.refl _))) ?_
        rintro _ h10 E10 rfl
        refine ⟨ext_wlm E10 _, ?_⟩
        refine dw_last (i := 5) rfl (by decide +kernel) (by decide +kernel) ?_
        refine op_fn  (vs := _) rfl rfl rfl (brk_ok hph m M [] (fun f hf => absurd hf List.not_mem_nil) x HX z1 z2 z3 z4 HB OB cHB cOB h10 (BB.ext (Ext.trans E68 (Ext.trans E9 E10))) (RX.ext E10)) ?_
        rintro _ h11 E11 rfl
        refine dw_pure (i := 6) rfl (by decide +kernel) (pv_of (v := .bool _) rfl) ?_
        refine dw_end rfl ?_
        refine xp_cond rfl (fun he => ?_) (fun he => ?_)
        · skip
          have hp : alikeB m k x = false := by
            have : ¬ soundsB m [.pin k] x = soundsB m [] x := by
              have : ((soundsB m [.pin k] x : Nat) : Int) ≠ ((soundsB m [] x : Nat) : Int) := by simpa using he
              omega
            exact decide_eq_false this
          refine xp_exit ?_
          intro V2
          have V3 := valid_set (o' := obL lp .done (some (.exit 1))) V2 (i := 5) rfl
          obtain ⟨h99, E99, e9, V9⟩ := wl_drop [_] [_, _, _, _, _, _] V3
          exact ⟨rfl, ⟨_, _, rfl⟩, h99, _, e9, V9, Ext.trans (Ext.trans E10 E11) E99, .inr ⟨rfl, Ext.trans E9 (Ext.trans (Ext.trans E10 E11) E99), useless_no hi hp, rfl⟩⟩
        · skip
          have hp : alikeB m k x = true := by
            have : ((soundsB m [.pin k] x : Nat) : Int) = ((soundsB m [] x : Nat) : Int) := by simpa using he
            exact decide_eq_true (by omega)
          refine xp_skip ?_
          intro V2
          have V3 := valid_set (o' := obL lp .ready none) V2 (i := 5) rfl
          obtain ⟨h99, E99, e9, V9⟩ := wl_drop [_] [_, _, _, _, _, _] V3
          exact ⟨rfl, ⟨_, _, rfl⟩, h99, _, e9, V9, Ext.trans (Ext.trans E10 E11) E99, .inl ⟨rfl, Ext.trans E9 (Ext.trans (Ext.trans E10 E11) E99), fun j s hj hs => (Nat.lt_succ_iff_lt_or_eq.1 hj).elim (fun h => I1 j s h hs) (fun h => by subst h; rw [hi] at hs; cases hs; exact hp), rfl⟩⟩
      · rintro v H ⟨h', M', rfl, V', E', ⟨E9, I1, rfl⟩ | ⟨E9, I1, rfl⟩⟩
        rotate_left
        · refine ⟨h', [_, _, _, _, _], .done, some (.exit 1), rfl, V', by simp, fun h'' E'' => ?_⟩
          have hun : uselessN m (k + 1) = uselessN m k := by rw [uselessN_succ, if_neg (by rw [I1]; decide), List.append_nil]
          refine xp_exit ?_
          refine goes_norm [_, _, _, _, _] rfl ?_
          refine xp_region rfl ?_
          refine op_pure (pv_arith rfl (by omega)) ?_
          refine op_pure (pv_move (v := .int .i64 _) rfl) ?_
          refine ⟨(k + 1, a), ⟨rfl, rfl, trivial⟩, (by first | exact hD_k | exact allMarks_cons hD_k), rfl, (Ext.trans (Ext.trans (Ext.trans (Ext.trans (Ext.trans E_k G1) E7) E8) E') E''), fun h3 E3 => ⟨hkl, by rw [hun]; exact K2⟩, by first | omega | (dsimp only; omega), ?_⟩
          repeat (first | exact off_base _ _ _ | refine off_upd (by decide) ?_ | refine off_updL rfl ?_ | refine off_mix rfl ?_)
        · refine ⟨h', [_, _, _, _, _], .ready, none, rfl, V', by simp, fun h'' E'' => ?_⟩
          have hun : uselessN m (k + 1) = uselessN m k ++ [(k : Int)] := by rw [uselessN_succ, if_pos (useless_yes I1)]
          have hul := uselessN_len m k
          refine goes_norm [_, _, _, _, _] rfl ?_
          refine xp_region rfl ?_
          refine op_pure (pv_move (v := .slice _ _ _) rfl) ?_
          refine op_pure (pv_move (v := .int .i64 _) rfl) ?_
          refine op_buildSlice (zc := [_]) (vs := [(0, .int .i64 _)]) (cs := [_]) rfl rfl rfl rfl rfl rfl rfl fun b40 hb40 => ?_
          refine wp_norm [_, _, _, _, _, _] rfl ?_
          refine op_appendR 2 K2 rfl rfl rfl (fun V => rdP V (i := 5) rfl) rfl rfl rfl rfl rfl rfl rfl rfl rfl (by omega) rfl (by rw [flat_len (m := 1) (fun _ _ => rfl)]; simp; omega) fun a2 h2a E2a ha2 => ?_
          refine wp_norm [_, _, _, _, _, _] rfl ?_
          refine op_pure (pv_assign (v := .slice _ _ _) rfl) ?_
          refine xp_region rfl ?_
          refine op_pure (pv_arith rfl (by omega)) ?_
          refine op_pure (pv_move (v := .int .i64 _) rfl) ?_
          refine ⟨(k + 1, a2), ⟨rfl, rfl, trivial⟩, (by first | exact hD_k | exact allMarks_cons hD_k), rfl, (Ext.trans (Ext.trans (Ext.trans (Ext.trans (Ext.trans (Ext.trans E_k G1) E7) E8) E') E'') E2a), fun h3 E3 => ⟨hkl, by rw [hun, List.flatMap_append]; exact ha2⟩, by first | omega | (dsimp only; omega), ?_⟩
          repeat (first | exact off_base _ _ _ | refine off_upd (by decide) ?_ | refine off_updL rfl ?_ | refine off_mix rfl ?_)
    · skip
      have hke : k = m.pins.length := by have := geI hk; omega
      subst hke
      refine xp_exit ?_
      refine xp_seq ?_
      refine xp_region rfl ?_
      refine op_pure (pv_move (v := .slice _ _ _) rfl) ?_
      refine op_pure (pv_assign (v := .slice _ _ _) rfl) ?_
      refine op_pure (pv_assign (v := .int .i64 _) rfl) ?_
      refine xp_ret ?_
      refine res_listM (vs := [_, _]) hD_k Try.results62 ⟨resV_tmp rfl rfl, resV_tmp rfl rfl, trivial⟩ fun hM EM V => ?_
      exact ⟨Ext.trans (Ext.trans (Ext.trans E13 E6) E_k) (Ext.trans EM (ext_wl V)), _, rfl, AccP.row (i := 2) K2 (by omega) (fun _ _ => rfl) V rfl⟩
end
end Go.Proofs.Ythphpbdmbmiaiaa
/- Plain: useless pins, all hands, what a suspect is. Conditions: as each theorem states. -/
namespace Go.Proofs.Ythphpbdmbmiaiaa
open Go Go.HL Go.Proofs Go.Wx Go.Rd
section
variable [Lvl]
set_option maxRecDepth 100000
theorem chos_all {n : Nat} : ∀ (x : List Int) (a : Nat), (∀ z ∈ x, (a : Int) ≤ z ∧ z < n) → x.Pairwise (· < ·) → x ∈ chosM n x.length a
  | [], a, _, _ => by simp [chosM]
  | y :: x, a, h, p => by
    rw [List.pairwise_cons] at p
    have hy := h y (List.mem_cons_self ..)
    show y :: x ∈ choP _ a (n - a)
    rw [choP_mem]
    refine ⟨y.toNat, by omega, by omega, ?_⟩
    rw [List.mem_map]
    refine ⟨x, chos_all x (y.toNat + 1) (fun z hz => ?_) p.2, by rw [Int.toNat_of_nonneg (by omega)]⟩
    have h1 := p.1 z hz
    have h2 := h z (List.mem_cons_of_mem _ hz)
    omega
theorem sets_all {n : Nat} {x : List Int} (S : SetOK x n) : x ∈ setsM n := by
  rw [setsM_eq, choP_mem]
  have hl := set_len S
  exact ⟨x.length, by omega, by omega, chos_all x 0 (fun z hz => by have := S.mem z hz; omega) S.asc⟩
theorem hands_all {m : MachP} (rg : 0 ≤ m.regs) {a : HandP} (H : HOK m a) : a ∈ handsM m := by
  unfold handsM pairsM
  rw [List.mem_flatMap]
  refine ⟨a.buttons, sets_all H.b, ?_⟩
  rw [List.mem_map]
  exact ⟨a.on, sets_all (by rw [Int.toNat_of_nonneg rg]; exact H.o), rfl⟩
theorem susp_mem {m : MachP} {hs : List HeardP} {f : Int} : ∀ {k : Nat}, k ≤ (faultsM m).length → f ∈ suspN m hs k → explainsB m (pickF m f) hs = true
  | 0, _, h => by
    rw [susp_zero] at h
    split at h
    · rename_i e; simp at h; rw [h]; exact e
    · simp at h
  | k + 1, hk, h => by
    rw [susp_succ (by omega)] at h
    split at h
    · rename_i e
      rcases List.mem_append.1 h with h | h
      · exact susp_mem (by omega) h
      · simp at h; rw [h]; exact e
    · exact susp_mem (by omega) h
theorem snd_lv {m : MachP} (M : MOK m) {l : List FaultP} (hf : ∀ f ∈ l, FOK m f) (a : HandP) : soundsB m l a < 2 ^ m.levers.toNat := by
  have h1 := sounds_lt (brkM m l) a m.travel
  have h2 : (brkF m l).stay < 2 ^ m.levers.toNat := brk_stay_lt M hf
  have h3 : (brkM m l).levers = m.levers := rfl
  rw [h3] at h1
  unfold soundsB
  exact Nat.lt_of_le_of_lt Nat.and_le_left (Nat.or_lt_two_pow h1 h2)
theorem snd_six {m : MachP} (M : MOK m) {l : List FaultP} (hf : ∀ f ∈ l, FOK m f) (a : HandP) : soundsB m l a < 2 ^ 6 :=
  Nat.lt_of_lt_of_le (snd_lv M hf a) (Nat.pow_le_pow_right (by omega) (by have := M.levers; omega))
theorem pin_fok {m : MachP} {k : Nat} (hk : k < m.pins.length) : ∀ f ∈ [FaultP.pin k], FOK m f := fun f hf => by simp at hf; subst hf; exact hk
theorem snd_pin {m : MachP} (M : MOK m) {k : Nat} {a : HandP} (H : HOK m a) : soundsM { m with pins := m.pins.eraseIdx k } a m.travel = soundsB m [.pin k] a := by
  have e := own_sounds (m := m) (a := a) (fs := [.pin k]) M H (by simp)
  have h := sounds_small (pfit_of (brk_mok M [.pin k])) a m.travel
  have e2 : soundsB m [.pin k] a = (soundsM (brkM m [.pin k]) a m.travel ||| 0) &&& (2 ^ 64 - 1 - 0) := rfl
  rw [e2, Nat.or_zero, and_mask h]
  exact e
theorem fault_pin {m : MachP} {k : Nat} (h0 : 0 ≤ m.levers) (hk : k < m.pins.length) : ∃ h : 2 * m.levers.toNat + k < (faultsM m).length, (faultsM m)[2 * m.levers.toNat + k] = .pin k := by
  have l1 : (fs1 m).length = m.levers.toNat := by rw [fs1, fsN_len]
  have l2 : (fs2 m).length = 2 * m.levers.toNat := by rw [fs2, List.length_append, l1, fsN_len]; omega
  have l3 : (fs3 m).length = 2 * m.levers.toNat + m.pins.length := by rw [fs3, List.length_append, l2, fsN_len]
  have fl := faults_len m
  refine ⟨by omega, ?_⟩
  have e : (faultsM m)[2 * m.levers.toNat + k]? = some (.pin k) := by
    rw [faultsM, List.getElem?_append_left (by omega), fs3, List.getElem?_append_right (by omega), l2, show 2 * m.levers.toNat + k - 2 * m.levers.toNat = k by omega, fsN, List.getElem?_map, List.getElem?_range hk]
    rfl
  exact (List.getElem?_eq_some_iff.1 e).2
theorem pick_pin {m : MachP} {k : Nat} {f : Int} (h0 : 0 ≤ m.levers) (hk : k < m.pins.length) (hf : f = 2 * m.levers + k) : pickL m [f] = [.pin k] ∧ pickF m f = [.pin k] ∧ (0 ≤ f ∧ f < (faultsM m).length) := by
  obtain ⟨h, e⟩ := fault_pin h0 hk
  have ft : f.toNat = 2 * m.levers.toNat + k := by omega
  have fb : 0 ≤ f ∧ f < (faultsM m).length := by omega
  obtain ⟨p1, p2⟩ := pickF_at fb.1 fb.2
  have e3 : (faultsM m)[f.toNat]'(by omega) = .pin k := by
    have : (faultsM m)[f.toNat]'(by omega) = (faultsM m)[2 * m.levers.toNat + k] := by congr 1
    rw [this, e]
  exact ⟨by rw [← p1, p2, e3], by rw [p2, e3], fb⟩
theorem useless_mem {m : MachP} {k n : Nat} (hk : k < n) : ((k : Int) ∈ uselessN m n) ↔ uselessB m k = true := by
  unfold uselessN
  rw [List.mem_map]
  constructor
  · rintro ⟨i, hi, e⟩
    rw [List.mem_filter] at hi
    have : i = k := by omega
    rw [← this]; exact hi.2
  · intro h
    exact ⟨k, by rw [List.mem_filter]; exact ⟨List.mem_range.2 hk, h⟩, rfl⟩
/-- A useless pin that is gone is a suspect just if the machine that is whole is one. -/
theorem useless_susp {m : MachP} (M : MOK m) {hs : List HeardP} (X : ∀ x ∈ hs, HeardOK m x) {k : Nat} {f : Int} (hk : k < m.pins.length) (hf : f = 2 * m.levers + k) (hu : uselessB m k = true) : f ∈ suspectsM m hs ↔ (-1 : Int) ∈ suspectsM m hs := by
  obtain ⟨_, p2, p3⟩ := pick_pin (by have := M.levers; omega) hk hf
  have hx : explainsB m (pickF m f) hs = explainsB m (pickF m (-1)) hs := by
    have hs' : ∀ x ∈ hs, soundsB m [.pin k] x.hand = soundsB m [] x.hand := fun x hx => by
      unfold uselessB at hu
      rw [List.all_eq_true] at hu
      exact of_decide_eq_true (hu x.hand (hands_all M.regs.1 (X x hx).h))
    rw [p2, show pickF m (-1) = [] from rfl]
    unfold explainsB
    congr 1
    rw [Bool.eq_iff_iff, List.any_eq_true, List.any_eq_true]
    constructor
    · rintro ⟨x, h1, h2⟩; exact ⟨x, h1, by unfold against at h2 ⊢; rw [hs' x h1] at h2; exact h2⟩
    · rintro ⟨x, h1, h2⟩; exact ⟨x, h1, by unfold against at h2 ⊢; rw [hs' x h1]; exact h2⟩
  constructor
  · intro h
    have := susp_mem (Nat.le_refl _) h
    rw [hx] at this
    exact susp_has (by omega) this
  · intro h
    have := susp_mem (Nat.le_refl _) h
    rw [← hx] at this
    exact susp_has (by omega) this
end
end Go.Proofs.Ythphpbdmbmiaiaa
/- Walks: what a useless pin is. Conditions: as each theorem states. -/
namespace Go.Proofs.Ythphpbdmbmiaiaa
open Go Go.HL Go.Proofs Go.Wx Go.Rd
section
variable [Lvl]
set_option maxRecDepth 100000
set_option maxHeartbeats 16000000 in
theorem useless_runs (w : World) (l : List Int) (hl : l.length < 2 ^ 63) (A : Option Addr) (c : Nat) (R : Row (absH w.heap) 1 intC A l) : RunsTrue Try.prog 12 #[.slice A l.length c] w := by
  letI : Lvl := ⟨true, none, none⟩
  refine runs_body Try.func12 rfl Try.ntmps12 rfl Try.results12 rfl (by kernel_rfl) fun h hh => ?_
  rw [← hh] at R
  refine xp_seq ?_
  refine xp_region rfl ?_
  refine op_pure (pv_assign (v := .bool _) rfl) ?_
  refine xp_seq ?_
  refine xp_region rfl ?_
  refine op_pure (pv_move (v := .slice _ _ _) rfl) ?_
  refine op_fnMM [] [] [] rfl rfl rfl ((NewPot_ok l hl A c h R)) ?_
  rintro _ h1 _ E1 ⟨b, x, rfl, rfl⟩
  refine wp_norm [_] rfl ?_
  refine op_pure (pv_assign (v := .pointer _) rfl) ?_
  refine xp_seq ?_
  refine xp_region rfl ?_
  refine op_pure (pv_move (v := .pointer _) rfl) ?_
  refine op_fnMM [] [_] [] (vs := _) rfl rfl rfl ((MachineOf_okC b x 3 6 2 (by omega) (by omega) (by omega) h1)) ?_
  rintro _ h2 _ E2 ⟨x2, m, rfl, VM, Md, CM⟩
  refine wp_norm [_] rfl ?_
  obtain ⟨AB, AQ, AL, AW, cB, cQ, cL, cW, rfl, RM⟩ := VM.open
  obtain ⟨hcQ, hcL⟩ := CM AB AQ AL AW cB cQ cL cW m rfl
  have M := Md.ok
  have mbl := Md.bl
  have mpl := Md.pl
  have mll := Md.ll
  have mlv := M.levers
  have mrg := M.regs
  have mtr := M.travel
  have mwl := M.wl
  have fln := faults_len m
  obtain ⟨us, hus⟩ : ∃ us, us = uselessN m m.pins.length := ⟨_, rfl⟩
  have usl : us.length ≤ m.pins.length := by rw [hus]; exact uselessN_len m _
  have L1 := Useless_ok rfl m AB AQ AL AW cB cQ cL cW
  rw [chk_of M, show uselessL m = us by rw [uselessL, if_pos (chk_of M), hus]] at L1
  refine op_alloc (cs := [_, _, _, _, _, _, _, _, _]) rfl rfl fun b4 hb4 => ?_
  refine wp_norm [_, _] rfl ?_
  refine op_storeP 1 (v := .agg #[.int .i64 _, .int .i64 _, .int .i64 _, .int .i64 _, .int .i64 _, .slice _ _ _, .slice _ _ _, .slice _ _ _, .slice _ _ _]) (vs := [_, _, _, _, _, _, _, _, _]) (c' := [_, _, _, _, _, _, _, _, _]) rfl rfl rfl rfl rfl rfl rfl rfl rfl ?_
  refine wp_norm [_, _] rfl ?_
  refine xp_seq ?_
  refine xp_region rfl ?_
  refine op_loadPA 1 (vs := [.int .i64 _, .int .i64 _, .int .i64 _, .int .i64 _, .int .i64 _, .slice _ _ _, .slice _ _ _, .slice _ _ _, .slice _ _ _]) rfl rfl rfl rfl rfl ?_
  refine op_fn (caps := []) (vs := [.agg #[.int .i64 _, .int .i64 _, .int .i64 _, .int .i64 _, .int .i64 _, .slice _ _ _, .slice _ _ _, .slice _ _ _, .slice _ _ _]]) rfl rfl rfl (L1 h2 (RM.ext (Ext.refl _)) M.wlen) ?_
  rintro _ h13 E13 ⟨_, rfl, A3, c3, rfl, S3⟩
  refine op_pure (pv_move (v := .tuple #[.slice _ _ _, .int .i64 _]) rfl) ?_
  refine op_pure (pv_of (v := .slice _ _ _) rfl) ?_
  refine op_pure (pv_of (v := .int .i64 _) rfl) ?_
  refine op_pure (pv_assign (v := .slice _ _ _) rfl) ?_
  refine op_pure (pv_assign (v := .int .i64 _) rfl) ?_
  refine xp_seq ?_
  refine xp_dw [true, false] rfl rfl rfl ?_
  refine dw_pure (i := 0) rfl (by decide +kernel) (pv_move (v := .pointer _) rfl) ?_
  refine dw_load (i := 1) rfl (by decide +kernel) ?_
  refine op_loadPA 1 (vs := [.int .i64 _, .int .i64 _, .int .i64 _, .int .i64 _, .int .i64 _, .slice _ _ _, .slice _ _ _, .slice _ _ _, .slice _ _ _]) rfl rfl rfl rfl rfl ?_
  refine dw_pure (i := 2) rfl (by decide +kernel) (pv_move (v := .pointer _) rfl) ?_
  refine dw_load (i := 3) rfl (by decide +kernel) ?_
  refine op_loadPA 1 (vs := [.int .i64 _, .int .i64 _, .int .i64 _, .int .i64 _, .int .i64 _, .slice _ _ _, .slice _ _ _, .slice _ _ _, .slice _ _ _]) rfl rfl rfl rfl rfl ?_
  refine dw_eff (i := 4) rfl (by decide +kernel) ?_
  refine op_fnMM [] [_] [_] (vs := [.pointer _, .agg _]) rfl rfl rfl ((faultsOf_ok b x2 m M AB AQ AL AW cB cQ cL cW h13 (RM.ext E13))) ?_
  rintro _ h4 _ E4 ⟨x4, ls, rfl, ⟨NA, cN, rfl, RS⟩, HS, hls⟩
  refine ⟨ext_wlm E4 _, ?_⟩
  refine dw_norm [_, _] rfl ?_
  refine dw_last (i := 5) rfl (by decide +kernel) (by decide +kernel) ?_
  refine op_fnMM [] [_] [_] (vs := [.pointer _, .agg _, .slice _ _ _, .int .i64 _]) rfl rfl rfl ((heardOf_ok b x4 m M ls HS 3 (by omega) AB AQ AL AW NA cB cQ cL cW cN hcQ hcL h4 (RM.ext (Ext.trans E13 E4)) (RS.ext (Ext.refl _)))) ?_
  rintro _ h5 _ E5 ⟨x5, hs, rfl, SH, hsl, hsx⟩
  refine dw_norm [_, _] rfl ?_
  obtain ⟨cs, A5, c5, rfl, R5, EL5⟩ := SlX.els SH
  have hl5 : hs.length ≤ 5 := by omega
  have hfo := pickL_fok M HS.mem
  have X : ∀ x ∈ hs, HeardOK m x := fun x hx => ⟨(hsx x hx).1, by rw [(hsx x hx).2]; exact listN_set _ (snd_lv M hfo x.hand)⟩
  have hEE := heardE_of M hl5 X
  obtain ⟨su, hsu⟩ : ∃ su, su = suspectsM m hs := ⟨_, rfl⟩
  have sul : su.length ≤ (faultsM m).length + 1 := by rw [hsu]; exact suspN_len m hs (faultsM m).length
  have eE : suspE m hs = if su.length = 0 then 11 else 0 := by rw [suspE, hEE, if_neg (by decide), ← hsu]
  have eL : suspL m hs = su := by
    rw [suspL, eE, ← hsu]
    by_cases h0 : su.length = 0
    · rw [if_pos h0, if_neg (by decide), List.length_eq_zero_iff.1 h0]
    · rw [if_neg h0, if_pos rfl]
  have L2 := Suspects_ok rfl m hs (hlen_of hl5 M X) AB AQ AL AW A5 cB cQ cL cW c5 cs
  obtain ⟨se, hse⟩ : ∃ se, se = suspE m hs := ⟨_, rfl⟩
  rw [eL, ← hse] at L2
  rw [← hse] at eE
  refine dw_pure (i := 6) rfl (by decide +kernel) (pv_assign (v := .slice _ _ _) rfl) ?_
  refine dw_end rfl ?_
  refine xp_seq ?_
  refine xp_region rfl ?_
  refine op_loadPA 1 (vs := [.int .i64 _, .int .i64 _, .int .i64 _, .int .i64 _, .int .i64 _, .slice _ _ _, .slice _ _ _, .slice _ _ _, .slice _ _ _]) rfl rfl rfl rfl rfl ?_
  refine op_pure (pv_move (v := .slice _ _ _) rfl) ?_
  refine op_fn (caps := []) (vs := [.agg _, .slice _ _ _]) rfl rfl rfl (L2 h5 (RM.ext (Ext.trans (Ext.trans E13 E4) E5)) M.wlen (R5.ext (Ext.refl _)) (EL5.ext TU.mono (Ext.refl _))) ?_
  rintro _ h6 E6 ⟨_, rfl, A6, c6, rfl, S6⟩
  refine op_pure (pv_move (v := .tuple #[.slice _ _ _, .int .i64 _]) rfl) ?_
  refine op_pure (pv_of (v := .slice _ _ _) rfl) ?_
  refine op_pure (pv_of (v := .int .i64 _) rfl) ?_
  refine op_pure (pv_assign (v := .slice _ _ _) rfl) ?_
  refine op_pure (pv_assign (v := .int .i64 _) rfl) ?_
  refine xp_cutB [2, 44, 45, 46, 47, 48, 49, 50, 51, 52, 53] 2 (α := Unit) (fun u => []) (fun u L => L) (fun u h_u => True) ?_ ?_
  · skip
    by_cases h0 : su.length = 0
    · skip
      have e1 : (se != 0) = true := by rw [eE, if_pos h0]; rfl
      have e2 : (se != 11) = false := by rw [eE, if_pos h0]; rfl
      refine xp_seq ?_
      refine xp_region rfl ?_
      refine op_pure (pv_move (v := .int .i64 _) rfl) ?_
      refine op_pure (pv_of (v := .bool _) rfl) ?_
      refine op_pure (pv_move (v := .bool _) rfl) ?_
      refine guard_yes rfl rfl ?_
      refine op_pure (pv_move (v := .int .i64 _) rfl) ?_
      refine guard_yes rfl rfl ?_
      refine op_pure (pv_of (v := .bool _) rfl) ?_
      refine guard_yes rfl rfl ?_
      refine op_pure (pv_move (v := .bool _) rfl) ?_
      refine guard_yes rfl e1 ?_
      refine op_pure (pv_move (v := .int .i64 _) rfl) ?_
      refine guard_yes rfl e1 ?_
      refine op_pure (pv_of (v := .bool _) rfl) ?_
      refine guard_yes rfl rfl ?_
      refine op_pure (pv_pickT rfl e1 (v := .bool _) rfl) ?_
      refine op_pure (pv_pickF rfl rfl (v := .bool _) rfl) ?_
      refine xp_condF rfl (e2) ?_
      refine xp_skip ?_
      refine ⟨(), trivial, rfl, rfl, (Ext.refl _), fun h3 E3 => by first | trivial | omega | (refine ⟨?_, ?_⟩ <;> omega), ?_⟩
      repeat (first | exact off_refl _ _ | exact off_base _ _ _ | refine off_upd (by decide) ?_ | refine off_updL rfl ?_ | refine off_mix rfl ?_)
    · skip
      have e1 : (se != 0) = false := by rw [eE, if_neg h0]; rfl
      refine xp_seq ?_
      refine xp_region rfl ?_
      refine op_pure (pv_move (v := .int .i64 _) rfl) ?_
      refine op_pure (pv_of (v := .bool _) rfl) ?_
      refine op_pure (pv_move (v := .bool _) rfl) ?_
      refine guard_yes rfl rfl ?_
      refine op_pure (pv_move (v := .int .i64 _) rfl) ?_
      refine guard_yes rfl rfl ?_
      refine op_pure (pv_of (v := .bool _) rfl) ?_
      refine guard_yes rfl rfl ?_
      refine op_pure (pv_move (v := .bool _) rfl) ?_
      refine guard_no rfl e1 ?_
      refine guard_no rfl e1 ?_
      refine guard_yes rfl rfl ?_
      refine op_pure (pv_pickF rfl e1 (v := .bool _) rfl) ?_
      refine op_pure (pv_pickF rfl rfl (v := .bool _) rfl) ?_
      refine xp_condF rfl (rfl) ?_
      refine xp_skip ?_
      refine ⟨(), trivial, rfl, rfl, (Ext.refl _), fun h3 E3 => by first | trivial | omega | (refine ⟨?_, ?_⟩ <;> omega), ?_⟩
      repeat (first | exact off_refl _ _ | exact off_base _ _ _ | refine off_upd (by decide) ?_ | refine off_updL rfl ?_ | refine off_mix rfl ?_)
  · rintro u T1 h_u E_u J_u
    refine goes_norm [_, _] rfl ?_
    refine xp_seq ?_
    refine xp_region rfl ?_
    refine op_pure (pv_move (v := .slice _ _ _) rfl) ?_
    refine op_fn (caps := []) (vs := [.slice _ _ _, .int .i64 _]) rfl rfl rfl (place_ok su (-1) _ _ h_u (S6.ext E_u) (by omega)) ?_
    rintro _ h7 E7 ⟨z, rfl, hz⟩
    refine op_pure (pv_of (v := .bool _) rfl) ?_
    refine op_pure (pv_assign (v := .bool _) rfl) ?_
    refine xp_seq ?_
    refine xp_region rfl ?_
    refine op_loadPA 1 (vs := [.int .i64 _, .int .i64 _, .int .i64 _, .int .i64 _, .int .i64 _, .slice _ _ _, .slice _ _ _, .slice _ _ _, .slice _ _ _]) rfl rfl rfl rfl rfl ?_
    refine op_fn (caps := []) (vs := [.agg #[.int .i64 _, .int .i64 _, .int .i64 _, .int .i64 _, .int .i64 _, .slice _ _ _, .slice _ _ _, .slice _ _ _, .slice _ _ _]]) rfl rfl rfl (HandsR_ok m (by omega) (by omega) AB AQ AL AW cB cQ cL cW h7 (RM.ext (Ext.trans (Ext.trans (Ext.trans (Ext.trans (Ext.trans E13 E4) E5) E6) E_u) E7))) ?_
    rintro _ h8 E8 S8
    obtain ⟨gs, A8, c8, rfl, R8, EL8⟩ := SlX.els S8
    refine op_pure (pv_assign (v := .slice _ _ _) rfl) ?_
    refine xp_seq ?_
    refine xp_seq ?_
    refine xp_region rfl ?_
    refine op_pure (pv_assign (v := .int .i64 _) rfl) ?_
    refine xp_block ?_
    refine xp_loopB [2, 12, 13, 14, 15, 16, 17, 18, 19, 20, 21, 22, 59, 60, 61, 62, 63, 64, 65, 66, 67, 68, 69, 70, 71, 72, 73, 74, 75, 76, 77, 78, 79, 80, 81, 82, 83, 84, 85, 86, 87, 88, 89, 90, 91, 92, 93, 94, 95, 96, 97, 98, 99, 100, 101, 102, 103, 104, 105, 106, 107, 108, 109, 110, 111, 112, 113, 114, 115, 116, 117, 118, 119, 120, 121, 122, 123, 124, 125, 126, 127, 128, 129, 130, 131, 132, 133, 134, 135, 136, 137, 138, 139, 140, 141, 142, 143, 144, 145, 146, 147] 2 (α := Nat) (fun k => [(12, .int .i64 k)]) (fun k => _) (fun k h_k => k ≤ m.pins.length) (fun k => m.pins.length - k) (0) ⟨rfl, trivial⟩ (rfl) (Nat.zero_le _) ?_
    rintro k T2 h_k E_k J_k
    refine goes_norm [_, _] rfl ?_
    refine xp_seq ?_
    refine xp_seq ?_
    refine xp_region rfl ?_
    refine op_pure (pv_move (v := .int .i64 _) rfl) ?_
    refine op_pure (pv_fieldAddr rfl rfl rfl rfl 6 rfl) ?_
    refine op_loadP 1 (v := .slice _ _ _) rfl rfl rfl rfl ?_
    refine op_pure (pv_len rfl rfl) ?_
    refine op_pure (pv_of (v := .bool _) rfl) ?_
    refine xp_cond rfl (fun hk => ?_) (fun hk => ?_)
    · skip
      have hkl : k < m.pins.length := ltI hk
      obtain ⟨o, ho⟩ : ∃ o : MachP, o = { m with pins := m.pins.eraseIdx k } := ⟨_, rfl⟩
      have ho' : o = ownR m [.pin k] := ho
      have MO : MOK o := by rw [ho']; exact own_mok M _
      have otr : o.travel = m.travel := by rw [ho]
      obtain ⟨pk1, pk2, pk3⟩ := pick_pin (m := m) (f := 2 * m.levers + k) (by omega) hkl rfl
      have SO : SetOK [2 * m.levers + (k : Int)] (faultsM m).length := set_one pk3
      refine xp_skip ?_
      refine xp_seq ?_
      refine xp_block ?_
      refine xp_seq ?_
      refine xp_region rfl ?_
      refine op_pure (pv_fieldAddr rfl rfl rfl rfl 1 rfl) ?_
      refine op_loadP 1 (v := .int .i64 _) rfl rfl rfl rfl ?_
      refine op_pure (pv_arith rfl (by omega)) ?_
      refine op_pure (pv_move (v := .int .i64 _) rfl) ?_
      refine op_pure (pv_arith rfl (by omega)) ?_
      refine op_pure (pv_assign (v := .int .i64 _) rfl) ?_
      refine xp_seq ?_
      refine xp_region rfl ?_
      refine op_loadPA 1 (vs := [.int .i64 _, .int .i64 _, .int .i64 _, .int .i64 _, .int .i64 _, .slice _ _ _, .slice _ _ _, .slice _ _ _, .slice _ _ _]) rfl rfl rfl rfl rfl ?_
      refine op_pure (pv_move (v := .int .i64 _) rfl) ?_
      refine op_fn (caps := []) (vs := [.agg _, .int .i64 _]) rfl rfl rfl (WithoutPinR_ok m k hkl (by omega) AB AQ AL AW cB cQ cL cW hcQ h_k (RM.q.ext (Ext.trans (Ext.trans (Ext.trans (Ext.trans (Ext.trans (Ext.trans (Ext.trans E13 E4) E5) E6) E_u) E7) E8) E_k))) ?_
      rintro _ h9 E9 ⟨A9, c9, rfl, R9, C9⟩
      have RO : MachR h9 AB A9 AL AW o := by rw [ho]; exact ⟨RM.b.ext (Ext.trans (Ext.trans (Ext.trans (Ext.trans (Ext.trans (Ext.trans (Ext.trans (Ext.trans E13 E4) E5) E6) E_u) E7) E8) E_k) E9), R9, RM.l.ext (Ext.trans (Ext.trans (Ext.trans (Ext.trans (Ext.trans (Ext.trans (Ext.trans (Ext.trans E13 E4) E5) E6) E_u) E7) E8) E_k) E9), RM.w.ext (Ext.trans (Ext.trans (Ext.trans (Ext.trans (Ext.trans (Ext.trans (Ext.trans (Ext.trans E13 E4) E5) E6) E_u) E7) E8) E_k) E9)⟩
      rw [← ho]
      obtain ⟨nh, hnh⟩ : ∃ nh, nh = (handsM m).length := ⟨_, rfl⟩
      have hhl : (handsM m).length ≤ 448 * 448 := by
        unfold handsM
        rw [pairs_len]
        exact Nat.mul_le_mul (setsM_len (by omega)) (setsM_len (by omega))
      obtain ⟨bv, hbv⟩ : ∃ bv : Nat → Bool, ∀ j, bv j = ((handsM m).take j).all (alikeB m k) := ⟨_, fun _ => rfl⟩
      have b0 : bv 0 = true := by rw [hbv]; rfl
      refine op_alloc (cs := [_, _, _, _, _, _, _, _, _]) rfl rfl fun b14 hb14 => ?_
      refine wp_norm [_, _, _] rfl ?_
      refine op_storeP 2 (v := .agg #[.int .i64 _, .int .i64 _, .int .i64 _, .int .i64 _, .int .i64 _, .slice _ _ _, .slice _ _ _, .slice _ _ _, .slice _ _ _]) (vs := [_, _, _, _, _, _, _, _, _]) (c' := [_, _, _, _, _, _, _, _, _]) rfl rfl rfl rfl rfl rfl rfl rfl rfl ?_
      refine wp_norm [_, _, _] rfl ?_
      refine xp_seq ?_
      refine xp_region rfl ?_
      refine op_pure (pv_assign (v := .bool _) rfl) ?_
      refine xp_seq ?_
      refine xp_seq ?_
      refine xp_region rfl ?_
      refine op_pure (pv_assign (v := .int .i64 _) rfl) ?_
      refine xp_block ?_
      refine xp_loopB [2, 15, 16, 17, 18, 19, 20, 21, 22, 74, 75, 76, 77, 78, 79, 80, 81, 82, 83, 84, 85, 86, 87, 88, 89, 90, 91, 92, 93, 94, 95, 96, 97, 98, 99, 100, 101, 102, 103, 104, 105, 106, 107, 108, 109, 110, 111, 112, 113, 114, 115, 116, 117, 118, 119, 120, 121, 122, 123, 124, 125, 126, 127, 128, 129, 130] 3 (α := Nat) (fun i => [(16, .int .i64 i), (15, .bool (bv i))]) (fun i => _) (fun i h_i => i ≤ (handsM m).length) (fun i => (handsM m).length - i) (0) ⟨rfl, boolE b0.symm, trivial⟩ (rfl) (Nat.zero_le _) ?_
      rintro i T3 h_i E_i J_i
      refine goes_norm [_, _, _] rfl ?_
      refine xp_seq ?_
      refine xp_seq ?_
      refine xp_region rfl ?_
      refine op_pure (pv_move (v := .int .i64 _) rfl) ?_
      refine op_pure (pv_move (v := .slice _ _ _) rfl) ?_
      refine op_pure (pv_len rfl rfl) ?_
      refine op_pure (pv_of (v := .bool _) rfl) ?_
      refine xp_cond rfl (fun hi => ?_) (fun hi => ?_)
      · skip
        have hil : i < (handsM m).length := ltI hi
        obtain ⟨a, ha⟩ : ∃ a, a = (handsM m)[i] := ⟨_, rfl⟩
        have HX : HOK m a := by rw [ha]; exact hands_hok ⟨mrg.1, mrg.2⟩ (List.getElem?_eq_getElem hil)
        have HO : HOK o a := by rw [ho']; exact own_hok HX _
        have hbs : bv (i + 1) = (bv i && alikeB m k a) := by rw [hbv, hbv, take_snoc hil, List.all_append, ha]; simp
        obtain ⟨qa, hqa⟩ : ∃ q, q = listN (soundsB m [] a) 6 := ⟨_, rfl⟩
        obtain ⟨qb, hqb⟩ : ∃ q, q = listN (soundsB m [.pin k] a) 6 := ⟨_, rfl⟩
        have hqal : qa.length < 2 ^ 40 := by rw [hqa]; have := listN_len (soundsB m [] a) 6; omega
        have hqbl : qb.length < 2 ^ 40 := by rw [hqb]; have := listN_len (soundsB m [.pin k] a) 6; omega
        have hab : decide (qa = qb) = alikeB m k a := by
          unfold alikeB
          rw [decide_eq_decide, hqa, hqb, listN_inj (snd_six M (fun f hf => absurd hf List.not_mem_nil) a) (snd_six M (pin_fok hkl) a)]
          exact eq_comm
        obtain ⟨hic, B0, O0, e0, ⟨HA, cH, rfl, r1⟩, ⟨OA, cO, rfl, r2⟩⟩ := (EL8.ext TH.mono (Ext.trans (Ext.trans E_k E9) E_i)).at hil
        obtain ⟨g, off, hA, hc⟩ := (R8.ext (Ext.trans (Ext.trans E_k E9) E_i)).at (by omega) hic
        have hc : Cells h_i g (off + i * 2) [.slice HA (handsM m)[i].buttons.length cH, .slice OA (handsM m)[i].on.length cO] := by rw [← e0]; exact hc
        rw [← ha] at r1 r2 hc
        have L3 := Sounds_ok rfl m a AB AQ AL AW HA OA cB cQ cL cW cH cO
        rw [hand_of M HX, show soundsL m a = qa by rw [soundsL, if_pos (hand_of M HX), hqa, soundsB_nil M]] at L3
        have L4 := Sounds_ok rfl o a AB A9 AL AW HA OA cB c9 cL cW cH cO
        rw [hand_of MO HO, show soundsL o a = qb by rw [soundsL, if_pos (hand_of MO HO), hqb, otr, ho, snd_pin M HX]] at L4
        have L5 := Broken_ok rfl m [2 * m.levers + (k : Int)] a AB AQ AL AW
        refine xp_skip ?_
        refine xp_seq ?_
        refine xp_block ?_
        refine xp_seq ?_
        refine xp_dw [] rfl rfl rfl ?_
        refine dw_load (i := 0) rfl (by decide +kernel) ?_
        refine op_loadPA 1 (vs := [.int .i64 _, .int .i64 _, .int .i64 _, .int .i64 _, .int .i64 _, .slice _ _ _, .slice _ _ _, .slice _ _ _, .slice _ _ _]) rfl rfl rfl rfl rfl ?_
        refine dw_pure (i := 1) rfl (by decide +kernel) (pv_move (v := .slice _ _ _) rfl) ?_
        refine dw_pure (i := 2) rfl (by decide +kernel) (pv_move (v := .int .i64 _) rfl) ?_
        refine dw_pure (i := 3) rfl (by decide +kernel) (pv_indexE (m := 2) rfl hA rfl rfl rfl (by omega) (by omega)) ?_
        refine dw_load (i := 4) rfl (by decide +kernel) ?_
        refine op_loadA rfl rfl rfl rfl hc ?_
        refine dw_last (i := 5) rfl (by decide +kernel) (by decide +kernel) ?_
        refine op_fn (caps := []) (vs := [.agg _, .agg _]) rfl rfl rfl (L3 h_i (RM.ext (Ext.trans (Ext.trans (Ext.trans (Ext.trans (Ext.trans (Ext.trans (Ext.trans (Ext.trans (Ext.trans E13 E4) E5) E6) E_u) E7) E8) E_k) E9) E_i)) ⟨r1, r2⟩ M.wlen (HX.blen M) (HX.olen M)) ?_
        rintro _ h10 E10 ⟨_, rfl, A10, c10, rfl, S10⟩
        refine dw_pure (i := 6) rfl (by decide +kernel) (pv_move (v := .tuple #[.slice _ _ _, .int .i64 _]) rfl) ?_
        refine dw_pure (i := 7) rfl (by decide +kernel) (pv_of (v := .slice _ _ _) rfl) ?_
        refine dw_pure (i := 8) rfl (by decide +kernel) (pv_of (v := .int .i64 _) rfl) ?_
        refine dw_pure (i := 9) rfl (by decide +kernel) (pv_assign (v := .slice _ _ _) rfl) ?_
        refine dw_pure (i := 10) rfl (by decide +kernel) (pv_assign (v := .int .i64 _) rfl) ?_
        refine dw_end rfl ?_
        refine xp_seq ?_
        refine xp_dw [] rfl rfl rfl ?_
        refine dw_load (i := 0) rfl (by decide +kernel) ?_
        refine op_loadPA 2 (vs := [.int .i64 _, .int .i64 _, .int .i64 _, .int .i64 _, .int .i64 _, .slice _ _ _, .slice _ _ _, .slice _ _ _, .slice _ _ _]) rfl rfl rfl rfl rfl ?_
        refine dw_pure (i := 1) rfl (by decide +kernel) (pv_move (v := .slice _ _ _) rfl) ?_
        refine dw_pure (i := 2) rfl (by decide +kernel) (pv_move (v := .int .i64 _) rfl) ?_
        refine dw_pure (i := 3) rfl (by decide +kernel) (pv_indexE (m := 2) rfl hA rfl rfl rfl (by omega) (by omega)) ?_
        refine dw_load (i := 4) rfl (by decide +kernel) ?_
        refine op_loadA rfl rfl rfl rfl (hc.ext E10) ?_
        refine dw_last (i := 5) rfl (by decide +kernel) (by decide +kernel) ?_
        refine op_fn (caps := []) (vs := [.agg _, .agg _]) rfl rfl rfl (L4 h10 (RO.ext (Ext.trans E_i E10)) ⟨r1.ext E10, r2.ext E10⟩ MO.wlen (HO.blen MO) (HO.olen MO)) ?_
        rintro _ h11 E11 ⟨_, rfl, A11, c11, rfl, S11⟩
        have hc2 := (hc.ext E10).ext E11
        refine dw_pure (i := 6) rfl (by decide +kernel) (pv_move (v := .tuple #[.slice _ _ _, .int .i64 _]) rfl) ?_
        refine dw_pure (i := 7) rfl (by decide +kernel) (pv_of (v := .slice _ _ _) rfl) ?_
        refine dw_pure (i := 8) rfl (by decide +kernel) (pv_of (v := .int .i64 _) rfl) ?_
        refine dw_pure (i := 9) rfl (by decide +kernel) (pv_assign (v := .slice _ _ _) rfl) ?_
        refine dw_pure (i := 10) rfl (by decide +kernel) (pv_assign (v := .int .i64 _) rfl) ?_
        refine dw_end rfl ?_
        refine xp_seq ?_
        refine xp_dw [] rfl rfl rfl ?_
        refine dw_load (i := 0) rfl (by decide +kernel) ?_
        refine op_loadPA 1 (vs := [.int .i64 _, .int .i64 _, .int .i64 _, .int .i64 _, .int .i64 _, .slice _ _ _, .slice _ _ _, .slice _ _ _, .slice _ _ _]) rfl rfl rfl rfl rfl ?_
        refine dw_pure (i := 1) rfl (by decide +kernel) (pv_move (v := .int .i64 _) rfl) ?_
        refine dw_pure (i := 3) rfl (by decide +kernel) (pv_move (v := .slice _ _ _) rfl) ?_
        refine dw_pure (i := 4) rfl (by decide +kernel) (pv_move (v := .int .i64 _) rfl) ?_
        refine dw_pure (i := 5) rfl (by decide +kernel) (pv_indexE (m := 2) rfl hA rfl rfl rfl (by omega) (by omega)) ?_
        refine dw_load (i := 6) rfl (by decide +kernel) ?_
        refine op_loadA rfl rfl rfl rfl hc2 ?_
        refine dw_eff (i := 2) rfl (by decide +kernel) ?_
        refine op_buildSlice (zc := [_]) (vs := [(0, .int .i64 _)]) (cs := [_]) rfl rfl rfl rfl rfl rfl rfl fun b101 hb101 => ?_
        refine ⟨ext_new hb101 _, ?_⟩
        refine dw_norm [_, _, _, _] rfl ?_
        refine dw_pub 3 rfl ?_
        intro g1 G1 p1
        refine dw_norm [_, _, _, _] rfl ?_
        have L6 := L5 (some ⟨b101, 0, none⟩) HA OA cB cQ cL cW 1 cH cO
        rw [brokenE_ok M SO HX, show brokenL m [2 * m.levers + (k : Int)] a = qb by rw [brokenL, if_pos (brokenE_ok M SO HX), hqb, pk1]] at L6
        refine dw_last (i := 7) rfl (by decide +kernel) (by decide +kernel) ?_
        refine op_fn (caps := []) (vs := [.agg _, .slice _ _ _, .agg _]) rfl rfl rfl (L6 g1 (RM.ext (Ext.trans (Ext.trans (Ext.trans (Ext.trans (Ext.trans (Ext.trans (Ext.trans (Ext.trans (Ext.trans (Ext.trans (Ext.trans (Ext.trans E13 E4) E5) E6) E_u) E7) E8) E_k) E9) E_i) E10) E11) G1)) (row_one p1) ⟨((r1.ext E10).ext E11).ext G1, ((r2.ext E10).ext E11).ext G1⟩ M.wlen (by show 1 < 2 ^ 19; decide) (HX.blen M) (HX.olen M)) ?_
        rintro _ h12 E12 ⟨_, rfl, A12, c12, rfl, S12⟩
        refine dw_pure (i := 8) rfl (by decide +kernel) (pv_move (v := .tuple #[.slice _ _ _, .int .i64 _]) rfl) ?_
        refine dw_pure (i := 9) rfl (by decide +kernel) (pv_of (v := .slice _ _ _) rfl) ?_
        refine dw_pure (i := 10) rfl (by decide +kernel) (pv_of (v := .int .i64 _) rfl) ?_
        refine dw_pure (i := 11) rfl (by decide +kernel) (pv_assign (v := .slice _ _ _) rfl) ?_
        refine dw_pure (i := 12) rfl (by decide +kernel) (pv_assign (v := .int .i64 _) rfl) ?_
        refine dw_end rfl ?_
        refine xp_seq ?_
        refine xp_seq ?_
        refine xp_region rfl ?_
        refine op_pure (pv_move (v := .int .i64 _) rfl) ?_
        refine op_pure (pv_of (v := .bool _) rfl) ?_
        refine op_pure (pv_move (v := .bool _) rfl) ?_
        refine guard_yes rfl rfl ?_
        refine op_pure (pv_move (v := .int .i64 _) rfl) ?_
        refine guard_yes rfl rfl ?_
        refine op_pure (pv_of (v := .bool _) rfl) ?_
        refine op_pure (pv_pickF rfl rfl (v := .bool _) rfl) ?_
        refine op_pure (pv_move (v := .bool _) rfl) ?_
        refine guard_yes rfl rfl ?_
        refine op_pure (pv_move (v := .int .i64 _) rfl) ?_
        refine guard_yes rfl rfl ?_
        refine op_pure (pv_of (v := .bool _) rfl) ?_
        refine op_pure (pv_pickF rfl rfl (v := .bool _) rfl) ?_
        refine op_pure (pv_move (v := .bool _) rfl) ?_
        refine guard_yes rfl rfl ?_
        refine op_pure (pv_move (v := .slice _ _ _) rfl) ?_
        refine guard_yes rfl rfl ?_
        refine op_pure (pv_move (v := .slice _ _ _) rfl) ?_
        refine guard_yes rfl rfl ?_
        refine op_fn (caps := []) (vs := [.slice _ _ _, .slice _ _ _]) rfl rfl rfl (sameInts_ok qb qb _ _ _ _ h12 (S11.ext (Ext.trans G1 E12)) S12 hqbl) ?_
        rintro _ h14 E14 rfl
        refine guard_yes rfl rfl ?_
        refine op_pure (pv_of (v := .bool _) rfl) ?_
        refine op_pure (pv_pickF rfl rfl (v := .bool _) rfl) ?_
        refine xp_condF rfl (by simp) ?_
        rcases Bool.eq_false_or_eq_true (bv i) with hb | hb
        · skip
          refine xp_skip ?_
          refine xp_region rfl ?_
          refine op_pure (pv_move (v := .bool _) rfl) ?_
          refine op_pure (pv_move (v := .bool _) rfl) ?_
          refine guard_yes rfl hb ?_
          refine op_pure (pv_move (v := .slice _ _ _) rfl) ?_
          refine guard_yes rfl hb ?_
          refine op_pure (pv_move (v := .slice _ _ _) rfl) ?_
          refine guard_yes rfl hb ?_
          refine op_fn (caps := []) (vs := [.slice _ _ _, .slice _ _ _]) rfl rfl rfl (sameInts_ok qa qb _ _ _ _ h14 (S10.ext (Ext.trans (Ext.trans (Ext.trans E11 G1) E12) E14)) (S11.ext (Ext.trans (Ext.trans G1 E12) E14)) hqal) ?_
          rintro _ h15 E15 rfl
          refine op_pure (pv_pickT rfl hb (v := .bool _) rfl) ?_
          refine op_pure (pv_assign (v := .bool _) rfl) ?_
          refine xp_region rfl ?_
          refine op_pure (pv_move (v := .int .i64 _) rfl) ?_
          refine op_pure (pv_arith rfl (by omega)) ?_
          refine op_pure (pv_assign (v := .int .i64 _) rfl) ?_
          refine ⟨i + 1, ⟨rfl, boolE (by rw [hbs, hb, hab]; rfl), trivial⟩, rfl, rfl, (Ext.trans (Ext.trans (Ext.trans (Ext.trans (Ext.trans (Ext.trans E_i E10) E11) G1) E12) E14) E15), fun h3 E3 => hil, by first | omega | (dsimp only; omega), ?_⟩
          repeat (first | exact off_base _ _ _ | refine off_upd (by decide) ?_ | refine off_updL rfl ?_ | refine off_mix rfl ?_)
        · skip
          refine xp_skip ?_
          refine xp_region rfl ?_
          refine op_pure (pv_move (v := .bool _) rfl) ?_
          refine op_pure (pv_move (v := .bool _) rfl) ?_
          refine guard_no rfl hb ?_
          refine guard_no rfl hb ?_
          refine guard_no rfl hb ?_
          refine op_pure (pv_pickF rfl hb (v := .bool _) rfl) ?_
          refine op_pure (pv_assign (v := .bool _) rfl) ?_
          refine xp_region rfl ?_
          refine op_pure (pv_move (v := .int .i64 _) rfl) ?_
          refine op_pure (pv_arith rfl (by omega)) ?_
          refine op_pure (pv_assign (v := .int .i64 _) rfl) ?_
          refine ⟨i + 1, ⟨rfl, boolE (by rw [hbs, hb]; rfl), trivial⟩, rfl, rfl, (Ext.trans (Ext.trans (Ext.trans (Ext.trans (Ext.trans E_i E10) E11) G1) E12) E14), fun h3 E3 => hil, by first | omega | (dsimp only; omega), ?_⟩
          repeat (first | exact off_base _ _ _ | refine off_upd (by decide) ?_ | refine off_updL rfl ?_ | refine off_mix rfl ?_)
      · skip
        have hie : i = (handsM m).length := by have := geI hi; omega
        subst hie
        have hbu : bv (handsM m).length = uselessB m k := by rw [hbv, List.take_length]; rfl
        rw [hbu]
        refine xp_exit ?_
        refine xp_seq ?_
        refine xp_region rfl ?_
        refine op_pure (pv_move (v := .bool _) rfl) ?_
        refine op_pure (pv_move (v := .slice _ _ _) rfl) ?_
        refine op_pure (pv_move (v := .int .i64 _) rfl) ?_
        refine op_fn (caps := []) (vs := [.slice _ _ _, .int .i64 _]) rfl rfl rfl (place_ok us k _ _ h_i (S3.ext (Ext.trans (Ext.trans (Ext.trans (Ext.trans (Ext.trans (Ext.trans (Ext.trans (Ext.trans E4 E5) E6) E_u) E7) E8) E_k) E9) E_i)) (by omega)) ?_
        rintro _ h16 E16 ⟨z2, rfl, hz2⟩
        have e2 : decide (z2 ≥ 0) = uselessB m k := by rw [Bool.eq_iff_iff, decide_eq_true_iff]; exact hz2.trans (by rw [hus]; exact useless_mem hkl)
        have e3 : (uselessB m k != decide (z2 ≥ 0)) = false := by rw [e2]; simp
        rcases Bool.eq_false_or_eq_true (uselessB m k) with hu | hu
        · skip
          refine op_pure (pv_of (v := .bool _) rfl) ?_
          refine op_pure (pv_of (v := .bool _) rfl) ?_
          refine op_pure (pv_move (v := .bool _) rfl) ?_
          refine guard_yes rfl e3 ?_
          refine op_pure (pv_move (v := .bool _) rfl) ?_
          refine guard_yes rfl e3 ?_
          refine op_pure (pv_move (v := .bool _) rfl) ?_
          refine guard_yes rfl hu ?_
          refine op_pure (pv_move (v := .bool _) rfl) ?_
          refine guard_yes rfl hu ?_
          refine op_pure (pv_move (v := .slice _ _ _) rfl) ?_
          refine guard_yes rfl hu ?_
          refine op_pure (pv_move (v := .int .i64 _) rfl) ?_
          refine guard_yes rfl hu ?_
          refine op_fn (caps := []) (vs := [.slice _ _ _, .int .i64 _]) rfl rfl rfl (place_ok su (2 * m.levers + k) _ _ h16 (S6.ext (Ext.trans (Ext.trans (Ext.trans (Ext.trans (Ext.trans (Ext.trans E_u E7) E8) E_k) E9) E_i) E16)) (by omega)) ?_
          rintro _ h17 E17 ⟨z3, rfl, hz3⟩
          have e4 : decide (z3 ≥ 0) = decide (z ≥ 0) := by
            rw [decide_eq_decide]
            exact hz3.trans ((by rw [hsu]; exact useless_susp M X hkl rfl hu : _ ↔ _).trans hz.symm)
          refine guard_yes rfl hu ?_
          refine op_pure (pv_of (v := .bool _) rfl) ?_
          refine guard_yes rfl hu ?_
          refine op_pure (pv_of (v := .bool _) rfl) ?_
          refine guard_yes rfl e3 ?_
          refine op_pure (pv_pickT rfl hu (v := .bool _) rfl) ?_
          refine op_pure (pv_pickF rfl e3 (v := .bool _) rfl) ?_
          refine xp_condF rfl (by rw [e4]; simp) ?_
          refine xp_skip ?_
          refine xp_region rfl ?_
          refine op_pure (pv_move (v := .int .i64 _) rfl) ?_
          refine op_pure (pv_arith rfl (by omega)) ?_
          refine op_pure (pv_assign (v := .int .i64 _) rfl) ?_
          refine ⟨k + 1, ⟨rfl, trivial⟩, rfl, rfl, (Ext.trans (Ext.trans (Ext.trans (Ext.trans E_k E9) E_i) E16) E17), fun h3 E3 => hkl, by first | omega | (dsimp only; omega), ?_⟩
          repeat (first | exact off_base _ _ _ | refine off_upd (by decide) ?_ | refine off_updL rfl ?_ | refine off_mix rfl ?_)
        · skip
          refine op_pure (pv_of (v := .bool _) rfl) ?_
          refine op_pure (pv_of (v := .bool _) rfl) ?_
          refine op_pure (pv_move (v := .bool _) rfl) ?_
          refine guard_yes rfl e3 ?_
          refine op_pure (pv_move (v := .bool _) rfl) ?_
          refine guard_yes rfl e3 ?_
          refine op_pure (pv_move (v := .bool _) rfl) ?_
          refine guard_no rfl hu ?_
          refine guard_no rfl hu ?_
          refine guard_no rfl hu ?_
          refine guard_no rfl hu ?_
          refine guard_no rfl hu ?_
          refine guard_no rfl hu ?_
          refine guard_yes rfl e3 ?_
          refine op_pure (pv_pickF rfl hu (v := .bool _) rfl) ?_
          refine op_pure (pv_pickF rfl e3 (v := .bool _) rfl) ?_
          refine xp_condF rfl (rfl) ?_
          refine xp_skip ?_
          refine xp_region rfl ?_
          refine op_pure (pv_move (v := .int .i64 _) rfl) ?_
          refine op_pure (pv_arith rfl (by omega)) ?_
          refine op_pure (pv_assign (v := .int .i64 _) rfl) ?_
          refine ⟨k + 1, ⟨rfl, trivial⟩, rfl, rfl, (Ext.trans (Ext.trans (Ext.trans E_k E9) E_i) E16), fun h3 E3 => hkl, by first | omega | (dsimp only; omega), ?_⟩
          repeat (first | exact off_base _ _ _ | refine off_upd (by decide) ?_ | refine off_updL rfl ?_ | refine off_mix rfl ?_)
    · skip
      refine xp_exit ?_
      refine xp_seq ?_
      refine xp_region rfl ?_
      refine op_fn (caps := []) (vs := []) rfl rfl rfl (rod_sounding rfl h_k) ?_
      rintro _ h26 E26 rfl
      refine op_pure (pv_assign (v := .bool _) rfl) ?_
      refine xp_ret ?_
      exact ⟨rfl, fun V => (Ext.trans (Ext.trans (Ext.trans (Ext.trans (Ext.trans (Ext.trans (Ext.trans (Ext.trans (Ext.trans (Ext.trans (Ext.trans E1 E2) E13) E4) E5) E6) E_u) E7) E8) E_k) E26) (ext_wl V)), rfl⟩
end
end Go.Proofs.Ythphpbdmbmiaiaa
