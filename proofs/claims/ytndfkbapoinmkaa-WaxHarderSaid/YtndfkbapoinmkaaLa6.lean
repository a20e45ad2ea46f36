/- An own logic over the model, its walks and its plain laws, joined of parts W54 W55 Tt W56 W57 W58 W42 W43 W59 W60 W61 Tu W62 W63 W64 W65 W44 W45 W66 Ub W67 W68 W69 W70 W71 W72 W73. Conditions: as each theorem states. -/
import Derived.Test.YtndfkbapoinmkaaLa5
import Derived.Test.YtndfkbapoinmkaaLa4
import Derived.Test.YtndfkbapoinmkaaRows
import Derived.Deep.Slices
import Derived.ProofKit
set_option linter.all false
/- Walks: the weathers that there can be, as the reference gathers them. Conditions: as each theorem states. -/
namespace Go.Proofs.Ytndfkbapoinmkaa
open Go Go.HL Go.Proofs Go.Wx
set_option maxRecDepth 100000
theorem rRanges_ok (s : Season) (n : Int) (hn : n = 1 ∨ n = 2) (A0 A1 A2 A3 : Option Addr) (c0 c1 c2 c3 : Nat) (h : AH) :
    FnT Try.prog 97 #[seasonV A0 A1 A2 A3 c0 c1 c2 c3 s, .int .i64 n] h (fun v _ => v = .slice (if n = 1 then A0 else A1) (weatherM s n).length (if n = 1 then c0 else c1)) := by
  rcases hn with rfl | rfl
  · skip
    refine call_body Try.func97 rfl Try.ntmps97 rfl ?_
    refine xp_seq ?_
    refine xp_region rfl ?_
    refine op_box (v := .agg #[.slice _ _ _, .slice _ _ _, .slice _ _ _, .slice _ _ _]) (cs := [_, _, _, _]) rfl rfl fun b2 hb2 => ?_
    refine wp_norm [_] rfl ?_
    refine op_pure (pv_assign (v := .slice _ _ _) rfl) ?_
    refine xp_seq ?_
    refine xp_seq ?_
    refine xp_region rfl ?_
    refine op_pure (pv_move (v := .int .i64 _) rfl) ?_
    refine op_pure (pv_of (v := .bool _) rfl) ?_
    refine xp_condT rfl (rfl) ?_
    refine xp_seq ?_
    refine xp_region rfl ?_
    refine op_pure (pv_fieldAddr rfl rfl rfl rfl 0 rfl) ?_
    refine op_loadP 0 (v := .slice _ _ _) rfl rfl rfl rfl ?_
    refine op_pure (pv_assign (v := .slice _ _ _) rfl) ?_
    refine xp_ret ?_
    refine res_list (vs := [_]) Try.results97 ⟨resV_tmp rfl rfl, trivial⟩ fun V => ?_
    exact ⟨(ext_wl V), rfl⟩
  · skip
    refine call_body Try.func97 rfl Try.ntmps97 rfl ?_
    refine xp_seq ?_
    refine xp_region rfl ?_
    refine op_box (v := .agg #[.slice _ _ _, .slice _ _ _, .slice _ _ _, .slice _ _ _]) (cs := [_, _, _, _]) rfl rfl fun b2 hb2 => ?_
    refine wp_norm [_] rfl ?_
    refine op_pure (pv_assign (v := .slice _ _ _) rfl) ?_
    refine xp_seq ?_
    refine xp_seq ?_
    refine xp_region rfl ?_
    refine op_pure (pv_move (v := .int .i64 _) rfl) ?_
    refine op_pure (pv_of (v := .bool _) rfl) ?_
    refine xp_condF rfl (rfl) ?_
    refine xp_skip ?_
    refine xp_seq ?_
    refine xp_region rfl ?_
    refine op_pure (pv_fieldAddr rfl rfl rfl rfl 1 rfl) ?_
    refine op_loadP 0 (v := .slice _ _ _) rfl rfl rfl rfl ?_
    refine op_pure (pv_assign (v := .slice _ _ _) rfl) ?_
    refine xp_ret ?_
    refine res_list (vs := [_]) Try.results97 ⟨resV_tmp rfl rfl, trivial⟩ fun V => ?_
    exact ⟨(ext_wl V), rfl⟩
/-- The failures of the first joints. -/
def recK (s : Season) (n : Int) (x : List Int) (k : Nat) : List (List Fl) := (List.range k).map fun i => surv s n (skyOf x) i
theorem recK_succ (s : Season) (n : Int) (x : List Int) (k : Nat) : recK s n x (k + 1) = recK s n x k ++ [surv s n (skyOf x) k] := by unfold recK; rw [List.range_succ, List.map_append]; rfl
theorem rSkK (s : Season) (n : Int) {k : Nat} (h : k < (allW s n).length) : ((allW s n).take (k + 1)).filter (fun x => okM s n (skyOf x)) = ((allW s n).take k).filter (fun x => okM s n (skyOf x)) ++ if okM s n (skyOf (allW s n)[k]) then [(allW s n)[k]] else [] := by
  rw [take_snoc h, List.filter_append]
  congr 1
  cases h2 : okM s n (skyOf (allW s n)[k]) <;> simp [h2]
theorem flat_pr_len (ps : List (Value × Value)) : (ps.flatMap prC).length = ps.length * 2 := flat_len fun x _ => prM x
theorem accR_len2 {α : Type} {R : AH → α → Value × Value → Prop} {h : AH} {e : TypeId} {ps : List (Value × Value)} {ls : List α} {a : Acc} (x : AccR e 2 (ps.flatMap prC) a) (y : RLv R h ls ps) : a.n = ls.length := by
  have h1 := AccR.len x
  rw [flat_pr_len, y.1] at h1
  omega
theorem accR_len1 {α : Type} {R : AH → α → Value → Prop} {h : AH} {e : TypeId} {vs : List Value} {ls : List α} {a : Acc} (x : AccR e 1 vs a) (y : RLv R h ls vs) : a.n = ls.length := by
  have h1 := AccR.len x
  rw [y.1] at h1
  omega
theorem rFailuresS_ok (s : Season) (SV : SeasonV s) (n : Int) (i : Nat) (hi : i < s.joints.length) (hk : s.joints[i].kind = n) (x : List Int) (hx : x.length = s.heats.length) (A0 A1 A2 A3 A : Option Addr) (c0 c1 c2 c3 c : Nat) (h : AH) (R : SeasonR h A0 A1 A2 A3 s) (RX : Row h 1 intC A x) :
    FnT Try.prog 136 #[seasonV A0 A1 A2 A3 c0 c1 c2 c3 s, .int .i64 i, .slice A x.length c] h (fun v h' => SlR h' 4 flR (surv s n (skyOf x) i) v) := by
  rw [← accF_surv (List.getElem?_eq_getElem hi) hk SV.b.w6 (fun r hr => (SV.b.rw r hr).1) hx]
  exact rFailures_ok s i hi (by have := SV.b.j3; omega) (by have := SV.b.rl; omega) (SV.b.jb _ (List.getElem_mem hi)) x (by have := SV.b.w6; omega) A0 A1 A2 A3 A c0 c1 c2 c3 c h R RX
set_option maxHeartbeats 4000000 in
theorem rSkies_ok (s : Season) (SV : SeasonV s) (n : Int) (hn : n = 1 ∨ n = 2) (A0 A1 A2 A3 : Option Addr) (c0 c1 c2 c3 : Nat) (h : AH) (R : SeasonR h A0 A1 A2 A3 s) :
    FnT Try.prog 114 #[seasonV A0 A1 A2 A3 c0 c1 c2 c3 s, .int .i64 n] h (fun v h' => SKR s n h' (rSk s n) v) := by
  have hw6 := SV.b.w6
  have hj3 := SV.b.j3
  have hwl := (SV.b.wb n).1
  have hrl : s.reports.length < 2 ^ 40 := by have := SV.b.rl; omega
  have hr0 : ∀ r ∈ s.reports, 0 ≤ r.week := fun r hr => (SV.b.rw r hr).1
  have RW : Row h 2 rgC (if n = 1 then A0 else A1) (weatherM s n) := by
    unfold weatherM
    rcases hn with rfl | rfl
    · exact R.heats
    · exact R.damps
  have hb : ∀ r ∈ weatherM s n, -1000 ≤ r.mn ∧ r.mn ≤ r.mx ∧ r.mx ≤ 1000 ∧ r.mx ≤ r.mn + 2 := fun r hr => by
    have := (SV.b.wb n).2 r hr
    exact ⟨by have := this.lo; omega, this.le, by have := this.hi; omega, by have := this.wide; omega⟩
  have hWl : (allW s n).length ≤ 729 := by
    refine Nat.le_trans (wthM_len (fun r hr => (hb r hr).2.2.2) _ _ (by simp)) ?_
    refine Nat.le_trans (Nat.pow_le_pow_right (by omega) (show (weatherM s n).length ≤ 6 by omega)) (by decide)
  refine call_body Try.func114 rfl Try.ntmps114 rfl ?_
  refine goes_more ?_
  refine goes_norm [_] rfl ?_
  refine xp_seq ?_
  refine xp_region rfl ?_
  refine op_box (v := .agg #[.slice _ _ _, .slice _ _ _, .slice _ _ _, .slice _ _ _]) (cs := [_, _, _, _]) rfl rfl fun b2 hb2 => ?_
  refine wp_norm [_, _] rfl ?_
  refine op_pure (pv_assign (v := .slice _ _ _) rfl) ?_
  refine xp_seq ?_
  refine xp_region rfl ?_
  refine op_loadPA 1 (vs := [.slice _ _ _, .slice _ _ _, .slice _ _ _, .slice _ _ _]) rfl rfl rfl rfl rfl ?_
  refine op_pure (pv_move (v := .int .i64 _) rfl) ?_
  refine op_fn (caps := []) (vs := [.agg #[.slice _ _ _, .slice _ _ _, .slice _ _ _, .slice _ _ _], .int .i64 _]) rfl rfl rfl (rRanges_ok s n hn A0 A1 A2 A3 c0 c1 c2 c3 h) ?_
  rintro _ h1 E1 rfl
  refine op_fn (caps := []) (vs := [.slice _ _ _, .slice _ _ _]) rfl rfl rfl (rWeathers_ok (weatherM s n) (by omega) hb _ _ (weatherM s n).length [] (by simp) none 0 h1 (RW.ext E1) ⟨fun _ h => (by cases h), Rd.nil _ _⟩) ?_
  rintro _ h2 E2 ⟨WA, wc, wvs, rfl, WR, WL⟩
  have hwv := WL.1
  have eW : wthM (weatherM s n) (weatherM s n).length [] = allW s n := rfl
  rw [eW] at hwv
  have hwE : (wthM (weatherM s n) (weatherM s n).length []).length = (allW s n).length := rfl
  refine op_pure (pv_assign (v := .slice _ _ _) rfl) ?_
  refine xp_seq ?_
  refine xp_region rfl ?_
  refine op_pure (pv_assign (v := .slice _ _ _) rfl) ?_
  refine xp_seq ?_
  refine xp_seq ?_
  refine xp_region rfl ?_
  refine op_pure (pv_assign (v := .int .i64 _) rfl) ?_
  refine xp_block ?_
  refine xp_loopL [6, 7, 8, 9, 10, 11, 16, 17, 18, 19, 20, 21, 22, 23, 24, 25, 26, 27, 28, 29, 30, 31, 32, 33, 34, 35, 36, 37, 38, 39, 40, 41, 42, 43, 44, 45, 46, 47, 48, 49, 50, 51, 52, 53, 54, 55, 56, 57, 58, 59, 60, 61, 62, 63, 64, 65] 2 (α := Nat × Acc × List (Value × Value)) (fun ⟨k, a, ps⟩ => [(7, .int .i64 k), (6, .slice a.A a.n a.c)]) (fun ⟨k, a, ps⟩ L => L.set 0 (a.p)) (fun ⟨k, a, ps⟩ h_k => k ≤ (allW s n).length ∧ AccR 154 2 (ps.flatMap prC) a ∧ RLv (SkP s n) h_k (((allW s n).take k).filter fun x => okM s n (skyOf x)) ps) (fun ⟨k, a, ps⟩ => (allW s n).length - k) ((0, acc0, [])) ⟨rfl, rfl, trivial⟩ (rfl) (⟨Nat.zero_le _, accR0, by simpa using RLv.nil⟩) ?_
  rintro ⟨k, a, ps⟩ T1 h_k E_k J_k
  refine goes_norm [_, _] rfl ?_
  obtain ⟨K1, K2, K3⟩ := J_k
  have hps : ps.length ≤ 729 := by
    rw [K3.1]
    exact Nat.le_trans (List.length_filter_le _ _) (by rw [List.length_take]; omega)
  refine xp_seq ?_
  refine xp_seq ?_
  refine xp_region rfl ?_
  refine op_pure (pv_move (v := .int .i64 _) rfl) ?_
  refine op_pure (pv_move (v := .slice _ _ _) rfl) ?_
  refine op_pure (pv_len rfl rfl) ?_
  refine op_pure (pv_of (v := .bool _) rfl) ?_
  refine xp_cond rfl (fun hk => ?_) (fun hk => ?_)
  · skip
    have hkl : k < (allW s n).length := by have := ltI hk; omega
    have hkv : k < wvs.length := by omega
    refine goes_more ?_
    refine goes_norm [_, _, _] rfl ?_
    obtain ⟨x, ex⟩ : ∃ x, x = (allW s n)[k] := ⟨_, rfl⟩
    have hxl : x.length = s.heats.length := by
      have := wth_len _ _ _ (show x ∈ wthM (weatherM s n) (weatherM s n).length [] from ex ▸ List.getElem_mem hkl)
      simpa [hwl] using this
    obtain ⟨gR, oR, hRA, hcR⟩ := (WR.ext E_k).at (by omega) hkv
    obtain ⟨A', c', hv, R'⟩ := WL.2 k x _ (by rw [eW, ex]; exact List.getElem?_eq_getElem hkl) (List.getElem?_eq_getElem hkv)
    have hcR0 : cellA h_k ⟨gR, oR + k * 1 + 0, none⟩ = some (.slice A' x.length c') := hcR 0 _ (by rw [hv]; rfl)
    refine xp_skip ?_
    refine xp_seq ?_
    refine xp_block ?_
    refine xp_seq ?_
    refine xp_region rfl ?_
    refine op_pure (pv_move (v := .slice _ _ _) rfl) ?_
    refine op_pure (pv_move (v := .int .i64 _) rfl) ?_
    refine op_pure (pv_indexE rfl hRA rfl rfl rfl (by omega) (by omega)) ?_
    refine op_load (v := .slice _ _ _) rfl rfl hcR0 ?_
    refine op_pure (pv_build (zc := [_, _]) (vs := [(0, .slice _ _ _)]) (cs := [_, _]) rfl rfl rfl rfl rfl rfl) ?_
    refine op_alloc (cs := [_, _]) rfl rfl fun b8 hb8 => ?_
    refine wp_norm [_, _, _, _] rfl ?_
    refine op_storeP 3 (v := .agg #[.slice _ _ _, .slice _ _ _]) (vs := [_, _]) (c' := [_, _]) rfl rfl rfl rfl rfl rfl rfl rfl rfl ?_
    refine wp_norm [_, _, _, _] rfl ?_
    refine xp_seq ?_
    refine xp_region rfl ?_
    refine op_pure (pv_assign (v := .bool _) rfl) ?_
    refine xp_seq ?_
    refine xp_seq ?_
    refine xp_region rfl ?_
    refine op_pure (pv_assign (v := .int .i64 _) rfl) ?_
    refine xp_block ?_
    refine xp_loopL [9, 10, 11, 27, 28, 29, 30, 31, 32, 33, 34, 35, 36, 37, 38, 39, 40, 41, 42, 43, 44, 45, 46, 47, 48, 49, 50, 51, 52, 53, 54, 55, 56, 57, 58, 59, 60] 4 (α := Nat × Acc × List Value) (fun ⟨j, f, vs⟩ => [(9, .bool (okP s n x j)), (10, .int .i64 j)]) (fun ⟨j, f, vs⟩ L => (L.set 3 (some (b8, .cells #[.slice A' x.length c', .slice f.A f.n f.c] 154 (0, 0)))).set 2 (f.p)) (fun ⟨j, f, vs⟩ h_j => j ≤ s.joints.length ∧ AccR 117 1 vs f ∧ RLv (fun h l v => SlR h 4 flR l v) h_j (recK s n x j) vs) (fun ⟨j, f, vs⟩ => s.joints.length - j) ((0, acc0, [])) ⟨rfl, rfl, trivial⟩ (rfl) (⟨Nat.zero_le _, accR0, RLv.nil⟩) ?_
    rintro ⟨j, f, vs⟩ T2 h_j E_j J_j
    refine goes_norm [_, _, _, _] rfl ?_
    obtain ⟨J1, J2, J3⟩ := J_j
    have hvs : vs.length = j := by rw [J3.1]; simp [recK]
    refine xp_seq ?_
    refine xp_seq ?_
    refine xp_region rfl ?_
    refine op_pure (pv_move (v := .int .i64 _) rfl) ?_
    refine op_pure (pv_fieldAddr rfl rfl rfl rfl 2 rfl) ?_
    refine op_loadP 1 (v := .slice _ _ _) rfl rfl rfl rfl ?_
    refine op_pure (pv_len rfl rfl) ?_
    refine op_pure (pv_of (v := .bool _) rfl) ?_
    refine xp_cond rfl (fun hj => ?_) (fun hj => ?_)
    · skip
      have hjl : j < s.joints.length := by have := ltI hj; omega
      have hat : s.joints[j]? = some s.joints[j] := List.getElem?_eq_getElem hjl
      obtain ⟨g, off, hB, hc⟩ := (R.joints.ext (Ext.trans (Ext.trans (Ext.trans E1 E2) E_k) E_j)).at (by omega) hjl
      refine xp_skip ?_
      refine xp_seq ?_
      refine xp_block ?_
      refine xp_seq ?_
      refine xp_region rfl ?_
      refine op_pure (pv_assign (v := .slice _ _ _) rfl) ?_
      refine xp_seq ?_
      refine xp_seq ?_
      refine xp_region rfl ?_
      refine op_pure (pv_fieldAddr rfl rfl rfl rfl 2 rfl) ?_
      refine op_loadP 1 (v := .slice _ _ _) rfl rfl rfl rfl ?_
      refine op_pure (pv_move (v := .int .i64 _) rfl) ?_
      refine op_pure (pv_indexE rfl hB rfl rfl rfl (by omega) (by omega)) ?_
      refine op_pure (pv_fieldAddr rfl rfl rfl rfl _ rfl) ?_
      refine op_load (v := .int .i64 _) rfl rfl ((hc) 0 _ rfl) ?_
      refine op_pure (pv_move (v := .int .i64 _) rfl) ?_
      refine op_pure (pv_of (v := .bool _) rfl) ?_
      refine xp_cond rfl (fun hk2 => ?_) (fun hk2 => ?_)
      · skip
        have hkd : s.joints[j].kind = n := of_decide_eq_true hk2
        have hka : kindAt s j = n := by rw [kindAt_some hat]; exact hkd
        refine xp_seq ?_
        refine xp_dw [] rfl rfl rfl ?_
        refine dw_load (i := 0) rfl (by decide +kernel) ?_
        refine op_loadPA 1 (vs := [.slice _ _ _, .slice _ _ _, .slice _ _ _, .slice _ _ _]) rfl rfl rfl rfl rfl ?_
        refine dw_pure (i := 1) rfl (by decide +kernel) (pv_move (v := .int .i64 _) rfl) ?_
        refine dw_pure (i := 2) rfl (by decide +kernel) (pv_move (v := .slice _ _ _) rfl) ?_
        refine dw_pure (i := 3) rfl (by decide +kernel) (pv_move (v := .int .i64 _) rfl) ?_
        refine dw_pure (i := 4) rfl (by decide +kernel) (pv_indexE rfl hRA rfl rfl rfl (by omega) (by omega)) ?_
        refine dw_load (i := 5) rfl (by decide +kernel) ?_
        refine op_load (v := .slice A' x.length c') rfl rfl ((hcR.ext E_j) 0 _ (by rw [hv]; rfl)) ?_
        refine dw_last (i := 6) rfl (by decide +kernel) (by decide +kernel) ?_
        refine op_fn (caps := []) (vs := [.agg #[.slice _ _ _, .slice _ _ _, .slice _ _ _, .slice _ _ _], .int .i64 _, .slice _ _ _]) rfl rfl rfl (rFailuresS_ok s SV n j hjl hkd x hxl A0 A1 A2 A3 A' c0 c1 c2 c3 c' h_j (R.ext (Ext.trans (Ext.trans (Ext.trans E1 E2) E_k) E_j)) (R'.ext (Ext.trans E_k E_j))) ?_
        rintro _ h5 E5 ⟨FA, fc, rfl, FR⟩
        refine dw_pure (i := 7) rfl (by decide +kernel) (pv_assign (v := .slice _ _ _) rfl) ?_
        refine dw_end rfl ?_
        refine xp_region rfl ?_
        refine op_pure (pv_move (v := .bool _) rfl) ?_
        refine op_pure (pv_move (v := .bool _) rfl) ?_
        rcases Bool.eq_false_or_eq_true (okP s n x j) with e | e
        · skip
          refine guard_yes rfl e ?_
          refine op_pure (pv_move (v := .slice _ _ _) rfl) ?_
          refine guard_yes rfl e ?_
          refine op_pure (pv_len rfl rfl) ?_
          refine guard_yes rfl e ?_
          refine op_pure (pv_of (v := .bool _) rfl) ?_
          refine op_pure (pv_pickT rfl e (v := .bool _) rfl) ?_
          refine op_pure (pv_assign (v := .bool _) rfl) ?_
          refine xp_region rfl ?_
          refine op_pure (pv_fieldAddr rfl rfl rfl rfl 1 rfl) ?_
          refine op_loadP 3 (v := .slice _ _ _) rfl rfl rfl rfl ?_
          refine op_pure (pv_move (v := .slice _ _ _) rfl) ?_
          refine op_buildSlice (zc := [_]) (vs := [(0, .slice _ _ _)]) (cs := [_]) rfl rfl rfl rfl rfl rfl rfl fun b58 hb58 => ?_
          refine wp_norm [_, _, _, _, _] rfl ?_
          refine op_appendR 2 J2 rfl rfl rfl (fun V => rdP V (i := 4) rfl) rfl rfl rfl rfl rfl rfl rfl rfl rfl (by omega) rfl (by simp; omega) fun f2 h3a E3a hf2 => ?_
          refine wp_norm [_, _, _, _, _] rfl ?_
          refine op_pure (pv_fieldAddr rfl rfl rfl rfl 1 rfl) ?_
          refine op_storeP 3 (v := .slice _ _ _) (vs := [_]) (c' := [_, _]) rfl rfl rfl rfl rfl rfl rfl rfl rfl ?_
          refine wp_norm [_, _, _, _, _] rfl ?_
          refine xp_region rfl ?_
          refine op_pure (pv_move (v := .int .i64 _) rfl) ?_
          refine op_pure (pv_arith rfl (by omega)) ?_
          refine op_pure (pv_assign (v := .int .i64 _) rfl) ?_
          refine ⟨(j + 1, f2, vs ++ [.slice FA (surv s n (skyOf x) j).length fc]), ⟨(by rw [okP_succ, e, hka]; simp; rfl), rfl, trivial⟩, rfl, rfl, (Ext.trans (Ext.trans E_j E5) E3a), fun h3 E3 => ⟨hjl, hf2, by rw [recK_succ]; exact flx ((flx J3 (Ext.trans E5 E3a)).snoc ⟨FA, fc, rfl, FR.ext E3a⟩) E3⟩, by first | omega | (dsimp only; omega), ?_⟩
          repeat (first | exact off_base _ _ _ | refine off_upd (by decide) ?_ | refine off_updL rfl ?_ | refine off_mix rfl ?_)
        · skip
          refine guard_no rfl e ?_
          refine guard_no rfl e ?_
          refine guard_no rfl e ?_
          refine op_pure (pv_pickF rfl e (v := .bool _) rfl) ?_
          refine op_pure (pv_assign (v := .bool _) rfl) ?_
          refine xp_region rfl ?_
          refine op_pure (pv_fieldAddr rfl rfl rfl rfl 1 rfl) ?_
          refine op_loadP 3 (v := .slice _ _ _) rfl rfl rfl rfl ?_
          refine op_pure (pv_move (v := .slice _ _ _) rfl) ?_
          refine op_buildSlice (zc := [_]) (vs := [(0, .slice _ _ _)]) (cs := [_]) rfl rfl rfl rfl rfl rfl rfl fun b58_1 hb58_1 => ?_
          refine wp_norm [_, _, _, _, _] rfl ?_
          refine op_appendR 2 J2 rfl rfl rfl (fun V => rdP V (i := 4) rfl) rfl rfl rfl rfl rfl rfl rfl rfl rfl (by omega) rfl (by simp; omega) fun f2 h4a E4a hf2 => ?_
          refine wp_norm [_, _, _, _, _] rfl ?_
          refine op_pure (pv_fieldAddr rfl rfl rfl rfl 1 rfl) ?_
          refine op_storeP 3 (v := .slice _ _ _) (vs := [_]) (c' := [_, _]) rfl rfl rfl rfl rfl rfl rfl rfl rfl ?_
          refine wp_norm [_, _, _, _, _] rfl ?_
          refine xp_region rfl ?_
          refine op_pure (pv_move (v := .int .i64 _) rfl) ?_
          refine op_pure (pv_arith rfl (by omega)) ?_
          refine op_pure (pv_assign (v := .int .i64 _) rfl) ?_
          refine ⟨(j + 1, f2, vs ++ [.slice FA (surv s n (skyOf x) j).length fc]), ⟨(by rw [okP_succ, e]; rfl), rfl, trivial⟩, rfl, rfl, (Ext.trans (Ext.trans E_j E5) E4a), fun h3 E3 => ⟨hjl, hf2, by rw [recK_succ]; exact flx ((flx J3 (Ext.trans E5 E4a)).snoc ⟨FA, fc, rfl, FR.ext E4a⟩) E3⟩, by first | omega | (dsimp only; omega), ?_⟩
          repeat (first | exact off_base _ _ _ | refine off_upd (by decide) ?_ | refine off_updL rfl ?_ | refine off_mix rfl ?_)
      · skip
        have hkd : s.joints[j].kind ≠ n := of_decide_eq_false hk2
        have hka : kindAt s j ≠ n := by rw [kindAt_some hat]; exact hkd
        refine xp_skip ?_
        refine xp_region rfl ?_
        refine op_pure (pv_fieldAddr rfl rfl rfl rfl 1 rfl) ?_
        refine op_loadP 3 (v := .slice _ _ _) rfl rfl rfl rfl ?_
        refine op_pure (pv_move (v := .slice _ _ _) rfl) ?_
        refine op_buildSlice (zc := [_]) (vs := [(0, .slice _ _ _)]) (cs := [_]) rfl rfl rfl rfl rfl rfl rfl fun b58_2 hb58_2 => ?_
        refine wp_norm [_, _, _, _, _] rfl ?_
        refine op_appendR 2 J2 rfl rfl rfl (fun V => rdP V (i := 4) rfl) rfl rfl rfl rfl rfl rfl rfl rfl rfl (by omega) rfl (by simp; omega) fun f2 h5a E5a hf2 => ?_
        refine wp_norm [_, _, _, _, _] rfl ?_
        refine op_pure (pv_fieldAddr rfl rfl rfl rfl 1 rfl) ?_
        refine op_storeP 3 (v := .slice _ _ _) (vs := [_]) (c' := [_, _]) rfl rfl rfl rfl rfl rfl rfl rfl rfl ?_
        refine wp_norm [_, _, _, _, _] rfl ?_
        refine xp_region rfl ?_
        refine op_pure (pv_move (v := .int .i64 _) rfl) ?_
        refine op_pure (pv_arith rfl (by omega)) ?_
        refine op_pure (pv_assign (v := .int .i64 _) rfl) ?_
        refine ⟨(j + 1, f2, vs ++ [.slice none 0 0]), ⟨(by rw [okP_other hka]; rfl), rfl, trivial⟩, rfl, rfl, (Ext.trans E_j E5a), fun h3 E3 => ⟨hjl, hf2, by rw [recK_succ, surv_other hka]; exact flx ((flx J3 E5a).snoc ⟨none, 0, rfl, fun _ h => (by cases h), Rd.nil _ _⟩) E3⟩, by first | omega | (dsimp only; omega), ?_⟩
        repeat (first | exact off_base _ _ _ | refine off_upd (by decide) ?_ | refine off_updL rfl ?_ | refine off_mix rfl ?_)
    · skip
      have hje : j = s.joints.length := by have := geI hj; omega
      subst hje
      have hnf := accR_len1 J2 J3
      obtain ⟨pf, fA, fn, fc⟩ := f
      dsimp only at hnf
      subst hnf
      dsimp only
      refine goes_pubO 2 rfl ?_
      intro gf Gf Pf
      refine goes_norm [_, _, _, _] rfl ?_
      have RFL : FLR gf (recF s n x) (.slice fA (recK s n x s.joints.length).length fc) := ⟨fA, fc, vs, rfl, ⟨fun _ _ => rfl, by rw [flat_fn]; exact AccR.rd J2 Pf⟩, flx J3 Gf⟩
      rw [okP_all]
      refine xp_exit ?_
      refine xp_seq ?_
      refine xp_region rfl ?_
      refine op_pure (pv_move (v := .bool _) rfl) ?_
      refine xp_cond rfl (fun hf => ?_) (fun hf => ?_)
      · skip
        refine xp_region rfl ?_
        refine op_pure (pv_move (v := .slice _ _ _) rfl) ?_
        refine op_loadPA 3 (vs := [.slice _ _ _, .slice _ _ _]) rfl rfl rfl rfl rfl ?_
        refine op_buildSlice (zc := [_, _]) (vs := [(0, .agg #[.slice _ _ _, .slice _ _ _])]) (cs := [_, _]) rfl rfl rfl rfl rfl rfl rfl fun b64 hb64 => ?_
        refine wp_norm [_, _, _, _, _] rfl ?_
        refine op_appendR 0 K2 rfl rfl rfl (fun V => rdP V (i := 4) rfl) rfl rfl rfl rfl rfl rfl rfl rfl rfl (by omega) rfl (by rw [flat_pr_len]; simp; omega) fun a2 h6a E6a ha2 => ?_
        refine wp_norm [_, _, _, _, _] rfl ?_
        refine op_pure (pv_assign (v := .slice _ _ _) rfl) ?_
        refine xp_region rfl ?_
        refine op_pure (pv_move (v := .int .i64 _) rfl) ?_
        refine op_pure (pv_arith rfl (by omega)) ?_
        refine op_pure (pv_assign (v := .int .i64 _) rfl) ?_
        refine ⟨(k + 1, a2, ps ++ [(.slice A' x.length c', .slice fA (recK s n x s.joints.length).length fc)]), ⟨rfl, rfl, trivial⟩, rfl, rfl, (Ext.trans (Ext.trans (Ext.trans E_k E_j) Gf) E6a), fun h3 E3 => ⟨hkl, by rw [List.flatMap_append]; exact ha2, by rw [rSkK s n hkl, ← ex, if_pos hf]; exact skx ((skx K3 (Ext.trans (Ext.trans E_j Gf) E6a)).snoc ⟨⟨A', c', rfl, R'.ext (Ext.trans (Ext.trans (Ext.trans E_k E_j) Gf) E6a)⟩, RFL.ext E6a⟩) E3⟩, by first | omega | (dsimp only; omega), ?_⟩
        repeat (first | exact off_base _ _ _ | refine off_upd (by decide) ?_ | refine off_updL rfl ?_ | refine off_mix rfl ?_)
      · skip
        refine xp_skip ?_
        refine xp_region rfl ?_
        refine op_pure (pv_move (v := .int .i64 _) rfl) ?_
        refine op_pure (pv_arith rfl (by omega)) ?_
        refine op_pure (pv_assign (v := .int .i64 _) rfl) ?_
        refine ⟨(k + 1, a, ps), ⟨rfl, rfl, trivial⟩, rfl, rfl, (Ext.trans (Ext.trans E_k E_j) Gf), fun h3 E3 => ⟨hkl, K2, by rw [rSkK s n hkl, ← ex, if_neg (by rw [hf]; decide), List.append_nil]; exact skx (skx K3 (Ext.trans E_j Gf)) E3⟩, by first | omega | (dsimp only; omega), ?_⟩
        repeat (first | exact off_base _ _ _ | refine off_upd (by decide) ?_ | refine off_updL rfl ?_ | refine off_mix rfl ?_)
  · skip
    have hke : k = (allW s n).length := by have := geI hk; omega
    subst hke
    rw [List.take_length] at K3
    have hno := accR_len2 K2 K3
    obtain ⟨pO, AO, nO, cO⟩ := a
    dsimp only at hno
    subst hno
    dsimp only
    refine goes_pubO 0 rfl ?_
    intro g G P
    refine goes_norm [_, _] rfl ?_
    refine xp_exit ?_
    refine xp_seq ?_
    refine xp_region rfl ?_
    refine op_pure (pv_move (v := .slice _ _ _) rfl) ?_
    refine op_pure (pv_assign (v := .slice _ _ _) rfl) ?_
    refine xp_ret ?_
    refine res_list (vs := [_]) Try.results114 ⟨resV_tmp rfl rfl, trivial⟩ fun V => ?_
    exact ⟨(Ext.trans (Ext.trans (Ext.trans (Ext.trans E1 E2) E_k) G) (ext_wl V)), AO, cO, ps, rfl, ⟨fun _ _ => rfl, (AccR.rd K2 P).ext (ext_wl V)⟩, skx K3 (Ext.trans G (ext_wl V))⟩
end Go.Proofs.Ytndfkbapoinmkaa
/- Walks: what the reference knows of a season. Conditions: as each theorem states. -/
namespace Go.Proofs.Ytndfkbapoinmkaa
open Go Go.HL Go.Proofs Go.Wx
set_option maxRecDepth 100000
set_option maxHeartbeats 1000000 in
theorem rMay_ok (s : Season) (SV : SeasonV s) (A0 A1 A2 A3 : Option Addr) (c0 c1 c2 c3 : Nat) (h : AH) (R : SeasonR h A0 A1 A2 A3 s) :
    FnT Try.prog 83 #[seasonV A0 A1 A2 A3 c0 c1 c2 c3 s] h (fun v _ => v = .bool (mayM s)) := by
  have hw6 := SV.b.w6
  have em := rMay (s := s) (by rw [(SV.b.wb 1).1]; exact hw6) (by rw [(SV.b.wb 2).1]; exact hw6)
  have i1 : decide (((rSk s 1).length : Int) > 0) = decide (0 < (rSk s 1).length) := by rw [Bool.eq_iff_iff]; simp
  have i2 : decide (((rSk s 2).length : Int) > 0) = decide (0 < (rSk s 2).length) := by rw [Bool.eq_iff_iff]; simp
  rw [em]
  refine call_body Try.func83 rfl Try.ntmps83 rfl ?_
  refine xp_seq ?_
  refine xp_region rfl ?_
  refine op_box (v := .agg #[.slice _ _ _, .slice _ _ _, .slice _ _ _, .slice _ _ _]) (cs := [_, _, _, _]) rfl rfl fun b1 hb1 => ?_
  refine wp_norm [_] rfl ?_
  refine op_pure (pv_assign (v := .bool _) rfl) ?_
  refine xp_seq ?_
  refine xp_region rfl ?_
  refine op_loadPA 0 (vs := [.slice _ _ _, .slice _ _ _, .slice _ _ _, .slice _ _ _]) rfl rfl rfl rfl rfl ?_
  refine op_fn (caps := []) (vs := [.agg #[.slice _ _ _, .slice _ _ _, .slice _ _ _, .slice _ _ _], .int .i64 _]) rfl rfl rfl (rSkies_ok s SV 1 (.inl rfl) A0 A1 A2 A3 c0 c1 c2 c3 h (R.ext (Ext.refl _))) ?_
  rintro _ h1 E1 ⟨B1, d1, ps1, rfl, _, _⟩
  refine op_pure (pv_len rfl rfl) ?_
  refine op_pure (pv_of (v := .bool _) rfl) ?_
  refine op_pure (pv_move (v := .bool _) rfl) ?_
  rcases Bool.eq_false_or_eq_true (decide (((rSk s 1).length : Int) > 0)) with e | e
  · skip
    refine guard_yes rfl e ?_
    refine op_loadPA 0 (vs := [.slice _ _ _, .slice _ _ _, .slice _ _ _, .slice _ _ _]) rfl rfl rfl rfl rfl ?_
    refine guard_yes rfl e ?_
    refine op_fn (caps := []) (vs := [.agg #[.slice _ _ _, .slice _ _ _, .slice _ _ _, .slice _ _ _], .int .i64 _]) rfl rfl rfl (rSkies_ok s SV 2 (.inr rfl) A0 A1 A2 A3 c0 c1 c2 c3 h1 (R.ext E1)) ?_
    rintro _ h2 E2 ⟨B2, d2, ps2, rfl, _, _⟩
    refine guard_yes rfl e ?_
    refine op_pure (pv_len rfl rfl) ?_
    refine guard_yes rfl e ?_
    refine op_pure (pv_of (v := .bool _) rfl) ?_
    refine op_pure (pv_pickT rfl e (v := .bool _) rfl) ?_
    refine op_pure (pv_assign (v := .bool _) rfl) ?_
    refine xp_ret ?_
    refine res_list (vs := [_]) Try.results83 ⟨resV_tmp rfl rfl, trivial⟩ fun V => ?_
    exact ⟨(Ext.trans (Ext.trans E1 E2) (ext_wl V)), by rw [← i1, e, ← i2]; rfl⟩
  · skip
    refine guard_no rfl e ?_
    refine guard_no rfl e ?_
    refine guard_no rfl e ?_
    refine guard_no rfl e ?_
    refine op_pure (pv_pickF rfl e (v := .bool _) rfl) ?_
    refine op_pure (pv_assign (v := .bool _) rfl) ?_
    refine xp_ret ?_
    refine res_list (vs := [_]) Try.results83 ⟨resV_tmp rfl rfl, trivial⟩ fun V => ?_
    exact ⟨(Ext.trans E1 (ext_wl V)), by rw [← i1, e]; rfl⟩
def allK (s : Season) (n : Int) (i k : Nat) : List Fl := ((rSk s n).take k).flatMap fun x => surv s n (skyOf x) i
theorem allK_succ {s : Season} {n : Int} {i k : Nat} (h : k < (rSk s n).length) : allK s n i (k + 1) = allK s n i k ++ surv s n (skyOf (rSk s n)[k]) i := by
  unfold allK; rw [take_snoc h, List.flatMap_append]; simp
theorem rSk_len729 {s : Season} (SV : SeasonV s) (n : Int) : (rSk s n).length ≤ 729 := by
  have h6 := SV.b.w6
  have hwl := (SV.b.wb n).1
  have := congrArg List.length (rSk_map (s := s) (n := n) (by omega))
  rw [List.length_map] at this
  rw [this]
  exact Nat.le_trans (List.length_filter_le _ _) (by rw [List.take_length]; exact allSkies_len SV.b n)
theorem allK_len {s : Season} (SV : SeasonV s) (n : Int) (i k : Nat) : (allK s n i k).length ≤ 393660 := by
  have h1 := flatMap_len (fun x => surv s n (skyOf x) i) 540 ((rSk s n).take k) fun x _ => surv_len SV.b.jb
  have h2 := rSk_len729 SV n
  rw [List.length_take] at h1
  have : min k (rSk s n).length ≤ 729 := by omega
  exact Nat.le_trans h1 (Nat.le_trans (Nat.mul_le_mul_right 540 this) (by decide))
set_option maxHeartbeats 2000000 in
theorem rAll_ok (s : Season) (SV : SeasonV s) (i : Nat) (hi : i < s.joints.length) (A0 A1 A2 A3 : Option Addr) (c0 c1 c2 c3 : Nat) (h : AH) (R : SeasonR h A0 A1 A2 A3 s) :
    FnT Try.prog 84 #[seasonV A0 A1 A2 A3 c0 c1 c2 c3 s, .int .i64 i] h (fun v h' => SlR h' 4 flR (flsM s (kindAt s i) i) v) := by
  have hw6 := SV.b.w6
  have hj3 := SV.b.j3
  obtain ⟨n, en⟩ : ∃ n, n = s.joints[i].kind := ⟨_, rfl⟩
  have hka : kindAt s i = n := by rw [kindAt_some (List.getElem?_eq_getElem hi), en]
  have hn : n = 1 ∨ n = 2 := by rw [en]; exact SV.kinds _ (List.getElem_mem hi)
  have hwl := (SV.b.wb n).1
  have hS := rSk_len729 SV n
  obtain ⟨g, off, hB, hc⟩ := R.joints.at (by omega) hi
  rw [hka, rSk_fls (by omega)]
  refine call_body Try.func84 rfl Try.ntmps84 rfl ?_
  refine goes_more ?_
  refine goes_norm [_] rfl ?_
  refine xp_seq ?_
  refine xp_region rfl ?_
  refine op_box (v := .agg #[.slice _ _ _, .slice _ _ _, .slice _ _ _, .slice _ _ _]) (cs := [_, _, _, _]) rfl rfl fun b2 hb2 => ?_
  refine wp_norm [_, _] rfl ?_
  refine op_pure (pv_assign (v := .slice _ _ _) rfl) ?_
  refine xp_seq ?_
  refine xp_dw [] rfl rfl rfl ?_
  refine dw_load (i := 0) rfl (by decide +kernel) ?_
  refine op_loadPA 1 (vs := [.slice _ _ _, .slice _ _ _, .slice _ _ _, .slice _ _ _]) rfl rfl rfl rfl rfl ?_
  refine dw_pure (i := 1) rfl (by decide +kernel) (pv_fieldAddr rfl rfl rfl rfl 2 rfl) ?_
  refine dw_load (i := 2) rfl (by decide +kernel) ?_
  refine op_loadP 1 (v := .slice _ _ _) rfl rfl rfl rfl ?_
  refine dw_pure (i := 3) rfl (by decide +kernel) (pv_move (v := .int .i64 _) rfl) ?_
  refine dw_pure (i := 4) rfl (by decide +kernel) (pv_indexE rfl hB rfl rfl rfl (by omega) (by omega)) ?_
  refine dw_pure (i := 5) rfl (by decide +kernel) (pv_fieldAddr rfl rfl rfl rfl _ rfl) ?_
  refine dw_load (i := 6) rfl (by decide +kernel) ?_
  refine op_load (v := .int .i64 n) rfl rfl (by rw [en]; exact (hc.ext (Ext.refl _)) 0 _ rfl) ?_
  refine dw_last (i := 7) rfl (by decide +kernel) (by decide +kernel) ?_
  refine op_fn (caps := []) (vs := [.agg #[.slice _ _ _, .slice _ _ _, .slice _ _ _, .slice _ _ _], .int .i64 _]) rfl rfl rfl (rSkies_ok s SV n hn A0 A1 A2 A3 c0 c1 c2 c3 h (R.ext (Ext.refl _))) ?_
  rintro _ h1 E1 ⟨B, d, ps, rfl, RA, RB⟩
  have hpl := RB.1
  refine dw_pure (i := 8) rfl (by decide +kernel) (pv_assign (v := .slice _ _ _) rfl) ?_
  refine dw_end rfl ?_
  refine xp_seq ?_
  refine xp_region rfl ?_
  refine op_pure (pv_assign (v := .slice _ _ _) rfl) ?_
  refine xp_seq ?_
  refine xp_seq ?_
  refine xp_region rfl ?_
  refine op_pure (pv_assign (v := .int .i64 _) rfl) ?_
  refine xp_block ?_
  refine xp_loopL [6, 7, 16, 17, 18, 19, 20, 21, 22, 23, 24, 25, 26, 27, 28, 29, 30, 31] 2 (α := Nat × Acc) (fun ⟨k, a⟩ => [(6, .slice a.A a.n a.c), (7, .int .i64 k)]) (fun ⟨k, a⟩ L => L.set 0 (a.p)) (fun ⟨k, a⟩ h_k => k ≤ (rSk s n).length ∧ AccR 121 4 ((allK s n i k).flatMap flR) a) (fun ⟨k, a⟩ => (rSk s n).length - k) ((0, acc0)) ⟨rfl, rfl, trivial⟩ (rfl) (⟨Nat.zero_le _, accR0⟩) ?_
  rintro ⟨k, a⟩ T1 h_k E_k J_k
  refine goes_norm [_, _] rfl ?_
  obtain ⟨K1, K2⟩ := J_k
  have hal := allK_len SV n i k
  refine xp_seq ?_
  refine xp_seq ?_
  refine xp_region rfl ?_
  refine op_pure (pv_move (v := .int .i64 _) rfl) ?_
  refine op_pure (pv_move (v := .slice _ _ _) rfl) ?_
  refine op_pure (pv_len rfl rfl) ?_
  refine op_pure (pv_of (v := .bool _) rfl) ?_
  refine xp_cond rfl (fun hk => ?_) (fun hk => ?_)
  · skip
    have hkl : k < (rSk s n).length := ltI hk
    have hkp : k < ps.length := by omega
    obtain ⟨gS, oS, hSA, hcS⟩ := (RA.ext E_k).at (by omega) hkp
    obtain ⟨_, AF, cF, vF, eF, RF, LF⟩ := RB.2 k _ _ (List.getElem?_eq_getElem hkl) (List.getElem?_eq_getElem hkp)
    have hvF : vF.length = s.joints.length := by rw [LF.1, recF_len]
    obtain ⟨gF, oF, hFA, hcF⟩ := (RF.ext E_k).at (by omega) (show i < vF.length by omega)
    obtain ⟨AG, cG, eG, RG⟩ := LF.2 i _ _ (recF_get hi) (List.getElem?_eq_getElem (show i < vF.length by omega))
    have hsl := surv_len (s := s) (n := n) (x := skyOf (rSk s n)[k]) (k := i) SV.b.jb
    refine xp_skip ?_
    refine xp_seq ?_
    refine xp_block ?_
    refine xp_region rfl ?_
    refine op_pure (pv_move (v := .slice _ _ _) rfl) ?_
    refine op_pure (pv_move (v := .slice _ _ _) rfl) ?_
    refine op_pure (pv_move (v := .int .i64 _) rfl) ?_
    refine op_pure (pv_indexE rfl hSA rfl rfl rfl (by omega) (by omega)) ?_
    refine op_pure (pv_fieldAddr rfl rfl rfl rfl _ rfl) ?_
    refine op_load (v := .slice AF (recF s n (rSk s n)[k]).length cF) rfl rfl (hcS 1 _ (by rw [← eF]; rfl)) ?_
    refine op_pure (pv_move (v := .int .i64 _) rfl) ?_
    refine op_pure (pv_indexE rfl hFA rfl rfl rfl (by omega) (by rw [recF_len]; omega)) ?_
    refine op_load (v := .slice AG (surv s n (skyOf (rSk s n)[k]) i).length cG) rfl rfl (hcF 0 _ (by rw [eG]; rfl)) ?_
    refine op_appendR 0 K2 rfl rfl rfl (fun V => RG.2.ext (Ext.trans E_k (ext_wl V))) (flat_len RG.1) (flat_plain (fun _ => rfl) _) rfl rfl rfl rfl rfl rfl rfl (by omega) rfl (by rw [flat_len (m := 4) (fun _ _ => rfl), flat_len (m := 4) (fun _ _ => rfl)]; omega) fun a2 h2a E2a ha2 => ?_
    refine wp_norm [_, _] rfl ?_
    refine op_pure (pv_assign (v := .slice _ _ _) rfl) ?_
    refine xp_region rfl ?_
    refine op_pure (pv_move (v := .int .i64 _) rfl) ?_
    refine op_pure (pv_arith rfl (by omega)) ?_
    refine op_pure (pv_assign (v := .int .i64 _) rfl) ?_
    refine ⟨(k + 1, a2), ⟨rfl, rfl, trivial⟩, rfl, rfl, (Ext.trans E_k E2a), fun h3 E3 => ⟨hkl, by rw [allK_succ hkl, List.flatMap_append]; exact ha2⟩, by first | omega | (dsimp only; omega), ?_⟩
    repeat (first | exact off_base _ _ _ | refine off_upd (by decide) ?_ | refine off_updL rfl ?_ | refine off_mix rfl ?_)
  · skip
    have hke : k = (rSk s n).length := by have := geI hk; omega
    subst hke
    have eA : allK s n i (rSk s n).length = (rSk s n).flatMap fun x => surv s n (skyOf x) i := by unfold allK; rw [List.take_length]
    rw [eA] at K2
    obtain ⟨pO, AO, nO, cO⟩ := a
    obtain rfl : nO = ((rSk s n).flatMap fun x => surv s n (skyOf x) i).length := by have := AccR.len K2; rw [flat_len (m := 4) (fun _ _ => rfl)] at this; dsimp only at *; omega
    dsimp only
    refine goes_pubO 0 rfl ?_
    intro gO GO PO
    refine goes_norm [_, _] rfl ?_
    refine xp_exit ?_
    refine xp_seq ?_
    refine xp_region rfl ?_
    refine op_pure (pv_move (v := .slice _ _ _) rfl) ?_
    refine op_pure (pv_assign (v := .slice _ _ _) rfl) ?_
    refine xp_ret ?_
    refine res_list (vs := [_]) Try.results84 ⟨resV_tmp rfl rfl, trivial⟩ fun V => ?_
    exact ⟨(Ext.trans (Ext.trans (Ext.trans E1 E_k) GO) (ext_wl V)), AO, cO, rfl, fun _ _ => rfl, (AccR.rd K2 PO).ext (ext_wl V)⟩
end Go.Proofs.Ytndfkbapoinmkaa
/- Plain: what the reference says of a season's failures, in the program's own terms. Conditions: as each theorem states. -/
namespace Go.Proofs.Ytndfkbapoinmkaa
open Go Go.HL Go.Proofs Go.Wx
theorem upto_any (l : List Fl) (w : Nat) : decide (uptoM (maskM l) w ≠ 0) = l.any fun y => decide ((y.week : Int) ≤ (w : Int)) := by
  rw [Bool.eq_iff_iff, decide_eq_true_eq, List.any_eq_true]
  constructor
  · intro h
    have : ∃ i, (uptoM (maskM l) w).testBit i = true := by
      refine Classical.byContradiction fun hn => h (Nat.eq_of_testBit_eq fun i => ?_)
      rw [Nat.zero_testBit, Bool.eq_false_iff]
      exact fun hb => hn ⟨i, hb⟩
    obtain ⟨i, hb⟩ := this
    rw [uptoM_bit, Bool.and_eq_true, maskM_bit, decide_eq_true_eq] at hb
    obtain ⟨⟨y, hy, e⟩, hi⟩ := hb
    exact ⟨y, hy, decide_eq_true (by omega)⟩
  · rintro ⟨y, hy, e⟩ h0
    have hle := of_decide_eq_true e
    have : (uptoM (maskM l) w).testBit y.week = true := by
      rw [uptoM_bit, (maskM_bit y.week l).2 ⟨y, hy, rfl⟩, Bool.true_and, decide_eq_true (by omega)]
    rw [h0, Nat.zero_testBit] at this
    cases this
theorem past_any (l : List Fl) (w : Nat) : decide (maskM l ≠ uptoM (maskM l) w) = l.any fun y => decide ((y.week : Int) > (w : Int)) := by
  rw [Bool.eq_iff_iff, decide_eq_true_eq, List.any_eq_true]
  constructor
  · intro h
    refine Classical.byContradiction fun hn => h (Nat.eq_of_testBit_eq fun i => ?_)
    rw [uptoM_bit]
    cases hb : (maskM l).testBit i with
    | false => rfl
    | true =>
      obtain ⟨y, hy, e⟩ := (maskM_bit i l).1 hb
      have : ¬ (y.week : Int) > (w : Int) := fun hg => hn ⟨y, hy, decide_eq_true hg⟩
      rw [decide_eq_true (by omega)]; rfl
  · rintro ⟨y, hy, e⟩ h0
    have hg := of_decide_eq_true e
    have h1 := (maskM_bit y.week l).2 ⟨y, hy, rfl⟩
    rw [h0, uptoM_bit, decide_eq_false (by omega), Bool.and_false] at h1
    cases h1
theorem failed_any (s : Season) (i w : Nat) : failedM s i w = verdictM ((flsM s (kindAt s i) i).any fun y => decide ((y.week : Int) ≤ (w : Int))) ((flsM s (kindAt s i) i).any fun y => decide ((y.week : Int) > (w : Int))) := by
  unfold failedM failsM
  rw [upto_any, past_any]
/-- The error of a season, or of a joint's number. -/
def jointOfE (s : Season) (j : Int) : Int := if checkM s ≠ 0 then checkM s else isJointM s j
theorem known2 (s : Season) (e f : Int) : knownM s [e, f] = if checkM s ≠ 0 then checkM s else if e ≠ 0 then e else if f ≠ 0 then f else if mayM s then 0 else 9 := by
  unfold knownM
  simp only [firstErr, id]
  split
  · rfl
  · by_cases h : e = 0
    · by_cases h2 : f = 0
      · simp [h, h2]
      · simp [h, h2]
    · simp [h]
theorem any_take {l : List Fl} {p : Fl → Bool} {k : Nat} (h : k < l.length) : (l.take (k + 1)).any p = ((l.take k).any p || p l[k]) := by
  rw [take_snoc h, List.any_append]; simp
/-- The error of a season, a joint and a week. -/
def failedOfE (s : Season) (j w : Int) : Int := if jointOfE s j ≠ 0 then jointOfE s j else if isWeekM s w ≠ 0 then isWeekM s w else if mayM s then 0 else 9
theorem failedOf_eq (s : Season) (j w : Int) : failedOfE s j w = failedE s j w := by
  unfold failedOfE jointOfE failedE
  rw [known2]
  by_cases h1 : checkM s = 0
  · simp [h1]
  · simp [h1]
end Go.Proofs.Ytndfkbapoinmkaa
/- Walks: what the reference says of failures. Conditions: as each theorem states. -/
namespace Go.Proofs.Ytndfkbapoinmkaa
open Go Go.HL Go.Proofs Go.Wx
set_option maxRecDepth 100000
theorem rJointOf_ok (s : Season) (Sm : Small s) (j : Int) (A0 A1 A2 A3 : Option Addr) (c0 c1 c2 c3 : Nat) (h : AH) (R : SeasonR h A0 A1 A2 A3 s) :
    FnT Try.prog 82 #[seasonV A0 A1 A2 A3 c0 c1 c2 c3 s, .int .i64 j] h (fun v _ => v = .int .i64 (jointOfE s j)) := by
  have Sm2 := Sm.h2
  refine call_body Try.func82 rfl Try.ntmps82 rfl ?_
  refine xp_seq ?_
  refine xp_region rfl ?_
  refine op_box (v := .agg #[.slice _ _ _, .slice _ _ _, .slice _ _ _, .slice _ _ _]) (cs := [_, _, _, _]) rfl rfl fun b2 hb2 => ?_
  refine wp_norm [_] rfl ?_
  refine op_pure (pv_assign (v := .int .i64 _) rfl) ?_
  refine xp_seq ?_
  refine xp_seq ?_
  refine xp_region rfl ?_
  refine op_loadPA 0 (vs := [.slice _ _ _, .slice _ _ _, .slice _ _ _, .slice _ _ _]) rfl rfl rfl rfl rfl ?_
  refine op_fn (caps := []) (vs := [.agg #[.slice _ _ _, .slice _ _ _, .slice _ _ _, .slice _ _ _]]) rfl rfl rfl (rCheck_ok s Sm A0 A1 A2 A3 c0 c1 c2 c3 h (R.ext (Ext.refl _))) ?_
  rintro _ h1 E1 rfl
  refine op_pure (pv_assign (v := .int .i64 _) rfl) ?_
  refine xp_seq ?_
  refine xp_region rfl ?_
  refine op_pure (pv_move (v := .int .i64 _) rfl) ?_
  refine op_pure (pv_of (v := .bool _) rfl) ?_
  refine xp_cond rfl (fun hc => ?_) (fun hc => ?_)
  · skip
    have hc' : checkM s ≠ 0 := by simpa using hc
    refine xp_seq ?_
    refine xp_region rfl ?_
    refine op_pure (pv_move (v := .int .i64 _) rfl) ?_
    refine op_pure (pv_assign (v := .int .i64 _) rfl) ?_
    refine xp_ret ?_
    refine res_list (vs := [_]) Try.results82 ⟨resV_tmp rfl rfl, trivial⟩ fun V => ?_
    exact ⟨(Ext.trans E1 (ext_wl V)), intE (by rw [jointOfE, if_pos hc'])⟩
  · skip
    have hc' : ¬ checkM s ≠ 0 := by simpa using hc
    refine xp_skip ?_
    refine xp_seq ?_
    refine xp_seq ?_
    refine xp_region rfl ?_
    refine op_pure (pv_move (v := .int .i64 _) rfl) ?_
    refine op_pure (pv_fieldAddr rfl rfl rfl rfl 2 rfl) ?_
    refine op_loadP 0 (v := .slice _ _ _) rfl rfl rfl rfl ?_
    refine op_pure (pv_len rfl rfl) ?_
    refine op_pure (pv_arith rfl (by omega)) ?_
    refine op_fn (caps := []) (vs := [.int .i64 _, .int .i64 _, .int .i64 _]) rfl rfl rfl (rWithin_ok _ _ _ h1) ?_
    rintro _ h2 E2 rfl
    refine op_pure (pv_of (v := .bool _) rfl) ?_
    refine xp_cond rfl (fun hk => ?_) (fun hk => ?_)
    · skip
      have hb : inM j 0 ((s.joints.length : Int) - 1) = false := by simpa using hk
      refine xp_seq ?_
      refine xp_region rfl ?_
      refine op_pure (pv_assign (v := .int .i64 _) rfl) ?_
      refine xp_ret ?_
      refine res_list (vs := [_]) Try.results82 ⟨resV_tmp rfl rfl, trivial⟩ fun V => ?_
      exact ⟨(Ext.trans (Ext.trans E1 E2) (ext_wl V)), intE (by rw [jointOfE, if_neg hc', isJointM, hb]; rfl)⟩
    · skip
      have hb : inM j 0 ((s.joints.length : Int) - 1) = true := by simpa using hk
      refine xp_skip ?_
      refine xp_seq ?_
      refine xp_region rfl ?_
      refine op_pure (pv_assign (v := .int .i64 _) rfl) ?_
      refine xp_ret ?_
      refine res_list (vs := [_]) Try.results82 ⟨resV_tmp rfl rfl, trivial⟩ fun V => ?_
      exact ⟨(Ext.trans (Ext.trans E1 E2) (ext_wl V)), intE (by rw [jointOfE, if_neg hc', isJointM, hb]; rfl)⟩
theorem rFailedOf_ok (s : Season) (Sm : Small s) (j w : Int) (A0 A1 A2 A3 : Option Addr) (c0 c1 c2 c3 : Nat) (h : AH) (R : SeasonR h A0 A1 A2 A3 s) :
    FnT Try.prog 87 #[seasonV A0 A1 A2 A3 c0 c1 c2 c3 s, .int .i64 j, .int .i64 w] h (fun v _ => v = .int .i64 (failedE s j w)) := by
  have Sm0 := Sm.h0
  rw [← failedOf_eq]
  refine call_body Try.func87 rfl Try.ntmps87 rfl ?_
  refine xp_seq ?_
  refine xp_region rfl ?_
  refine op_box (v := .agg #[.slice _ _ _, .slice _ _ _, .slice _ _ _, .slice _ _ _]) (cs := [_, _, _, _]) rfl rfl fun b3 hb3 => ?_
  refine wp_norm [_] rfl ?_
  refine op_pure (pv_assign (v := .int .i64 _) rfl) ?_
  refine xp_seq ?_
  refine xp_seq ?_
  refine xp_region rfl ?_
  refine op_loadPA 0 (vs := [.slice _ _ _, .slice _ _ _, .slice _ _ _, .slice _ _ _]) rfl rfl rfl rfl rfl ?_
  refine op_pure (pv_move (v := .int .i64 _) rfl) ?_
  refine op_fn (caps := []) (vs := [.agg #[.slice _ _ _, .slice _ _ _, .slice _ _ _, .slice _ _ _], .int .i64 _]) rfl rfl rfl (rJointOf_ok s Sm j A0 A1 A2 A3 c0 c1 c2 c3 h (R.ext (Ext.refl _))) ?_
  rintro _ h1 E1 rfl
  refine op_pure (pv_assign (v := .int .i64 _) rfl) ?_
  refine xp_seq ?_
  refine xp_region rfl ?_
  refine op_pure (pv_move (v := .int .i64 _) rfl) ?_
  refine op_pure (pv_of (v := .bool _) rfl) ?_
  refine xp_cond rfl (fun hc => ?_) (fun hc => ?_)
  · skip
    have hc' : jointOfE s j ≠ 0 := by simpa using hc
    refine xp_seq ?_
    refine xp_region rfl ?_
    refine op_pure (pv_move (v := .int .i64 _) rfl) ?_
    refine op_pure (pv_assign (v := .int .i64 _) rfl) ?_
    refine xp_ret ?_
    refine res_list (vs := [_]) Try.results87 ⟨resV_tmp rfl rfl, trivial⟩ fun V => ?_
    exact ⟨(Ext.trans E1 (ext_wl V)), intE (by rw [failedOfE, if_pos hc'])⟩
  · skip
    have hc' : ¬ jointOfE s j ≠ 0 := by simpa using hc
    have hck : checkM s = 0 := by
      unfold jointOfE at hc'
      split at hc'
      · rename_i h1; exact absurd h1 hc'
      · rename_i h1; simpa using h1
    have SV := checkM_zero hck
    refine xp_skip ?_
    refine xp_seq ?_
    refine xp_seq ?_
    refine xp_region rfl ?_
    refine op_pure (pv_move (v := .int .i64 _) rfl) ?_
    refine op_pure (pv_fieldAddr rfl rfl rfl rfl 0 rfl) ?_
    refine op_loadP 0 (v := .slice _ _ _) rfl rfl rfl rfl ?_
    refine op_pure (pv_len rfl rfl) ?_
    refine op_pure (pv_arith rfl (by omega)) ?_
    refine op_fn (caps := []) (vs := [.int .i64 _, .int .i64 _, .int .i64 _]) rfl rfl rfl (rWithin_ok _ _ _ h1) ?_
    rintro _ h2 E2 rfl
    refine op_pure (pv_of (v := .bool _) rfl) ?_
    refine xp_cond rfl (fun hk => ?_) (fun hk => ?_)
    · skip
      have hb : inM w 0 ((s.heats.length : Int) - 1) = false := by simpa using hk
      refine xp_seq ?_
      refine xp_region rfl ?_
      refine op_pure (pv_assign (v := .int .i64 _) rfl) ?_
      refine xp_ret ?_
      refine res_list (vs := [_]) Try.results87 ⟨resV_tmp rfl rfl, trivial⟩ fun V => ?_
      exact ⟨(Ext.trans (Ext.trans E1 E2) (ext_wl V)), intE (by rw [failedOfE, if_neg hc', isWeekM, hb]; rfl)⟩
    · skip
      have hb : inM w 0 ((s.heats.length : Int) - 1) = true := by simpa using hk
      refine xp_skip ?_
      refine xp_seq ?_
      refine xp_seq ?_
      refine xp_region rfl ?_
      refine op_loadPA 0 (vs := [.slice _ _ _, .slice _ _ _, .slice _ _ _, .slice _ _ _]) rfl rfl rfl rfl rfl ?_
      refine op_fn (caps := []) (vs := [.agg #[.slice _ _ _, .slice _ _ _, .slice _ _ _, .slice _ _ _]]) rfl rfl rfl (rMay_ok s SV A0 A1 A2 A3 c0 c1 c2 c3 h2 (R.ext (Ext.trans E1 E2))) ?_
      rintro _ h3 E3 rfl
      refine op_pure (pv_of (v := .bool _) rfl) ?_
      refine xp_cond rfl (fun hm => ?_) (fun hm => ?_)
      · skip
        have hm' : mayM s = false := by simpa using hm
        refine xp_seq ?_
        refine xp_region rfl ?_
        refine op_pure (pv_assign (v := .int .i64 _) rfl) ?_
        refine xp_ret ?_
        refine res_list (vs := [_]) Try.results87 ⟨resV_tmp rfl rfl, trivial⟩ fun V => ?_
        exact ⟨(Ext.trans (Ext.trans (Ext.trans E1 E2) E3) (ext_wl V)), intE (by rw [failedOfE, if_neg hc', isWeekM, hb, hm']; rfl)⟩
      · skip
        have hm' : mayM s = true := by simpa using hm
        refine xp_skip ?_
        refine xp_seq ?_
        refine xp_region rfl ?_
        refine op_pure (pv_assign (v := .int .i64 _) rfl) ?_
        refine xp_ret ?_
        refine res_list (vs := [_]) Try.results87 ⟨resV_tmp rfl rfl, trivial⟩ fun V => ?_
        exact ⟨(Ext.trans (Ext.trans (Ext.trans E1 E2) E3) (ext_wl V)), intE (by rw [failedOfE, if_neg hc', isWeekM, hb, hm']; rfl)⟩
end Go.Proofs.Ytndfkbapoinmkaa
/- Walks: what the reference says of a failure by a week, and of causes; all lists. Conditions: as each theorem states. -/
namespace Go.Proofs.Ytndfkbapoinmkaa
open Go Go.HL Go.Proofs Go.Wx
set_option maxRecDepth 100000
theorem fls_len {s : Season} (SV : SeasonV s) (i : Nat) : (flsM s (kindAt s i) i).length ≤ 393660 := by
  rw [rSk_fls (by rw [(SV.b.wb _).1]; exact SV.b.w6)]
  have := allK_len SV (kindAt s i) i (rSk s (kindAt s i)).length
  unfold allK at this
  rwa [List.take_length] at this
set_option maxHeartbeats 2000000 in
theorem rFailed0_ok (s : Season) (SV : SeasonV s) (i w : Nat) (hi : i < s.joints.length) (A0 A1 A2 A3 : Option Addr) (c0 c1 c2 c3 : Nat) (h : AH) (R : SeasonR h A0 A1 A2 A3 s) :
    FnT Try.prog 88 #[seasonV A0 A1 A2 A3 c0 c1 c2 c3 s, .int .i64 i, .int .i64 w] h (fun v _ => v = .int .i64 (failedM s i w)) := by
  have hlen := fls_len SV i
  refine call_body Try.func88 rfl Try.ntmps88 rfl ?_
  refine xp_seq ?_
  refine xp_region rfl ?_
  refine op_box (v := .agg #[.slice _ _ _, .slice _ _ _, .slice _ _ _, .slice _ _ _]) (cs := [_, _, _, _]) rfl rfl fun b3 hb3 => ?_
  refine wp_norm [_] rfl ?_
  refine op_pure (pv_assign (v := .int .i64 _) rfl) ?_
  refine xp_seq ?_
  refine xp_region rfl ?_
  refine op_loadPA 0 (vs := [.slice _ _ _, .slice _ _ _, .slice _ _ _, .slice _ _ _]) rfl rfl rfl rfl rfl ?_
  refine op_pure (pv_move (v := .int .i64 _) rfl) ?_
  refine op_fn (caps := []) (vs := [.agg #[.slice _ _ _, .slice _ _ _, .slice _ _ _, .slice _ _ _], .int .i64 _]) rfl rfl rfl (rAll_ok s SV i hi A0 A1 A2 A3 c0 c1 c2 c3 h (R.ext (Ext.refl _))) ?_
  rintro _ h3 E3 ⟨B, d, rfl, RB⟩
  rw [failed_any]
  generalize flsM s (kindAt s i) i = l at *
  refine op_pure (pv_assign (v := .slice _ _ _) rfl) ?_
  refine xp_seq ?_
  refine xp_region rfl ?_
  refine op_pure (pv_assign (v := .bool _) rfl) ?_
  refine op_pure (pv_assign (v := .bool _) rfl) ?_
  refine xp_seq ?_
  refine xp_seq ?_
  refine xp_region rfl ?_
  refine op_pure (pv_assign (v := .int .i64 _) rfl) ?_
  refine xp_block ?_
  refine xp_loopB [8, 9, 10, 14, 15, 16, 17, 18, 19, 20, 21, 22, 23, 24, 25, 26, 27, 28, 29, 30, 31, 32, 33, 34, 35, 36, 37, 38, 39] 1 (α := Nat) (fun k => [(8, .bool ((l.take k).any fun y => decide ((y.week : Int) ≤ (w : Int)))), (9, .bool ((l.take k).any fun y => decide ((y.week : Int) > (w : Int)))), (10, .int .i64 k)]) (fun k => _) (fun k h_k => k ≤ l.length) (fun k => l.length - k) (0) ⟨rfl, rfl, rfl, trivial⟩ (rfl) (Nat.zero_le _) ?_
  rintro k T1 h_k E_k J_k
  refine goes_norm [_] rfl ?_
  refine xp_seq ?_
  refine xp_seq ?_
  refine xp_region rfl ?_
  refine op_pure (pv_move (v := .int .i64 _) rfl) ?_
  refine op_pure (pv_move (v := .slice _ _ _) rfl) ?_
  refine op_pure (pv_len rfl rfl) ?_
  refine op_pure (pv_of (v := .bool _) rfl) ?_
  refine xp_cond rfl (fun hk => ?_) (fun hk => ?_)
  · skip
    have hkl : k < l.length := ltI hk
    obtain ⟨g, off, hB, hcl⟩ := (RB.ext E_k).at (by omega) hkl
    rcases Bool.eq_false_or_eq_true ((l.take k).any fun y => decide ((y.week : Int) ≤ (w : Int))) with e1 | e1
    · skip
      rcases Bool.eq_false_or_eq_true ((l.take k).any fun y => decide ((y.week : Int) > (w : Int))) with e2 | e2
      · skip
        refine xp_skip ?_
        refine xp_seq ?_
        refine xp_block ?_
        refine xp_dw [] rfl rfl rfl ?_
        refine dw_pure (i := 0) rfl (by decide +kernel) (pv_move (v := .bool _) rfl) ?_
        refine dw_pure (i := 1) rfl (by decide +kernel) (pv_move (v := .bool _) rfl) ?_
        refine dw_skip (i := 2) rfl (by decide +kernel) rfl e1 ?_
        refine dw_skip (i := 3) rfl (by decide +kernel) rfl e1 ?_
        refine dw_skip (i := 4) rfl (by decide +kernel) rfl e1 ?_
        refine dw_skip (i := 5) rfl (by decide +kernel) rfl e1 ?_
        refine dw_skip (i := 6) rfl (by decide +kernel) rfl e1 ?_
        refine dw_skip (i := 7) rfl (by decide +kernel) rfl e1 ?_
        refine dw_skip (i := 8) rfl (by decide +kernel) rfl e1 ?_
        refine dw_pure (i := 9) rfl (by decide +kernel) (pv_pickT rfl e1 (v := .bool _) rfl) ?_
        refine dw_pure (i := 10) rfl (by decide +kernel) (pv_move (v := .bool _) rfl) ?_
        refine dw_pure (i := 11) rfl (by decide +kernel) (pv_move (v := .bool _) rfl) ?_
        refine dw_skip (i := 12) rfl (by decide +kernel) rfl e2 ?_
        refine dw_skip (i := 13) rfl (by decide +kernel) rfl e2 ?_
        refine dw_skip (i := 14) rfl (by decide +kernel) rfl e2 ?_
        refine dw_skip (i := 15) rfl (by decide +kernel) rfl e2 ?_
        refine dw_skip (i := 16) rfl (by decide +kernel) rfl e2 ?_
        refine dw_skip (i := 17) rfl (by decide +kernel) rfl e2 ?_
        refine dw_skip (i := 18) rfl (by decide +kernel) rfl e2 ?_
        refine dw_pure (i := 19) rfl (by decide +kernel) (pv_pickT rfl e2 (v := .bool _) rfl) ?_
        refine dw_pure (i := 20) rfl (by decide +kernel) (pv_assign (v := .bool _) rfl) ?_
        refine dw_pure (i := 21) rfl (by decide +kernel) (pv_assign (v := .bool _) rfl) ?_
        refine dw_end rfl ?_
        refine xp_region rfl ?_
        refine op_pure (pv_move (v := .int .i64 _) rfl) ?_
        refine op_pure (pv_arith rfl (by omega)) ?_
        refine op_pure (pv_assign (v := .int .i64 _) rfl) ?_
        refine ⟨k + 1, ⟨(by rw [any_take hkl, e1]; rfl), (by rw [any_take hkl, e2]; rfl), rfl, trivial⟩, rfl, rfl, E_k, fun h3 E3 => hkl, by first | omega | (dsimp only; omega), ?_⟩
        repeat (first | exact off_base _ _ _ | refine off_upd (by decide) ?_ | refine off_updL rfl ?_ | refine off_mix rfl ?_)
      · skip
        refine xp_skip ?_
        refine xp_seq ?_
        refine xp_block ?_
        refine xp_dw [] rfl rfl rfl ?_
        refine dw_pure (i := 0) rfl (by decide +kernel) (pv_move (v := .bool _) rfl) ?_
        refine dw_pure (i := 1) rfl (by decide +kernel) (pv_move (v := .bool _) rfl) ?_
        refine dw_skip (i := 2) rfl (by decide +kernel) rfl e1 ?_
        refine dw_skip (i := 3) rfl (by decide +kernel) rfl e1 ?_
        refine dw_skip (i := 4) rfl (by decide +kernel) rfl e1 ?_
        refine dw_skip (i := 5) rfl (by decide +kernel) rfl e1 ?_
        refine dw_skip (i := 6) rfl (by decide +kernel) rfl e1 ?_
        refine dw_skip (i := 7) rfl (by decide +kernel) rfl e1 ?_
        refine dw_skip (i := 8) rfl (by decide +kernel) rfl e1 ?_
        refine dw_pure (i := 9) rfl (by decide +kernel) (pv_pickT rfl e1 (v := .bool _) rfl) ?_
        refine dw_pure (i := 10) rfl (by decide +kernel) (pv_move (v := .bool _) rfl) ?_
        refine dw_pure (i := 11) rfl (by decide +kernel) (pv_move (v := .bool _) rfl) ?_
        refine dw_pureG (i := 12) rfl (by decide +kernel) rfl e2 (pv_move (v := .slice _ _ _) rfl) ?_
        refine dw_pureG (i := 13) rfl (by decide +kernel) rfl e2 (pv_move (v := .int .i64 _) rfl) ?_
        refine dw_pureG (i := 14) rfl (by decide +kernel) rfl e2 (pv_indexE rfl hB rfl rfl rfl (by omega) (by omega)) ?_
        refine dw_pureG (i := 15) rfl (by decide +kernel) rfl e2 (pv_fieldAddr rfl rfl rfl rfl _ rfl) ?_
        refine dw_loadG (i := 16) rfl (by decide +kernel) rfl e2 ?_
        refine op_load (v := .int .i64 l[k].week) rfl rfl (hcl 0 _ rfl) ?_
        refine dw_pureG (i := 17) rfl (by decide +kernel) rfl e2 (pv_move (v := .int .i64 _) rfl) ?_
        refine dw_pureG (i := 18) rfl (by decide +kernel) rfl e2 (pv_of (v := .bool _) rfl) ?_
        refine dw_pure (i := 19) rfl (by decide +kernel) (pv_pickF rfl e2 (v := .bool _) rfl) ?_
        refine dw_pure (i := 20) rfl (by decide +kernel) (pv_assign (v := .bool _) rfl) ?_
        refine dw_pure (i := 21) rfl (by decide +kernel) (pv_assign (v := .bool _) rfl) ?_
        refine dw_end rfl ?_
        refine xp_region rfl ?_
        refine op_pure (pv_move (v := .int .i64 _) rfl) ?_
        refine op_pure (pv_arith rfl (by omega)) ?_
        refine op_pure (pv_assign (v := .int .i64 _) rfl) ?_
        refine ⟨k + 1, ⟨(by rw [any_take hkl, e1]; rfl), (by rw [any_take hkl, e2]; rfl), rfl, trivial⟩, rfl, rfl, E_k, fun h3 E3 => hkl, by first | omega | (dsimp only; omega), ?_⟩
        repeat (first | exact off_base _ _ _ | refine off_upd (by decide) ?_ | refine off_updL rfl ?_ | refine off_mix rfl ?_)
    · skip
      rcases Bool.eq_false_or_eq_true ((l.take k).any fun y => decide ((y.week : Int) > (w : Int))) with e2 | e2
      · skip
        refine xp_skip ?_
        refine xp_seq ?_
        refine xp_block ?_
        refine xp_dw [] rfl rfl rfl ?_
        refine dw_pure (i := 0) rfl (by decide +kernel) (pv_move (v := .bool _) rfl) ?_
        refine dw_pure (i := 1) rfl (by decide +kernel) (pv_move (v := .bool _) rfl) ?_
        refine dw_pureG (i := 2) rfl (by decide +kernel) rfl e1 (pv_move (v := .slice _ _ _) rfl) ?_
        refine dw_pureG (i := 3) rfl (by decide +kernel) rfl e1 (pv_move (v := .int .i64 _) rfl) ?_
        refine dw_pureG (i := 4) rfl (by decide +kernel) rfl e1 (pv_indexE rfl hB rfl rfl rfl (by omega) (by omega)) ?_
        refine dw_pureG (i := 5) rfl (by decide +kernel) rfl e1 (pv_fieldAddr rfl rfl rfl rfl _ rfl) ?_
        refine dw_loadG (i := 6) rfl (by decide +kernel) rfl e1 ?_
        refine op_load (v := .int .i64 l[k].week) rfl rfl (hcl 0 _ rfl) ?_
        refine dw_pureG (i := 7) rfl (by decide +kernel) rfl e1 (pv_move (v := .int .i64 _) rfl) ?_
        refine dw_pureG (i := 8) rfl (by decide +kernel) rfl e1 (pv_of (v := .bool _) rfl) ?_
        refine dw_pure (i := 9) rfl (by decide +kernel) (pv_pickF rfl e1 (v := .bool _) rfl) ?_
        refine dw_pure (i := 10) rfl (by decide +kernel) (pv_move (v := .bool _) rfl) ?_
        refine dw_pure (i := 11) rfl (by decide +kernel) (pv_move (v := .bool _) rfl) ?_
        refine dw_skip (i := 12) rfl (by decide +kernel) rfl e2 ?_
        refine dw_skip (i := 13) rfl (by decide +kernel) rfl e2 ?_
        refine dw_skip (i := 14) rfl (by decide +kernel) rfl e2 ?_
        refine dw_skip (i := 15) rfl (by decide +kernel) rfl e2 ?_
        refine dw_skip (i := 16) rfl (by decide +kernel) rfl e2 ?_
        refine dw_skip (i := 17) rfl (by decide +kernel) rfl e2 ?_
        refine dw_skip (i := 18) rfl (by decide +kernel) rfl e2 ?_
        refine dw_pure (i := 19) rfl (by decide +kernel) (pv_pickT rfl e2 (v := .bool _) rfl) ?_
        refine dw_pure (i := 20) rfl (by decide +kernel) (pv_assign (v := .bool _) rfl) ?_
        refine dw_pure (i := 21) rfl (by decide +kernel) (pv_assign (v := .bool _) rfl) ?_
        refine dw_end rfl ?_
        refine xp_region rfl ?_
        refine op_pure (pv_move (v := .int .i64 _) rfl) ?_
        refine op_pure (pv_arith rfl (by omega)) ?_
        refine op_pure (pv_assign (v := .int .i64 _) rfl) ?_
        refine ⟨k + 1, ⟨(by rw [any_take hkl, e1]; rfl), (by rw [any_take hkl, e2]; rfl), rfl, trivial⟩, rfl, rfl, E_k, fun h3 E3 => hkl, by first | omega | (dsimp only; omega), ?_⟩
        repeat (first | exact off_base _ _ _ | refine off_upd (by decide) ?_ | refine off_updL rfl ?_ | refine off_mix rfl ?_)
      · skip
        refine xp_skip ?_
        refine xp_seq ?_
        refine xp_block ?_
        refine xp_dw [] rfl rfl rfl ?_
        refine dw_pure (i := 0) rfl (by decide +kernel) (pv_move (v := .bool _) rfl) ?_
        refine dw_pure (i := 1) rfl (by decide +kernel) (pv_move (v := .bool _) rfl) ?_
        refine dw_pureG (i := 2) rfl (by decide +kernel) rfl e1 (pv_move (v := .slice _ _ _) rfl) ?_
        refine dw_pureG (i := 3) rfl (by decide +kernel) rfl e1 (pv_move (v := .int .i64 _) rfl) ?_
        refine dw_pureG (i := 4) rfl (by decide +kernel) rfl e1 (pv_indexE rfl hB rfl rfl rfl (by omega) (by omega)) ?_
        refine dw_pureG (i := 5) rfl (by decide +kernel) rfl e1 (pv_fieldAddr rfl rfl rfl rfl _ rfl) ?_
        refine dw_loadG (i := 6) rfl (by decide +kernel) rfl e1 ?_
        refine op_load (v := .int .i64 l[k].week) rfl rfl (hcl 0 _ rfl) ?_
        refine dw_pureG (i := 7) rfl (by decide +kernel) rfl e1 (pv_move (v := .int .i64 _) rfl) ?_
        refine dw_pureG (i := 8) rfl (by decide +kernel) rfl e1 (pv_of (v := .bool _) rfl) ?_
        refine dw_pure (i := 9) rfl (by decide +kernel) (pv_pickF rfl e1 (v := .bool _) rfl) ?_
        refine dw_pure (i := 10) rfl (by decide +kernel) (pv_move (v := .bool _) rfl) ?_
        refine dw_pure (i := 11) rfl (by decide +kernel) (pv_move (v := .bool _) rfl) ?_
        refine dw_pureG (i := 12) rfl (by decide +kernel) rfl e2 (pv_move (v := .slice _ _ _) rfl) ?_
        refine dw_pureG (i := 13) rfl (by decide +kernel) rfl e2 (pv_move (v := .int .i64 _) rfl) ?_
        refine dw_pureG (i := 14) rfl (by decide +kernel) rfl e2 (pv_indexE rfl hB rfl rfl rfl (by omega) (by omega)) ?_
        refine dw_pureG (i := 15) rfl (by decide +kernel) rfl e2 (pv_fieldAddr rfl rfl rfl rfl _ rfl) ?_
        refine dw_loadG (i := 16) rfl (by decide +kernel) rfl e2 ?_
        refine op_load (v := .int .i64 l[k].week) rfl rfl (hcl 0 _ rfl) ?_
        refine dw_pureG (i := 17) rfl (by decide +kernel) rfl e2 (pv_move (v := .int .i64 _) rfl) ?_
        refine dw_pureG (i := 18) rfl (by decide +kernel) rfl e2 (pv_of (v := .bool _) rfl) ?_
        refine dw_pure (i := 19) rfl (by decide +kernel) (pv_pickF rfl e2 (v := .bool _) rfl) ?_
        refine dw_pure (i := 20) rfl (by decide +kernel) (pv_assign (v := .bool _) rfl) ?_
        refine dw_pure (i := 21) rfl (by decide +kernel) (pv_assign (v := .bool _) rfl) ?_
        refine dw_end rfl ?_
        refine xp_region rfl ?_
        refine op_pure (pv_move (v := .int .i64 _) rfl) ?_
        refine op_pure (pv_arith rfl (by omega)) ?_
        refine op_pure (pv_assign (v := .int .i64 _) rfl) ?_
        refine ⟨k + 1, ⟨(by rw [any_take hkl, e1]; rfl), (by rw [any_take hkl, e2]; rfl), rfl, trivial⟩, rfl, rfl, E_k, fun h3 E3 => hkl, by first | omega | (dsimp only; omega), ?_⟩
        repeat (first | exact off_base _ _ _ | refine off_upd (by decide) ?_ | refine off_updL rfl ?_ | refine off_mix rfl ?_)
  · skip
    have hke : k = l.length := by have := geI hk; omega
    subst hke
    rw [List.take_length]
    refine xp_exit ?_
    refine xp_seq ?_
    refine xp_region rfl ?_
    refine op_pure (pv_move (v := .bool _) rfl) ?_
    refine op_pure (pv_move (v := .bool _) rfl) ?_
    refine op_fn (caps := []) (vs := [.bool _, .bool _]) rfl rfl rfl (rVerdict_ok _ _ h_k) ?_
    rintro _ h4 E4 rfl
    refine op_pure (pv_assign (v := .int .i64 _) rfl) ?_
    refine xp_ret ?_
    refine res_list (vs := [_]) Try.results88 ⟨resV_tmp rfl rfl, trivial⟩ fun V => ?_
    exact ⟨(Ext.trans (Ext.trans (Ext.trans E3 E_k) E4) (ext_wl V)), rfl⟩
end Go.Proofs.Ytndfkbapoinmkaa
/- Walks: the reference's weeks of danger, and looks. Conditions: as each theorem states. -/
namespace Go.Proofs.Ytndfkbapoinmkaa
open Go Go.HL Go.Proofs Go.Wx
set_option maxRecDepth 100000
end Go.Proofs.Ytndfkbapoinmkaa
/- Walks: a season without some reports (the reference). Conditions: as each theorem states. -/
namespace Go.Proofs.Ytndfkbapoinmkaa
open Go Go.HL Go.Proofs Go.Wx
set_option maxRecDepth 100000
end Go.Proofs.Ytndfkbapoinmkaa
/- Walks: the law on the fewest wrong reports. Conditions: as each theorem states. -/
namespace Go.Proofs.Ytndfkbapoinmkaa
open Go Go.HL Go.Proofs Go.Wx Go.RowKit
set_option maxRecDepth 100000
end Go.Proofs.Ytndfkbapoinmkaa
/- Walks: when somebody has to look, and which reports must be wrong (the reference). Conditions: as each theorem states. -/
namespace Go.Proofs.Ytndfkbapoinmkaa
open Go Go.HL Go.Proofs Go.Wx
set_option maxRecDepth 100000
end Go.Proofs.Ytndfkbapoinmkaa
/- Walks: a report more, and how much warmer it may be (the reference). Conditions: as each theorem states. -/
namespace Go.Proofs.Ytndfkbapoinmkaa
open Go Go.HL Go.Proofs Go.Wx
set_option maxRecDepth 100000
set_option maxHeartbeats 4000000 in
theorem rMargin_ok (s : Season) (Sm : Small s) (joint week : Int) (A0 A1 A2 A3 : Option Addr) (c0 c1 c2 c3 : Nat) (h : AH) (R : SeasonR h A0 A1 A2 A3 s) :
    FnT Try.prog 55 #[seasonV A0 A1 A2 A3 c0 c1 c2 c3 s, .int .i64 joint, .int .i64 week] h (fun v _ => v = .tuple #[.int .i64 (marginV s joint week), .int .i64 (marginE s joint week)]) := by
  refine call_body Try.func55 rfl Try.ntmps55 rfl ?_
  refine xp_seq ?_
  refine xp_region rfl ?_
  refine op_box (v := .agg #[.slice _ _ _, .slice _ _ _, .slice _ _ _, .slice _ _ _]) (cs := [_, _, _, _]) rfl rfl fun b3 hb3 => ?_
  refine wp_norm [_] rfl ?_
  refine op_pure (pv_assign (v := .int .i64 _) rfl) ?_
  refine op_pure (pv_assign (v := .int .i64 _) rfl) ?_
  refine xp_seq ?_
  refine xp_seq ?_
  refine xp_region rfl ?_
  refine op_loadPA 0 (vs := [.slice _ _ _, .slice _ _ _, .slice _ _ _, .slice _ _ _]) rfl rfl rfl rfl rfl ?_
  refine op_pure (pv_move (v := .int .i64 _) rfl) ?_
  refine op_pure (pv_move (v := .int .i64 _) rfl) ?_
  refine op_fn (caps := []) (vs := [.agg #[.slice _ _ _, .slice _ _ _, .slice _ _ _, .slice _ _ _], .int .i64 _, .int .i64 _]) rfl rfl rfl (rFailedOf_ok s Sm joint week A0 A1 A2 A3 c0 c1 c2 c3 h (R.ext (Ext.refl _))) ?_
  rintro _ h1 E1 rfl
  refine op_pure (pv_assign (v := .int .i64 _) rfl) ?_
  refine xp_seq ?_
  refine xp_region rfl ?_
  refine op_pure (pv_move (v := .int .i64 _) rfl) ?_
  refine op_pure (pv_of (v := .bool _) rfl) ?_
  refine xp_cond rfl (fun hc => ?_) (fun hc => ?_)
  · skip
    have hc' : failedE s joint week ≠ 0 := by simpa using hc
    have hE : marginE s joint week = failedE s joint week := by rw [marginE, if_neg hc']
    refine xp_seq ?_
    refine xp_region rfl ?_
    refine op_pure (pv_move (v := .int .i64 _) rfl) ?_
    refine op_pure (pv_assign (v := .int .i64 _) rfl) ?_
    refine op_pure (pv_assign (v := .int .i64 _) rfl) ?_
    refine xp_ret ?_
    refine res_list (vs := [_, _]) Try.results55 ⟨resV_tmp rfl rfl, resV_tmp rfl rfl, trivial⟩ fun V => ?_
    exact ⟨(Ext.trans E1 (ext_wl V)), by rw [marginV, if_neg (by rw [hE]; exact hc'), hE]; rfl⟩
  · skip
    have hc' : failedE s joint week = 0 := by simpa using hc
    have hk := knownM_zero hc'
    have C := CheckS.of hk.1
    have SV := checkM_zero hk.1
    have h6 := C.w6
    have hw1 := C.w1
    have hdl := C.dl
    have j3 := C.j3
    obtain ⟨hj0, hw0⟩ := firstErr2 hk.2.1
    obtain ⟨j, rfl, hj⟩ := isJointM_zero hj0
    obtain ⟨w, rfl, hw⟩ := isWeekM_zero hw0
    have hkn := SV.kinds _ (List.getElem_mem hj)
    have hka : kindAt s j = s.joints[j].kind := by rw [kindAt_some (List.getElem?_eq_getElem hj)]
    obtain ⟨g, off, hB, hcJ⟩ := R.joints.at (by omega) hj
    refine xp_skip ?_
    refine xp_seq ?_
    refine xp_seq ?_
    refine xp_region rfl ?_
    refine op_loadPA 0 (vs := [.slice _ _ _, .slice _ _ _, .slice _ _ _, .slice _ _ _]) rfl rfl rfl rfl rfl ?_
    refine op_pure (pv_move (v := .int .i64 _) rfl) ?_
    refine op_pure (pv_move (v := .int .i64 _) rfl) ?_
    refine op_fn (caps := []) (vs := [.agg #[.slice _ _ _, .slice _ _ _, .slice _ _ _, .slice _ _ _], .int .i64 _, .int .i64 _]) rfl rfl rfl (rFailed0_ok s SV j w hj A0 A1 A2 A3 c0 c1 c2 c3 h1 (R.ext E1)) ?_
    rintro _ h2 E2 rfl
    have hV : failedV s j w = failedM s j w := by rw [failedV, if_pos hc']; rfl
    refine op_pure (pv_of (v := .bool _) rfl) ?_
    refine xp_cond rfl (fun hn => ?_) (fun hn => ?_)
    · skip
      have hn' : failedM s j w ≠ 2 := by simpa using hn
      have hE : marginE s j w = 11 := by rw [marginE, if_pos hc', hV, if_neg hn']
      refine xp_seq ?_
      refine xp_region rfl ?_
      refine op_pure (pv_assign (v := .int .i64 _) rfl) ?_
      refine op_pure (pv_assign (v := .int .i64 _) rfl) ?_
      refine xp_ret ?_
      refine res_list (vs := [_, _]) Try.results55 ⟨resV_tmp rfl rfl, resV_tmp rfl rfl, trivial⟩ fun V => ?_
      exact ⟨(Ext.trans (Ext.trans E1 E2) (ext_wl V)), by rw [marginV, if_neg (by rw [hE]; decide), hE]; rfl⟩
    · skip
      have hn' : failedM s j w = 2 := by simpa using hn
      have hE : marginE s j w = 0 := by rw [marginE, if_pos hc', hV, if_pos hn']
      have hV2 : marginV s j w = marginM s j w := by rw [marginV, if_pos hE]; rfl
      refine xp_skip ?_
      refine xp_seq ?_
      refine xp_region rfl ?_
      refine op_pure (pv_assign (v := .int .i64 _) rfl) ?_
      refine xp_seq ?_
      refine xp_block ?_
      refine xp_loopB [9, 22, 23, 24, 25, 26, 27, 28, 29, 30, 31, 32, 33, 34, 35, 36, 37, 38, 39, 40, 41] 1 (α := Nat) (fun n => [(9, .int .i64 n)]) (fun n => _) (fun n h_n => n ≤ 30 ∧ ∀ i, i < n → tooWarm s j w i = false) (fun n => 30 - n) (0) ⟨rfl, trivial⟩ (rfl) (⟨Nat.zero_le _, fun i h => absurd h (Nat.not_lt_zero i)⟩) ?_
      rintro n T1 h_n E_n J_n
      refine goes_norm [_] rfl ?_
      obtain ⟨K1, K2⟩ := J_n
      rcases Nat.lt_or_ge n 30 with hlt | hge
      · skip
        have hpos : decide ((n : Int) < 30) = true := decide_eq_true (by omega)
        have CW := C.warm (n := s.joints[j].kind) (d := (n : Int) + 1) (by omega)
        refine xp_seq ?_
        refine xp_seq ?_
        refine xp_dw [] rfl rfl rfl ?_
        refine dw_pure (i := 0) rfl (by decide +kernel) (pv_move (v := .int .i64 _) rfl) ?_
        refine dw_pure (i := 1) rfl (by decide +kernel) (pv_of (v := .bool _) rfl) ?_
        refine dw_pure (i := 2) rfl (by decide +kernel) (pv_move (v := .bool _) rfl) ?_
        refine dw_loadG (i := 3) rfl (by decide +kernel) rfl hpos ?_
        refine op_loadPA 0 (vs := [.slice _ _ _, .slice _ _ _, .slice _ _ _, .slice _ _ _]) rfl rfl rfl rfl rfl ?_
        refine dw_pureG (i := 4) rfl (by decide +kernel) rfl hpos (pv_fieldAddr rfl rfl rfl rfl 2 rfl) ?_
        refine dw_loadG (i := 5) rfl (by decide +kernel) rfl hpos ?_
        refine op_loadP 0 (v := .slice _ _ _) rfl rfl rfl rfl ?_
        refine dw_pureG (i := 6) rfl (by decide +kernel) rfl hpos (pv_move (v := .int .i64 _) rfl) ?_
        refine dw_pureG (i := 7) rfl (by decide +kernel) rfl hpos (pv_indexE rfl hB rfl rfl rfl (by omega) (by omega)) ?_
        refine dw_pureG (i := 8) rfl (by decide +kernel) rfl hpos (pv_fieldAddr rfl rfl rfl rfl _ rfl) ?_
        refine dw_loadG (i := 9) rfl (by decide +kernel) rfl hpos ?_
        refine op_load (v := .int .i64 s.joints[j].kind) rfl rfl ((hcJ.ext (Ext.trans (Ext.trans E1 E2) E_n)) 0 _ rfl) ?_
        refine dw_pureG (i := 10) rfl (by decide +kernel) rfl hpos (pv_move (v := .int .i64 _) rfl) ?_
        refine dw_pureG (i := 11) rfl (by decide +kernel) rfl hpos (pv_arith rfl (by omega)) ?_
        refine dw_pureG (i := 13) rfl (by decide +kernel) rfl hpos (pv_move (v := .int .i64 _) rfl) ?_
        refine dw_pureG (i := 14) rfl (by decide +kernel) rfl hpos (pv_move (v := .int .i64 _) rfl) ?_
        refine dw_lastG (i := 12) rfl (by decide +kernel) (by decide +kernel) rfl hpos ?_
        refine op_fn (caps := []) (vs := [.agg #[.slice _ _ _, .slice _ _ _, .slice _ _ _, .slice _ _ _], .int .i64 _, .int .i64 _]) rfl rfl rfl (Warmer_ok s A0 A1 A2 A3 c0 c1 c2 c3 h_n (R.ext (Ext.trans (Ext.trans E1 E2) E_n)) (by omega) hdl (by omega) (by omega) (fun r hr => by have := checkWeather_iff.1 (C.h r hr); omega) (fun r hr => by have := checkWeather_iff.1 (C.d r hr); omega) s.joints[j].kind ((n : Int) + 1) hkn (by omega)) ?_
        rintro _ h3 E3 ⟨B0, B1, B2, B3, d0, d1, d2, d3, rfl, RW⟩
        refine dw_lastG (i := 15) rfl (by decide +kernel) (by decide +kernel) rfl hpos ?_
        refine op_fn (caps := []) (vs := [.agg #[.slice _ _ _, .slice _ _ _, .slice _ _ _, .slice _ _ _], .int .i64 _, .int .i64 _]) rfl rfl rfl (rFailed0_ok (warmS s s.joints[j].kind ((n : Int) + 1)) (checkM_zero CW.ok) j w (by rw [warmS_joints]; exact hj) B0 B1 B2 B3 d0 d1 d2 d3 h3 RW) ?_
        rintro _ h4 E4 rfl
        have ht : tooWarm s j w n = !decide (failedM (warmS s s.joints[j].kind ((n : Int) + 1)) j w = 2) := by
          unfold tooWarm
          rw [hka]
          simp
        refine dw_pureG (i := 16) rfl (by decide +kernel) rfl hpos (pv_of (v := .bool _) rfl) ?_
        refine dw_pure (i := 17) rfl (by decide +kernel) (pv_pickT rfl hpos (v := .bool _) rfl) ?_
        refine dw_end rfl ?_
        refine xp_cond rfl (fun hq => ?_) (fun hq => ?_)
        · skip
          have hq' : decide (failedM (warmS s s.joints[j].kind ((n : Int) + 1)) j w = 2) = true := hq
          refine xp_skip ?_
          refine xp_block ?_
          refine xp_region rfl ?_
          refine op_pure (pv_move (v := .int .i64 _) rfl) ?_
          refine op_pure (pv_arith rfl (by omega)) ?_
          refine op_pure (pv_assign (v := .int .i64 _) rfl) ?_
          have hnx : ∀ i, i < n + 1 → tooWarm s j w i = false := fun i hi => by
            by_cases he : i < n
            · exact K2 i he
            · rw [show i = n from by omega, ht, hq']; rfl
          refine ⟨n + 1, ⟨rfl, trivial⟩, rfl, rfl, (Ext.trans (Ext.trans E_n E3) E4), fun h3 E3 => ⟨by omega, hnx⟩, by first | omega | (dsimp only; omega), ?_⟩
          repeat (first | exact off_base _ _ _ | refine off_upd (by decide) ?_ | refine off_updL rfl ?_ | refine off_mix rfl ?_)
        · skip
          have hq' : decide (failedM (warmS s s.joints[j].kind ((n : Int) + 1)) j w = 2) = false := hq
          have hM : marginM s j w = n := find_range hlt K2 (by rw [ht, hq']; rfl)
          refine xp_exit ?_
          refine xp_seq ?_
          refine xp_region rfl ?_
          refine op_pure (pv_move (v := .int .i64 _) rfl) ?_
          refine op_pure (pv_assign (v := .int .i64 _) rfl) ?_
          refine op_pure (pv_assign (v := .int .i64 _) rfl) ?_
          refine xp_ret ?_
          refine res_list (vs := [_, _]) Try.results55 ⟨resV_tmp rfl rfl, resV_tmp rfl rfl, trivial⟩ fun V => ?_
          exact ⟨(Ext.trans (Ext.trans (Ext.trans (Ext.trans (Ext.trans E1 E2) E_n) E3) E4) (ext_wl V)), by rw [hV2, hM, hE]; rfl⟩
      · skip
        have hn30 : n = 30 := by omega
        subst hn30
        refine xp_seq ?_
        refine xp_seq ?_
        refine xp_dw [] rfl rfl rfl ?_
        refine dw_pure (i := 0) rfl (by decide +kernel) (pv_move (v := .int .i64 _) rfl) ?_
        refine dw_pure (i := 1) rfl (by decide +kernel) (pv_of (v := .bool _) rfl) ?_
        refine dw_pure (i := 2) rfl (by decide +kernel) (pv_move (v := .bool _) rfl) ?_
        refine dw_skip (i := 3) rfl (by decide +kernel) rfl rfl ?_
        refine dw_skip (i := 4) rfl (by decide +kernel) rfl rfl ?_
        refine dw_skip (i := 5) rfl (by decide +kernel) rfl rfl ?_
        refine dw_skip (i := 6) rfl (by decide +kernel) rfl rfl ?_
        refine dw_skip (i := 7) rfl (by decide +kernel) rfl rfl ?_
        refine dw_skip (i := 8) rfl (by decide +kernel) rfl rfl ?_
        refine dw_skip (i := 9) rfl (by decide +kernel) rfl rfl ?_
        refine dw_skip (i := 10) rfl (by decide +kernel) rfl rfl ?_
        refine dw_skip (i := 11) rfl (by decide +kernel) rfl rfl ?_
        refine dw_skip (i := 13) rfl (by decide +kernel) rfl rfl ?_
        refine dw_skip (i := 14) rfl (by decide +kernel) rfl rfl ?_
        refine dw_skip (i := 12) rfl (by decide +kernel) rfl rfl ?_
        refine dw_skip (i := 15) rfl (by decide +kernel) rfl rfl ?_
        refine dw_skip (i := 16) rfl (by decide +kernel) rfl rfl ?_
        refine dw_pure (i := 17) rfl (by decide +kernel) (pv_pickF rfl rfl (v := .bool _) rfl) ?_
        refine dw_end rfl ?_
        refine xp_condF rfl (rfl) ?_
        have hM : marginM s j w = 30 := find_range_none K2
        refine xp_exit ?_
        refine xp_seq ?_
        refine xp_region rfl ?_
        refine op_pure (pv_move (v := .int .i64 _) rfl) ?_
        refine op_pure (pv_assign (v := .int .i64 _) rfl) ?_
        refine op_pure (pv_assign (v := .int .i64 _) rfl) ?_
        refine xp_ret ?_
        refine res_list (vs := [_, _]) Try.results55 ⟨resV_tmp rfl rfl, resV_tmp rfl rfl, trivial⟩ fun V => ?_
        exact ⟨(Ext.trans (Ext.trans (Ext.trans E1 E2) E_n) (ext_wl V)), by rw [hV2, hM, hE]; rfl⟩
end Go.Proofs.Ytndfkbapoinmkaa
/- Walks: another weather (the reference). Conditions: as each theorem states. -/
namespace Go.Proofs.Ytndfkbapoinmkaa
open Go Go.HL Go.Proofs Go.Wx
set_option maxRecDepth 100000
set_option maxHeartbeats 8000000 in
theorem rHarder_ok (s : Season) (Sm : Small s) (kd fr to d : Int) (A0 A1 A2 A3 : Option Addr) (c0 c1 c2 c3 : Nat) (h : AH) (R : SeasonR h A0 A1 A2 A3 s) :
    FnT Try.prog 54 #[seasonV A0 A1 A2 A3 c0 c1 c2 c3 s, .int .i64 kd, .int .i64 fr, .int .i64 to, .int .i64 d] h (fun v h' => ∃ u, v = .tuple #[u, .int .i64 (harderE s kd fr to d)] ∧ SeasonS h' (harderV s kd fr to d) u) := by
  have Sm0 := Sm.h0
  refine call_body Try.func54 rfl Try.ntmps54 rfl ?_
  refine xp_seq ?_
  refine xp_region rfl ?_
  refine op_box (v := .agg #[.slice _ _ _, .slice _ _ _, .slice _ _ _, .slice _ _ _]) (cs := [_, _, _, _]) rfl rfl fun b5 hb5 => ?_
  refine wp_norm [_] rfl ?_
  refine op_alloc (cs := [_, _, _, _]) rfl rfl fun b10 hb10 => ?_
  refine wp_norm [_, _] rfl ?_
  refine op_pure (pv_assign (v := .int .i64 _) rfl) ?_
  refine xp_seq ?_
  refine xp_seq ?_
  refine xp_region rfl ?_
  refine op_loadPA 0 (vs := [.slice _ _ _, .slice _ _ _, .slice _ _ _, .slice _ _ _]) rfl rfl rfl rfl rfl ?_
  refine op_fn (caps := []) (vs := [.agg #[.slice _ _ _, .slice _ _ _, .slice _ _ _, .slice _ _ _]]) rfl rfl rfl (rCheck_ok s Sm A0 A1 A2 A3 c0 c1 c2 c3 h (R.ext (Ext.refl _))) ?_
  rintro _ h1 E1 rfl
  refine op_pure (pv_assign (v := .int .i64 _) rfl) ?_
  refine xp_seq ?_
  refine xp_region rfl ?_
  refine op_pure (pv_move (v := .int .i64 _) rfl) ?_
  refine op_pure (pv_of (v := .bool _) rfl) ?_
  refine xp_cond rfl (fun hc => ?_) (fun hc => ?_)
  · skip
    have hc0 : checkM s ≠ 0 := by simpa using hc
    have hE : harderE s kd fr to d = checkM s := by rw [harderE, if_pos hc0]
    refine xp_seq ?_
    refine xp_region rfl ?_
    refine op_pure (pv_build (zc := [_, _, _, _]) (vs := []) (cs := [_, _, _, _]) rfl rfl rfl rfl rfl rfl) ?_
    refine op_pure (pv_move (v := .int .i64 _) rfl) ?_
    refine op_storeP 1 (v := .agg #[.slice _ _ _, .slice _ _ _, .slice _ _ _, .slice _ _ _]) (vs := [_, _, _, _]) (c' := [_, _, _, _]) rfl rfl rfl rfl rfl rfl rfl rfl rfl ?_
    refine wp_norm [_, _] rfl ?_
    refine op_pure (pv_assign (v := .int .i64 _) rfl) ?_
    refine xp_ret ?_
    refine res_list (vs := [_, _]) Try.results54 ⟨resV_agg 1 rfl rfl rfl rfl rfl (vs := [.slice _ _ _, .slice _ _ _, .slice _ _ _, .slice _ _ _]) rfl, resV_tmp rfl rfl, trivial⟩ fun V => ?_
    exact ⟨(Ext.trans E1 (ext_wl V)), _, by rw [hE]; rfl, none, none, none, none, 0, 0, 0, 0, by rw [harderV, hE, if_neg hc0]; rfl, by rw [harderV, hE, if_neg hc0]; exact seasonR_none⟩
  · skip
    have hc0 : checkM s = 0 := by simpa using hc
    have C := CheckS.of hc0
    have h6 := C.w6
    have hw1 := C.w1
    have hdl := C.dl
    have j3 := C.j3
    have r5 := C.r5
    refine xp_skip ?_
    refine xp_seq ?_
    refine xp_seq ?_
    refine xp_region rfl ?_
    refine op_pure (pv_move (v := .int .i64 _) rfl) ?_
    refine op_pure (pv_of (v := .bool _) rfl) ?_
    refine op_pure (pv_move (v := .bool _) rfl) ?_
    rcases Bool.eq_false_or_eq_true (kd != 1) with e1 | e1
    · skip
      refine guard_yes rfl e1 ?_
      refine op_pure (pv_move (v := .int .i64 _) rfl) ?_
      refine guard_yes rfl e1 ?_
      refine op_pure (pv_of (v := .bool _) rfl) ?_
      refine op_pure (pv_pickT rfl e1 (v := .bool _) rfl) ?_
      refine xp_cond rfl (fun e2 => ?_) (fun e2 => ?_)
      · skip
        have hkd : inM kd 1 2 = false := by
          have a1 : kd ≠ 1 := by simpa using e1
          have a2 : kd ≠ 2 := by simpa using e2
          rw [Bool.eq_false_iff]
          unfold inM
          simp
          omega
        have hE : harderE s kd fr to d = 8 := by rw [harderE, if_neg (by simp [hc0]), if_pos (by simp [hkd])]
        refine xp_seq ?_
        refine xp_region rfl ?_
        refine op_pure (pv_build (zc := [_, _, _, _]) (vs := []) (cs := [_, _, _, _]) rfl rfl rfl rfl rfl rfl) ?_
        refine op_storeP 1 (v := .agg #[.slice _ _ _, .slice _ _ _, .slice _ _ _, .slice _ _ _]) (vs := [_, _, _, _]) (c' := [_, _, _, _]) rfl rfl rfl rfl rfl rfl rfl rfl rfl ?_
        refine wp_norm [_, _] rfl ?_
        refine op_pure (pv_assign (v := .int .i64 _) rfl) ?_
        refine xp_ret ?_
        refine res_list (vs := [_, _]) Try.results54 ⟨resV_agg 1 rfl rfl rfl rfl rfl (vs := [.slice _ _ _, .slice _ _ _, .slice _ _ _, .slice _ _ _]) rfl, resV_tmp rfl rfl, trivial⟩ fun V => ?_
        exact ⟨(Ext.trans E1 (ext_wl V)), _, by rw [hE]; rfl, none, none, none, none, 0, 0, 0, 0, by rw [harderV, hE]; rfl, by rw [harderV, hE]; exact seasonR_none⟩
      · skip
        have hkd : kd = 2 := by simpa using e2
        subst hkd
        refine xp_skip ?_
        refine xp_seq ?_
        refine xp_seq ?_
        refine xp_region rfl ?_
        refine op_pure (pv_move (v := .int .i64 _) rfl) ?_
        refine op_pure (pv_fieldAddr rfl rfl rfl rfl 0 rfl) ?_
        refine op_loadP 0 (v := .slice _ _ _) rfl rfl rfl rfl ?_
        refine op_pure (pv_len rfl rfl) ?_
        refine op_pure (pv_arith rfl (by omega)) ?_
        refine op_fn (caps := []) (vs := [.int .i64 _, .int .i64 _, .int .i64 _]) rfl rfl rfl (rWithin_ok _ _ _ h1) ?_
        rintro _ h3' E3' rfl
        refine op_pure (pv_of (v := .bool _) rfl) ?_
        refine op_pure (pv_move (v := .bool _) rfl) ?_
        rcases Bool.eq_false_or_eq_true (!inM fr 0 ((s.heats.length : Int) - 1)) with hf | hf
        · skip
          have hfr : inM fr 0 ((s.heats.length : Int) - 1) = false := by simpa using hf
          have hE : harderE s 2 fr to d = 1 := by rw [harderE, if_neg (by simp [hc0]), if_neg (by decide), if_pos (by simp [hfr])]
          refine guard_no rfl hf ?_
          refine guard_no rfl hf ?_
          refine guard_no rfl hf ?_
          refine guard_no rfl hf ?_
          refine guard_no rfl hf ?_
          refine guard_no rfl hf ?_
          refine guard_no rfl hf ?_
          refine op_pure (pv_pickT rfl hf (v := .bool _) rfl) ?_
          refine xp_condT rfl (rfl) ?_
          refine xp_seq ?_
          refine xp_region rfl ?_
          refine op_pure (pv_build (zc := [_, _, _, _]) (vs := []) (cs := [_, _, _, _]) rfl rfl rfl rfl rfl rfl) ?_
          refine op_storeP 1 (v := .agg #[.slice _ _ _, .slice _ _ _, .slice _ _ _, .slice _ _ _]) (vs := [_, _, _, _]) (c' := [_, _, _, _]) rfl rfl rfl rfl rfl rfl rfl rfl rfl ?_
          refine wp_norm [_, _] rfl ?_
          refine op_pure (pv_assign (v := .int .i64 _) rfl) ?_
          refine xp_ret ?_
          refine res_list (vs := [_, _]) Try.results54 ⟨resV_agg 1 rfl rfl rfl rfl rfl (vs := [.slice _ _ _, .slice _ _ _, .slice _ _ _, .slice _ _ _]) rfl, resV_tmp rfl rfl, trivial⟩ fun V => ?_
          exact ⟨(Ext.trans (Ext.trans E1 E3') (ext_wl V)), _, by rw [hE]; rfl, none, none, none, none, 0, 0, 0, 0, by rw [harderV, hE]; rfl, by rw [harderV, hE]; exact seasonR_none⟩
        · skip
          have hfr : inM fr 0 ((s.heats.length : Int) - 1) = true := by simpa using hf
          refine guard_yes rfl hf ?_
          refine op_pure (pv_move (v := .int .i64 _) rfl) ?_
          refine guard_yes rfl hf ?_
          refine op_pure (pv_fieldAddr rfl rfl rfl rfl 0 rfl) ?_
          refine guard_yes rfl hf ?_
          refine op_loadP 0 (v := .slice _ _ _) rfl rfl rfl rfl ?_
          refine guard_yes rfl hf ?_
          refine op_pure (pv_len rfl rfl) ?_
          refine guard_yes rfl hf ?_
          refine op_pure (pv_arith rfl (by omega)) ?_
          refine guard_yes rfl hf ?_
          refine op_fn (caps := []) (vs := [.int .i64 _, .int .i64 _, .int .i64 _]) rfl rfl rfl (rWithin_ok _ _ _ h3') ?_
          rintro _ h4' E4' rfl
          refine guard_yes rfl hf ?_
          refine op_pure (pv_of (v := .bool _) rfl) ?_
          refine op_pure (pv_pickF rfl hf (v := .bool _) rfl) ?_
          refine xp_cond rfl (fun ht => ?_) (fun ht => ?_)
          · skip
            have hto : inM to 0 ((s.heats.length : Int) - 1) = false := by simpa using ht
            have hE : harderE s 2 fr to d = 1 := by rw [harderE, if_neg (by simp [hc0]), if_neg (by decide), if_neg (by simp [hfr]), if_pos (by simp [hto])]
            refine xp_seq ?_
            refine xp_region rfl ?_
            refine op_pure (pv_build (zc := [_, _, _, _]) (vs := []) (cs := [_, _, _, _]) rfl rfl rfl rfl rfl rfl) ?_
            refine op_storeP 1 (v := .agg #[.slice _ _ _, .slice _ _ _, .slice _ _ _, .slice _ _ _]) (vs := [_, _, _, _]) (c' := [_, _, _, _]) rfl rfl rfl rfl rfl rfl rfl rfl rfl ?_
            refine wp_norm [_, _] rfl ?_
            refine op_pure (pv_assign (v := .int .i64 _) rfl) ?_
            refine xp_ret ?_
            refine res_list (vs := [_, _]) Try.results54 ⟨resV_agg 1 rfl rfl rfl rfl rfl (vs := [.slice _ _ _, .slice _ _ _, .slice _ _ _, .slice _ _ _]) rfl, resV_tmp rfl rfl, trivial⟩ fun V => ?_
            exact ⟨(Ext.trans (Ext.trans (Ext.trans E1 E3') E4') (ext_wl V)), _, by rw [hE]; rfl, none, none, none, none, 0, 0, 0, 0, by rw [harderV, hE]; rfl, by rw [harderV, hE]; exact seasonR_none⟩
          · skip
            have hto : inM to 0 ((s.heats.length : Int) - 1) = true := by simpa using ht
            refine xp_skip ?_
            refine xp_seq ?_
            refine xp_seq ?_
            refine xp_region rfl ?_
            refine op_pure (pv_move (v := .int .i64 _) rfl) ?_
            refine op_pure (pv_move (v := .int .i64 _) rfl) ?_
            refine op_pure (pv_of (v := .bool _) rfl) ?_
            refine xp_cond rfl (fun hg => ?_) (fun hg => ?_)
            · skip
              have hgt : fr > to := of_decide_eq_true hg
              have hE : harderE s 2 fr to d = 5 := by rw [harderE, if_neg (by simp [hc0]), if_neg (by decide), if_neg (by simp [hfr]), if_neg (by simp [hto]), if_pos hgt]
              refine xp_seq ?_
              refine xp_region rfl ?_
              refine op_pure (pv_build (zc := [_, _, _, _]) (vs := []) (cs := [_, _, _, _]) rfl rfl rfl rfl rfl rfl) ?_
              refine op_storeP 1 (v := .agg #[.slice _ _ _, .slice _ _ _, .slice _ _ _, .slice _ _ _]) (vs := [_, _, _, _]) (c' := [_, _, _, _]) rfl rfl rfl rfl rfl rfl rfl rfl rfl ?_
              refine wp_norm [_, _] rfl ?_
              refine op_pure (pv_assign (v := .int .i64 _) rfl) ?_
              refine xp_ret ?_
              refine res_list (vs := [_, _]) Try.results54 ⟨resV_agg 1 rfl rfl rfl rfl rfl (vs := [.slice _ _ _, .slice _ _ _, .slice _ _ _, .slice _ _ _]) rfl, resV_tmp rfl rfl, trivial⟩ fun V => ?_
              exact ⟨(Ext.trans (Ext.trans (Ext.trans E1 E3') E4') (ext_wl V)), _, by rw [hE]; rfl, none, none, none, none, 0, 0, 0, 0, by rw [harderV, hE]; rfl, by rw [harderV, hE]; exact seasonR_none⟩
            · skip
              have hgt : ¬ fr > to := of_decide_eq_false hg
              refine xp_skip ?_
              refine xp_seq ?_
              refine xp_seq ?_
              refine xp_region rfl ?_
              refine op_pure (pv_move (v := .int .i64 _) rfl) ?_
              refine op_fn (caps := []) (vs := [.int .i64 _, .int .i64 _, .int .i64 _]) rfl rfl rfl (rWithin_ok _ _ _ h4') ?_
              rintro _ h5' E5' rfl
              refine op_pure (pv_of (v := .bool _) rfl) ?_
              refine xp_cond rfl (fun hb0 => ?_) (fun hb0 => ?_)
              · skip
                have hd : inM d (-150) 150 = false := by simpa using hb0
                have hE : harderE s 2 fr to d = 1 := by rw [harderE, if_neg (by simp [hc0]), if_neg (by decide), if_neg (by simp [hfr]), if_neg (by simp [hto]), if_neg hgt, if_pos (by simp [hd])]
                refine xp_seq ?_
                refine xp_region rfl ?_
                refine op_pure (pv_build (zc := [_, _, _, _]) (vs := []) (cs := [_, _, _, _]) rfl rfl rfl rfl rfl rfl) ?_
                refine op_storeP 1 (v := .agg #[.slice _ _ _, .slice _ _ _, .slice _ _ _, .slice _ _ _]) (vs := [_, _, _, _]) (c' := [_, _, _, _]) rfl rfl rfl rfl rfl rfl rfl rfl rfl ?_
                refine wp_norm [_, _] rfl ?_
                refine op_pure (pv_assign (v := .int .i64 _) rfl) ?_
                refine xp_ret ?_
                refine res_list (vs := [_, _]) Try.results54 ⟨resV_agg 1 rfl rfl rfl rfl rfl (vs := [.slice _ _ _, .slice _ _ _, .slice _ _ _, .slice _ _ _]) rfl, resV_tmp rfl rfl, trivial⟩ fun V => ?_
                exact ⟨(Ext.trans (Ext.trans (Ext.trans (Ext.trans E1 E3') E4') E5') (ext_wl V)), _, by rw [hE]; rfl, none, none, none, none, 0, 0, 0, 0, by rw [harderV, hE]; rfl, by rw [harderV, hE]; exact seasonR_none⟩
              · skip
                have hd : inM d (-150) 150 = true := by simpa using hb0
                have hdb : -150 ≤ d ∧ d ≤ 150 := by unfold inM at hd; simpa using hd
                obtain ⟨a, rfl, hal⟩ := inM_nat hfr
                obtain ⟨z, rfl, hzl⟩ := inM_nat hto
                have ha := hfr
                have hz := hto
                have haz : a ≤ z := by omega
                have hW : harderW s 2 a z d = raisedN s.damps a (z + 1) d := by unfold harderW weatherM; rw [if_neg (by decide)]; rw [show ((z : Int) + 1).toNat = z + 1 from by omega, Int.toNat_natCast]
                have hb : ∀ r ∈ s.damps, -50 ≤ r.mn ∧ r.mn ≤ r.mx ∧ r.mx ≤ 100 := fun r hr => by have := checkWeather_iff.1 (C.d r hr); omega
                have hall : s.damps.any outR = false := by
                  rw [Bool.eq_false_iff]
                  intro hany
                  obtain ⟨r, hr, ho⟩ := List.any_eq_true.1 hany
                  have := hb r hr
                  unfold outR inM at ho
                  simp at ho
                  omega
                refine xp_skip ?_
                refine xp_seq ?_
                refine xp_region rfl ?_
                refine op_loadPA 0 (vs := [.slice _ _ _, .slice _ _ _, .slice _ _ _, .slice _ _ _]) rfl rfl rfl rfl rfl ?_
                refine op_fnMM [_, _] [] [] rfl rfl rfl (copied_ok s A0 A1 A2 A3 c0 c1 c2 c3 h5' (R.ext (Ext.trans (Ext.trans (Ext.trans E1 E3') E4') E5')) (by omega) (by omega) (by omega)) ?_
                rintro _ h5 _ E5 ⟨a0, a1, a2, rfl, rfl, ha0, ha1, ha2⟩
                refine wp_norm [_, _, _, _, _] rfl ?_
                obtain ⟨bH, lenH, capH, junkH, hlH, rfl⟩ := AccR.some ha0 (by intro e; have := flat_len (l := s.heats) (m := 2) (enc := rgC) (fun _ _ => rfl); rw [e] at this; simp at this; omega)
                obtain ⟨bDm, lenDm, capDm, junkDm, hlDm, rfl⟩ := AccR.some ha1 (by intro e; have := flat_len (l := s.damps) (m := 2) (enc := rgC) (fun _ _ => rfl); rw [e] at this; simp at this; omega)
                have eH : lenH = s.heats.length := by rw [flat_len (m := 2) (fun _ _ => rfl)] at hlH; omega
                have eDm : lenDm = s.damps.length := by rw [flat_len (m := 2) (fun _ _ => rfl)] at hlDm; omega
                have hJ : a2.n = s.joints.length := by have := AccR.len ha2; rw [flat_len (m := 9) (fun _ _ => rfl)] at this; omega
                subst eH eDm
                dsimp only
                refine op_alloc (cs := [_, _, _, _]) rfl rfl fun b13 hb13 => ?_
                refine wp_norm [_, _, _, _, _, _] rfl ?_
                refine op_storeP 5 (v := .agg #[.slice _ _ _, .slice _ _ _, .slice _ _ _, .slice _ _ _]) (vs := [_, _, _, _]) (c' := [_, _, _, _]) rfl rfl rfl rfl rfl rfl rfl rfl rfl ?_
                refine wp_norm [_, _, _, _, _, _] rfl ?_
                refine xp_seq ?_
                refine xp_region rfl ?_
                refine op_loadPA 5 (vs := [.slice _ _ _, .slice _ _ _, .slice _ _ _, .slice _ _ _]) rfl rfl rfl rfl rfl ?_
                refine op_pure (pv_move (v := .int .i64 _) rfl) ?_
                refine op_fn (caps := []) (vs := [.agg #[.slice _ _ _, .slice _ _ _, .slice _ _ _, .slice _ _ _], .int .i64 _]) rfl rfl rfl (ranges_ok _ _ _ _ _ _ _ _ _ _ _ _ _ h5) ?_
                rintro _ h6 E6 rfl
                rw [if_neg (by decide)]
                refine op_pure (pv_assign (v := .slice _ _ _) rfl) ?_
                refine xp_seq ?_
                refine xp_seq ?_
                refine xp_region rfl ?_
                refine op_pure (pv_move (v := .int .i64 _) rfl) ?_
                refine op_pure (pv_assign (v := .int .i64 _) rfl) ?_
                refine xp_block ?_
                refine xp_loopL [11, 15, 60, 61, 62, 63, 64, 65, 66, 67, 68, 69, 70, 71, 72, 73, 74, 75, 76, 77, 78, 79, 80, 81, 82, 83, 84, 85, 86, 87, 88, 89, 90, 91, 92, 93, 94, 95, 96, 97, 98, 99] 6 (α := Nat) (fun w => [(15, .int .i64 w)]) (fun w L => L.set 3 (some (bDm, .cells ((raisedN s.damps a w d).flatMap rgC ++ junkDm).toArray 51 (0, 0)))) (fun w h_w => (a ≤ w ∧ w ≤ z + 1) ∧ (raisedN s.damps a w d).any outR = false) (fun w => z + 1 - w) (a) ⟨rfl, trivial⟩ (by rw [raisedN_zero]; rfl) (⟨⟨Nat.le_refl _, by omega⟩, by rw [raisedN_zero]; exact hall⟩) ?_
                rintro w T1 h_w E_w J_w
                refine goes_norm [_, _, _, _, _, _] rfl ?_
                obtain ⟨⟨K1, K2⟩, K3⟩ := J_w
                refine xp_seq ?_
                refine xp_seq ?_
                refine xp_region rfl ?_
                refine op_pure (pv_move (v := .int .i64 _) rfl) ?_
                refine op_pure (pv_move (v := .int .i64 _) rfl) ?_
                refine op_pure (pv_of (v := .bool _) rfl) ?_
                refine xp_cond rfl (fun ht => ?_) (fun ht => ?_)
                · skip
                  have hwz : w ≤ z := by have := of_decide_eq_true ht; omega
                  have hwl : w < s.damps.length := by omega
                  have hrk := hb _ (List.getElem_mem hwl)
                  have hkr : w < (raisedN s.damps a w d).length := by rw [raisedN_len]; exact hwl
                  have hat := raisedN_at (a := a) d hwl
                  have hat2 : (raisedN s.damps a (w + 1) d)[w]? = some (upR s.damps[w] d) := by rw [raisedN_get, List.getElem?_eq_getElem hwl]; simp [K1]
                  have hoff : 0 + (w : Int).toNat * 2 = w * 2 := by omega
                  refine xp_skip ?_
                  refine xp_seq ?_
                  refine xp_block ?_
                  refine xp_seq ?_
                  refine xp_dw [] rfl rfl rfl ?_
                  refine dw_pure (i := 0) rfl (by decide +kernel) (pv_move (v := .slice _ _ _) rfl) ?_
                  refine dw_pure (i := 1) rfl (by decide +kernel) (pv_move (v := .int .i64 _) rfl) ?_
                  refine dw_pure (i := 2) rfl (by decide +kernel) (pv_move (v := .slice _ _ _) rfl) ?_
                  refine dw_pure (i := 3) rfl (by decide +kernel) (pv_move (v := .int .i64 _) rfl) ?_
                  refine dw_pure (i := 4) rfl (by decide +kernel) (pv_index rfl rfl rfl rfl (by omega) (by omega)) ?_
                  refine dw_pure (i := 5) rfl (by decide +kernel) (pv_fieldAddr rfl rfl rfl rfl _ rfl) ?_
                  refine dw_load (i := 6) rfl (by decide +kernel) ?_
                  refine op_loadP 3 (v := .int .i64 s.damps[w].mn) (off := 0 + (w : Int).toNat * 2) rfl rfl rfl (by rw [hoff]; simpa using rg_mn (junk := junkDm) hat) ?_
                  refine dw_pure (i := 7) rfl (by decide +kernel) (pv_move (v := .int .i64 _) rfl) ?_
                  refine dw_pure (i := 8) rfl (by decide +kernel) (pv_arith rfl (by omega)) ?_
                  refine dw_pure (i := 9) rfl (by decide +kernel) (pv_move (v := .slice _ _ _) rfl) ?_
                  refine dw_pure (i := 10) rfl (by decide +kernel) (pv_move (v := .int .i64 _) rfl) ?_
                  refine dw_pure (i := 11) rfl (by decide +kernel) (pv_index rfl rfl rfl rfl (by omega) (by omega)) ?_
                  refine dw_pure (i := 12) rfl (by decide +kernel) (pv_fieldAddr rfl rfl rfl rfl _ rfl) ?_
                  refine dw_load (i := 13) rfl (by decide +kernel) ?_
                  refine op_loadP 3 (v := .int .i64 s.damps[w].mx) (off := 0 + (w : Int).toNat * 2 + 1) rfl rfl rfl (by rw [hoff]; simpa using rg_mx (junk := junkDm) hat) ?_
                  refine dw_pure (i := 14) rfl (by decide +kernel) (pv_move (v := .int .i64 _) rfl) ?_
                  refine dw_pure (i := 15) rfl (by decide +kernel) (pv_arith rfl (by omega)) ?_
                  refine dw_pure (i := 16) rfl (by decide +kernel) (pv_build (zc := [_, _]) (vs := [(0, .int .i64 _), (1, .int .i64 _)]) (cs := [_, _]) rfl rfl rfl rfl rfl rfl) ?_
                  refine dw_pure (i := 17) rfl (by decide +kernel) (pv_index rfl rfl rfl rfl (by omega) (by omega)) ?_
                  refine dw_last (i := 18) rfl (by decide +kernel) (by decide +kernel) ?_
                  refine op_storeP 3 (v := .agg #[.int .i64 _, .int .i64 _]) (vs := [.int .i64 (s.damps[w].mn + d), .int .i64 (s.damps[w].mx + d)]) (off := 0 + (w : Int).toNat * 2) (c' := (raisedN s.damps a (w + 1) d).flatMap rgC ++ junkDm) rfl rfl rfl rfl rfl rfl (Nat.ble_eq_true_of_le (by show 0 + (w : Int).toNat * 2 + 2 ≤ _; rw [List.length_append, flat_len (m := 2) (fun _ _ => rfl), raisedN_len]; omega)) rfl (by rw [hoff, rg_wr hkr, ← raisedN_succ d K1 hwl]; rfl) ?_
                  refine dw_norm [_, _, _, _, _, _] rfl ?_
                  refine dw_end rfl ?_
                  refine xp_seq ?_
                  refine xp_region rfl ?_
                  refine op_pure (pv_move (v := .slice _ _ _) rfl) ?_
                  refine op_pure (pv_move (v := .int .i64 _) rfl) ?_
                  refine op_pure (pv_index rfl rfl rfl rfl (by omega) (by omega)) ?_
                  refine op_pure (pv_fieldAddr rfl rfl rfl rfl _ rfl) ?_
                  refine op_loadP 3 (v := .int .i64 (s.damps[w].mn + d)) (off := 0 + (w : Int).toNat * 2) rfl rfl rfl (by rw [hoff]; simpa [upR] using rg_mn (junk := junkDm) hat2) ?_
                  refine op_fn (caps := []) (vs := [.int .i64 _, .int .i64 _, .int .i64 _]) rfl rfl rfl (rWithin_ok _ _ _ h_w) ?_
                  rintro _ h7 E7 rfl
                  refine op_pure (pv_of (v := .bool _) rfl) ?_
                  refine op_pure (pv_move (v := .bool _) rfl) ?_
                  have hbad : outR (upR s.damps[w] d) = true → harderE s 2 a z d = 1 := fun ho => by
                    have hany : (raisedN s.damps a (z + 1) d).any outR = true := by
                      rw [List.any_eq_true]
                      have hg : (raisedN s.damps a (z + 1) d)[w]? = some (upR s.damps[w] d) := by rw [raisedN_get, List.getElem?_eq_getElem hwl]; simp [K1]; omega
                      exact ⟨_, List.mem_of_getElem? hg, ho⟩
                    rw [harderE, if_neg (by simp [hc0]), if_neg (by decide), if_neg (by simp [ha]), if_neg (by simp [hz]), if_neg (by omega), if_neg (by simp [hd]), hW, if_pos hany]
                  rcases Bool.eq_false_or_eq_true (!inM (s.damps[w].mn + d) (-50) 100) with x1 | x1
                  · skip
                    have hE := hbad (by unfold outR upR; simp only; rw [x1]; rfl)
                    refine guard_no rfl x1 ?_
                    refine guard_no rfl x1 ?_
                    refine guard_no rfl x1 ?_
                    refine guard_no rfl x1 ?_
                    refine guard_no rfl x1 ?_
                    refine guard_no rfl x1 ?_
                    refine guard_no rfl x1 ?_
                    refine op_pure (pv_pickT rfl x1 (v := .bool _) rfl) ?_
                    refine xp_condT rfl (rfl) ?_
                    refine xp_seq ?_
                    refine xp_region rfl ?_
                    refine op_pure (pv_build (zc := [_, _, _, _]) (vs := []) (cs := [_, _, _, _]) rfl rfl rfl rfl rfl rfl) ?_
                    refine op_storeP 1 (v := .agg #[.slice _ _ _, .slice _ _ _, .slice _ _ _, .slice _ _ _]) (vs := [_, _, _, _]) (c' := [_, _, _, _]) rfl rfl rfl rfl rfl rfl rfl rfl rfl ?_
                    refine wp_norm [_, _, _, _, _, _] rfl ?_
                    refine op_pure (pv_assign (v := .int .i64 _) rfl) ?_
                    refine xp_ret ?_
                    refine res_list (vs := [_, _]) Try.results54 ⟨resV_agg 1 rfl rfl rfl rfl rfl (vs := [.slice _ _ _, .slice _ _ _, .slice _ _ _, .slice _ _ _]) rfl, resV_tmp rfl rfl, trivial⟩ fun V => ?_
                    exact ⟨(Ext.trans (Ext.trans (Ext.trans (Ext.trans (Ext.trans (Ext.trans (Ext.trans (Ext.trans E1 E3') E4') E5') E5) E6) E_w) E7) (ext_wl V)), _, by rw [hE]; rfl, none, none, none, none, 0, 0, 0, 0, by rw [harderV, hE]; rfl, by rw [harderV, hE]; exact seasonR_none⟩
                  · skip
                    refine guard_yes rfl x1 ?_
                    refine op_pure (pv_move (v := .slice _ _ _) rfl) ?_
                    refine guard_yes rfl x1 ?_
                    refine op_pure (pv_move (v := .int .i64 _) rfl) ?_
                    refine guard_yes rfl x1 ?_
                    refine op_pure (pv_index rfl rfl rfl rfl (by omega) (by omega)) ?_
                    refine guard_yes rfl x1 ?_
                    refine op_pure (pv_fieldAddr rfl rfl rfl rfl _ rfl) ?_
                    refine guard_yes rfl x1 ?_
                    refine op_loadP 3 (v := .int .i64 (s.damps[w].mx + d)) (off := 0 + (w : Int).toNat * 2 + 1) rfl rfl rfl (by rw [hoff]; simpa [upR] using rg_mx (junk := junkDm) hat2) ?_
                    refine guard_yes rfl x1 ?_
                    refine op_fn (caps := []) (vs := [.int .i64 _, .int .i64 _, .int .i64 _]) rfl rfl rfl (rWithin_ok _ _ _ h7) ?_
                    rintro _ h8 E8 rfl
                    refine guard_yes rfl x1 ?_
                    refine op_pure (pv_of (v := .bool _) rfl) ?_
                    refine op_pure (pv_pickF rfl x1 (v := .bool _) rfl) ?_
                    refine xp_cond rfl (fun x2 => ?_) (fun x2 => ?_)
                    · skip
                      have hE := hbad (by unfold outR upR; simp only; rw [x1]; exact x2)
                      refine xp_seq ?_
                      refine xp_region rfl ?_
                      refine op_pure (pv_build (zc := [_, _, _, _]) (vs := []) (cs := [_, _, _, _]) rfl rfl rfl rfl rfl rfl) ?_
                      refine op_storeP 1 (v := .agg #[.slice _ _ _, .slice _ _ _, .slice _ _ _, .slice _ _ _]) (vs := [_, _, _, _]) (c' := [_, _, _, _]) rfl rfl rfl rfl rfl rfl rfl rfl rfl ?_
                      refine wp_norm [_, _, _, _, _, _] rfl ?_
                      refine op_pure (pv_assign (v := .int .i64 _) rfl) ?_
                      refine xp_ret ?_
                      refine res_list (vs := [_, _]) Try.results54 ⟨resV_agg 1 rfl rfl rfl rfl rfl (vs := [.slice _ _ _, .slice _ _ _, .slice _ _ _, .slice _ _ _]) rfl, resV_tmp rfl rfl, trivial⟩ fun V => ?_
                      exact ⟨(Ext.trans (Ext.trans (Ext.trans (Ext.trans (Ext.trans (Ext.trans (Ext.trans (Ext.trans (Ext.trans E1 E3') E4') E5') E5) E6) E_w) E7) E8) (ext_wl V)), _, by rw [hE]; rfl, none, none, none, none, 0, 0, 0, 0, by rw [harderV, hE]; rfl, by rw [harderV, hE]; exact seasonR_none⟩
                    · skip
                      have x2' : (!inM (s.damps[w].mx + d) (-50) 100) = false := x2
                      have hno : outR (upR s.damps[w] d) = false := by unfold outR upR; simp only; rw [x1, x2']; rfl
                      have hnx : (raisedN s.damps a (w + 1) d).any outR = false := by
                        rw [← raisedN_succ d K1 hwl, Bool.eq_false_iff]
                        intro hany
                        obtain ⟨r, hr, ho⟩ := List.any_eq_true.1 hany
                        rcases List.mem_or_eq_of_mem_set hr with h1 | h1
                        · have : (raisedN s.damps a w d).any outR = true := List.any_eq_true.2 ⟨r, h1, ho⟩
                          rw [K3] at this; cases this
                        · rw [h1, hno] at ho; cases ho
                      refine xp_skip ?_
                      refine xp_region rfl ?_
                      refine op_pure (pv_move (v := .int .i64 _) rfl) ?_
                      refine op_pure (pv_arith rfl (by omega)) ?_
                      refine op_pure (pv_assign (v := .int .i64 _) rfl) ?_
                      refine ⟨w + 1, ⟨rfl, trivial⟩, rfl, rfl, (Ext.trans (Ext.trans E_w E7) E8), fun h3 E3 => ⟨⟨by omega, by omega⟩, hnx⟩, by first | omega | (dsimp only; omega), ?_⟩
                      repeat (first | exact off_base _ _ _ | refine off_upd (by decide) ?_ | refine off_updL rfl ?_ | refine off_mix rfl ?_)
                · skip
                  have hwe : w = z + 1 := by have := of_decide_eq_false ht; omega
                  subst hwe
                  have hE : harderE s 2 a z d = 0 := by rw [harderE, if_neg (by simp [hc0]), if_neg (by decide), if_neg (by simp [ha]), if_neg (by simp [hz]), if_neg (by omega), if_neg (by simp [hd]), hW, if_neg (by simp [K3])]
                  refine goes_pub 2 rfl ?_
                  intro h9 E9 p9
                  refine goes_pub 3 rfl ?_
                  intro h10 E10 p10
                  refine goes_pubO 4 rfl ?_
                  intro h11 E11 p11
                  refine goes_norm [_, _, _, _, _, _] rfl ?_
                  have hv : harderV s 2 a z d = { s with damps := raisedN s.damps a (z + 1) d, reports := [] } := by rw [harderV, if_pos hE, harderS, if_neg (by decide), hW]
                  have hln := raisedN_len s.damps a (z + 1) d
                  refine xp_exit ?_
                  refine xp_seq ?_
                  refine xp_region rfl ?_
                  refine op_loadPA 5 (vs := [.slice _ _ _, .slice _ _ _, .slice _ _ _, .slice _ _ _]) rfl rfl rfl rfl rfl ?_
                  refine op_storeP 1 (v := .agg #[.slice _ _ _, .slice _ _ _, .slice _ _ _, .slice _ _ _]) (vs := [_, _, _, _]) (c' := [_, _, _, _]) rfl rfl rfl rfl rfl rfl rfl rfl rfl ?_
                  refine wp_norm [_, _, _, _, _, _] rfl ?_
                  refine op_pure (pv_assign (v := .int .i64 _) rfl) ?_
                  refine xp_ret ?_
                  refine res_list (vs := [_, _]) Try.results54 ⟨resV_agg 1 rfl rfl rfl rfl rfl (vs := [.slice _ _ _, .slice _ _ _, .slice _ _ _, .slice _ _ _]) rfl, resV_tmp rfl rfl, trivial⟩ fun V => ?_
                  refine ⟨(Ext.trans (Ext.trans (Ext.trans (Ext.trans (Ext.trans (Ext.trans (Ext.trans (Ext.trans (Ext.trans (Ext.trans E1 E3') E4') E5') E5) E6) E_w) E9) E10) E11) (ext_wl V)), _, by rw [hE]; rfl, some ⟨bH, 0, none⟩, some ⟨bDm, 0, none⟩, a2.A, none, capH, capDm, a2.c, 0, ?_, ?_⟩
                  · rw [hv]
                    unfold seasonV
                    rw [hJ]
                    simp only [hln]
                    rfl
                  · rw [hv]
                    exact ⟨(rg_row p9).ext (Ext.trans (Ext.trans E10 E11) (ext_wl V)), (rg_row p10).ext (Ext.trans E11 (ext_wl V)), ⟨fun _ _ => rfl, (AccR.rd ha2 p11).ext (ext_wl V)⟩, ⟨fun _ h => (by cases h), Rd.nil _ _⟩⟩
    · skip
      have hkd : kd = 1 := by simpa using e1
      subst hkd
      refine guard_no rfl rfl ?_
      refine guard_no rfl rfl ?_
      refine op_pure (pv_pickF rfl rfl (v := .bool _) rfl) ?_
      refine xp_condF rfl (rfl) ?_
      refine xp_skip ?_
      refine xp_seq ?_
      refine xp_seq ?_
      refine xp_region rfl ?_
      refine op_pure (pv_move (v := .int .i64 _) rfl) ?_
      refine op_pure (pv_fieldAddr rfl rfl rfl rfl 0 rfl) ?_
      refine op_loadP 0 (v := .slice _ _ _) rfl rfl rfl rfl ?_
      refine op_pure (pv_len rfl rfl) ?_
      refine op_pure (pv_arith rfl (by omega)) ?_
      refine op_fn (caps := []) (vs := [.int .i64 _, .int .i64 _, .int .i64 _]) rfl rfl rfl (rWithin_ok _ _ _ h1) ?_
      rintro _ h3' E3' rfl
      refine op_pure (pv_of (v := .bool _) rfl) ?_
      refine op_pure (pv_move (v := .bool _) rfl) ?_
      rcases Bool.eq_false_or_eq_true (!inM fr 0 ((s.heats.length : Int) - 1)) with hf | hf
      · skip
        have hfr : inM fr 0 ((s.heats.length : Int) - 1) = false := by simpa using hf
        have hE : harderE s 1 fr to d = 1 := by rw [harderE, if_neg (by simp [hc0]), if_neg (by decide), if_pos (by simp [hfr])]
        refine guard_no rfl hf ?_
        refine guard_no rfl hf ?_
        refine guard_no rfl hf ?_
        refine guard_no rfl hf ?_
        refine guard_no rfl hf ?_
        refine guard_no rfl hf ?_
        refine guard_no rfl hf ?_
        refine op_pure (pv_pickT rfl hf (v := .bool _) rfl) ?_
        refine xp_condT rfl (rfl) ?_
        refine xp_seq ?_
        refine xp_region rfl ?_
        refine op_pure (pv_build (zc := [_, _, _, _]) (vs := []) (cs := [_, _, _, _]) rfl rfl rfl rfl rfl rfl) ?_
        refine op_storeP 1 (v := .agg #[.slice _ _ _, .slice _ _ _, .slice _ _ _, .slice _ _ _]) (vs := [_, _, _, _]) (c' := [_, _, _, _]) rfl rfl rfl rfl rfl rfl rfl rfl rfl ?_
        refine wp_norm [_, _] rfl ?_
        refine op_pure (pv_assign (v := .int .i64 _) rfl) ?_
        refine xp_ret ?_
        refine res_list (vs := [_, _]) Try.results54 ⟨resV_agg 1 rfl rfl rfl rfl rfl (vs := [.slice _ _ _, .slice _ _ _, .slice _ _ _, .slice _ _ _]) rfl, resV_tmp rfl rfl, trivial⟩ fun V => ?_
        exact ⟨(Ext.trans (Ext.trans E1 E3') (ext_wl V)), _, by rw [hE]; rfl, none, none, none, none, 0, 0, 0, 0, by rw [harderV, hE]; rfl, by rw [harderV, hE]; exact seasonR_none⟩
      · skip
        have hfr : inM fr 0 ((s.heats.length : Int) - 1) = true := by simpa using hf
        refine guard_yes rfl hf ?_
        refine op_pure (pv_move (v := .int .i64 _) rfl) ?_
        refine guard_yes rfl hf ?_
        refine op_pure (pv_fieldAddr rfl rfl rfl rfl 0 rfl) ?_
        refine guard_yes rfl hf ?_
        refine op_loadP 0 (v := .slice _ _ _) rfl rfl rfl rfl ?_
        refine guard_yes rfl hf ?_
        refine op_pure (pv_len rfl rfl) ?_
        refine guard_yes rfl hf ?_
        refine op_pure (pv_arith rfl (by omega)) ?_
        refine guard_yes rfl hf ?_
        refine op_fn (caps := []) (vs := [.int .i64 _, .int .i64 _, .int .i64 _]) rfl rfl rfl (rWithin_ok _ _ _ h3') ?_
        rintro _ h4' E4' rfl
        refine guard_yes rfl hf ?_
        refine op_pure (pv_of (v := .bool _) rfl) ?_
        refine op_pure (pv_pickF rfl hf (v := .bool _) rfl) ?_
        refine xp_cond rfl (fun ht => ?_) (fun ht => ?_)
        · skip
          have hto : inM to 0 ((s.heats.length : Int) - 1) = false := by simpa using ht
          have hE : harderE s 1 fr to d = 1 := by rw [harderE, if_neg (by simp [hc0]), if_neg (by decide), if_neg (by simp [hfr]), if_pos (by simp [hto])]
          refine xp_seq ?_
          refine xp_region rfl ?_
          refine op_pure (pv_build (zc := [_, _, _, _]) (vs := []) (cs := [_, _, _, _]) rfl rfl rfl rfl rfl rfl) ?_
          refine op_storeP 1 (v := .agg #[.slice _ _ _, .slice _ _ _, .slice _ _ _, .slice _ _ _]) (vs := [_, _, _, _]) (c' := [_, _, _, _]) rfl rfl rfl rfl rfl rfl rfl rfl rfl ?_
          refine wp_norm [_, _] rfl ?_
          refine op_pure (pv_assign (v := .int .i64 _) rfl) ?_
          refine xp_ret ?_
          refine res_list (vs := [_, _]) Try.results54 ⟨resV_agg 1 rfl rfl rfl rfl rfl (vs := [.slice _ _ _, .slice _ _ _, .slice _ _ _, .slice _ _ _]) rfl, resV_tmp rfl rfl, trivial⟩ fun V => ?_
          exact ⟨(Ext.trans (Ext.trans (Ext.trans E1 E3') E4') (ext_wl V)), _, by rw [hE]; rfl, none, none, none, none, 0, 0, 0, 0, by rw [harderV, hE]; rfl, by rw [harderV, hE]; exact seasonR_none⟩
        · skip
          have hto : inM to 0 ((s.heats.length : Int) - 1) = true := by simpa using ht
          refine xp_skip ?_
          refine xp_seq ?_
          refine xp_seq ?_
          refine xp_region rfl ?_
          refine op_pure (pv_move (v := .int .i64 _) rfl) ?_
          refine op_pure (pv_move (v := .int .i64 _) rfl) ?_
          refine op_pure (pv_of (v := .bool _) rfl) ?_
          refine xp_cond rfl (fun hg => ?_) (fun hg => ?_)
          · skip
            have hgt : fr > to := of_decide_eq_true hg
            have hE : harderE s 1 fr to d = 5 := by rw [harderE, if_neg (by simp [hc0]), if_neg (by decide), if_neg (by simp [hfr]), if_neg (by simp [hto]), if_pos hgt]
            refine xp_seq ?_
            refine xp_region rfl ?_
            refine op_pure (pv_build (zc := [_, _, _, _]) (vs := []) (cs := [_, _, _, _]) rfl rfl rfl rfl rfl rfl) ?_
            refine op_storeP 1 (v := .agg #[.slice _ _ _, .slice _ _ _, .slice _ _ _, .slice _ _ _]) (vs := [_, _, _, _]) (c' := [_, _, _, _]) rfl rfl rfl rfl rfl rfl rfl rfl rfl ?_
            refine wp_norm [_, _] rfl ?_
            refine op_pure (pv_assign (v := .int .i64 _) rfl) ?_
            refine xp_ret ?_
            refine res_list (vs := [_, _]) Try.results54 ⟨resV_agg 1 rfl rfl rfl rfl rfl (vs := [.slice _ _ _, .slice _ _ _, .slice _ _ _, .slice _ _ _]) rfl, resV_tmp rfl rfl, trivial⟩ fun V => ?_
            exact ⟨(Ext.trans (Ext.trans (Ext.trans E1 E3') E4') (ext_wl V)), _, by rw [hE]; rfl, none, none, none, none, 0, 0, 0, 0, by rw [harderV, hE]; rfl, by rw [harderV, hE]; exact seasonR_none⟩
          · skip
            have hgt : ¬ fr > to := of_decide_eq_false hg
            refine xp_skip ?_
            refine xp_seq ?_
            refine xp_seq ?_
            refine xp_region rfl ?_
            refine op_pure (pv_move (v := .int .i64 _) rfl) ?_
            refine op_fn (caps := []) (vs := [.int .i64 _, .int .i64 _, .int .i64 _]) rfl rfl rfl (rWithin_ok _ _ _ h4') ?_
            rintro _ h5' E5' rfl
            refine op_pure (pv_of (v := .bool _) rfl) ?_
            refine xp_cond rfl (fun hb0 => ?_) (fun hb0 => ?_)
            · skip
              have hd : inM d (-150) 150 = false := by simpa using hb0
              have hE : harderE s 1 fr to d = 1 := by rw [harderE, if_neg (by simp [hc0]), if_neg (by decide), if_neg (by simp [hfr]), if_neg (by simp [hto]), if_neg hgt, if_pos (by simp [hd])]
              refine xp_seq ?_
              refine xp_region rfl ?_
              refine op_pure (pv_build (zc := [_, _, _, _]) (vs := []) (cs := [_, _, _, _]) rfl rfl rfl rfl rfl rfl) ?_
              refine op_storeP 1 (v := .agg #[.slice _ _ _, .slice _ _ _, .slice _ _ _, .slice _ _ _]) (vs := [_, _, _, _]) (c' := [_, _, _, _]) rfl rfl rfl rfl rfl rfl rfl rfl rfl ?_
              refine wp_norm [_, _] rfl ?_
              refine op_pure (pv_assign (v := .int .i64 _) rfl) ?_
              refine xp_ret ?_
              refine res_list (vs := [_, _]) Try.results54 ⟨resV_agg 1 rfl rfl rfl rfl rfl (vs := [.slice _ _ _, .slice _ _ _, .slice _ _ _, .slice _ _ _]) rfl, resV_tmp rfl rfl, trivial⟩ fun V => ?_
              exact ⟨(Ext.trans (Ext.trans (Ext.trans (Ext.trans E1 E3') E4') E5') (ext_wl V)), _, by rw [hE]; rfl, none, none, none, none, 0, 0, 0, 0, by rw [harderV, hE]; rfl, by rw [harderV, hE]; exact seasonR_none⟩
            · skip
              have hd : inM d (-150) 150 = true := by simpa using hb0
              have hdb : -150 ≤ d ∧ d ≤ 150 := by unfold inM at hd; simpa using hd
              obtain ⟨a, rfl, hal⟩ := inM_nat hfr
              obtain ⟨z, rfl, hzl⟩ := inM_nat hto
              have ha := hfr
              have hz := hto
              have haz : a ≤ z := by omega
              have hW : harderW s 1 a z d = raisedN s.heats a (z + 1) d := by unfold harderW weatherM; rw [if_pos rfl]; rw [show ((z : Int) + 1).toNat = z + 1 from by omega, Int.toNat_natCast]
              have hb : ∀ r ∈ s.heats, -50 ≤ r.mn ∧ r.mn ≤ r.mx ∧ r.mx ≤ 100 := fun r hr => by have := checkWeather_iff.1 (C.h r hr); omega
              have hall : s.heats.any outR = false := by
                rw [Bool.eq_false_iff]
                intro hany
                obtain ⟨r, hr, ho⟩ := List.any_eq_true.1 hany
                have := hb r hr
                unfold outR inM at ho
                simp at ho
                omega
              refine xp_skip ?_
              refine xp_seq ?_
              refine xp_region rfl ?_
              refine op_loadPA 0 (vs := [.slice _ _ _, .slice _ _ _, .slice _ _ _, .slice _ _ _]) rfl rfl rfl rfl rfl ?_
              refine op_fnMM [_, _] [] [] rfl rfl rfl (copied_ok s A0 A1 A2 A3 c0 c1 c2 c3 h5' (R.ext (Ext.trans (Ext.trans (Ext.trans E1 E3') E4') E5')) (by omega) (by omega) (by omega)) ?_
              rintro _ h5 _ E5 ⟨a0, a1, a2, rfl, rfl, ha0, ha1, ha2⟩
              refine wp_norm [_, _, _, _, _] rfl ?_
              obtain ⟨bH, lenH, capH, junkH, hlH, rfl⟩ := AccR.some ha0 (by intro e; have := flat_len (l := s.heats) (m := 2) (enc := rgC) (fun _ _ => rfl); rw [e] at this; simp at this; omega)
              obtain ⟨bDm, lenDm, capDm, junkDm, hlDm, rfl⟩ := AccR.some ha1 (by intro e; have := flat_len (l := s.damps) (m := 2) (enc := rgC) (fun _ _ => rfl); rw [e] at this; simp at this; omega)
              have eH : lenH = s.heats.length := by rw [flat_len (m := 2) (fun _ _ => rfl)] at hlH; omega
              have eDm : lenDm = s.damps.length := by rw [flat_len (m := 2) (fun _ _ => rfl)] at hlDm; omega
              have hJ : a2.n = s.joints.length := by have := AccR.len ha2; rw [flat_len (m := 9) (fun _ _ => rfl)] at this; omega
              subst eH eDm
              dsimp only
              refine op_alloc (cs := [_, _, _, _]) rfl rfl fun b13_1 hb13_1 => ?_
              refine wp_norm [_, _, _, _, _, _] rfl ?_
              refine op_storeP 5 (v := .agg #[.slice _ _ _, .slice _ _ _, .slice _ _ _, .slice _ _ _]) (vs := [_, _, _, _]) (c' := [_, _, _, _]) rfl rfl rfl rfl rfl rfl rfl rfl rfl ?_
              refine wp_norm [_, _, _, _, _, _] rfl ?_
              refine xp_seq ?_
              refine xp_region rfl ?_
              refine op_loadPA 5 (vs := [.slice _ _ _, .slice _ _ _, .slice _ _ _, .slice _ _ _]) rfl rfl rfl rfl rfl ?_
              refine op_pure (pv_move (v := .int .i64 _) rfl) ?_
              refine op_fn (caps := []) (vs := [.agg #[.slice _ _ _, .slice _ _ _, .slice _ _ _, .slice _ _ _], .int .i64 _]) rfl rfl rfl (ranges_ok _ _ _ _ _ _ _ _ _ _ _ _ _ h5) ?_
              rintro _ h6 E6 rfl
              rw [if_pos rfl]
              refine op_pure (pv_assign (v := .slice _ _ _) rfl) ?_
              refine xp_seq ?_
              refine xp_seq ?_
              refine xp_region rfl ?_
              refine op_pure (pv_move (v := .int .i64 _) rfl) ?_
              refine op_pure (pv_assign (v := .int .i64 _) rfl) ?_
              refine xp_block ?_
              refine xp_loopL [11, 15, 60, 61, 62, 63, 64, 65, 66, 67, 68, 69, 70, 71, 72, 73, 74, 75, 76, 77, 78, 79, 80, 81, 82, 83, 84, 85, 86, 87, 88, 89, 90, 91, 92, 93, 94, 95, 96, 97, 98, 99] 6 (α := Nat) (fun w => [(15, .int .i64 w)]) (fun w L => L.set 2 (some (bH, .cells ((raisedN s.heats a w d).flatMap rgC ++ junkH).toArray 51 (0, 0)))) (fun w h_w => (a ≤ w ∧ w ≤ z + 1) ∧ (raisedN s.heats a w d).any outR = false) (fun w => z + 1 - w) (a) ⟨rfl, trivial⟩ (by rw [raisedN_zero]; rfl) (⟨⟨Nat.le_refl _, by omega⟩, by rw [raisedN_zero]; exact hall⟩) ?_
              rintro w T2 h_w E_w J_w
              refine goes_norm [_, _, _, _, _, _] rfl ?_
              obtain ⟨⟨K1, K2⟩, K3⟩ := J_w
              refine xp_seq ?_
              refine xp_seq ?_
              refine xp_region rfl ?_
              refine op_pure (pv_move (v := .int .i64 _) rfl) ?_
              refine op_pure (pv_move (v := .int .i64 _) rfl) ?_
              refine op_pure (pv_of (v := .bool _) rfl) ?_
              refine xp_cond rfl (fun ht => ?_) (fun ht => ?_)
              · skip
                have hwz : w ≤ z := by have := of_decide_eq_true ht; omega
                have hwl : w < s.heats.length := by omega
                have hrk := hb _ (List.getElem_mem hwl)
                have hkr : w < (raisedN s.heats a w d).length := by rw [raisedN_len]; exact hwl
                have hat := raisedN_at (a := a) d hwl
                have hat2 : (raisedN s.heats a (w + 1) d)[w]? = some (upR s.heats[w] d) := by rw [raisedN_get, List.getElem?_eq_getElem hwl]; simp [K1]
                have hoff : 0 + (w : Int).toNat * 2 = w * 2 := by omega
                refine xp_skip ?_
                refine xp_seq ?_
                refine xp_block ?_
                refine xp_seq ?_
                refine xp_dw [] rfl rfl rfl ?_
                refine dw_pure (i := 0) rfl (by decide +kernel) (pv_move (v := .slice _ _ _) rfl) ?_
                refine dw_pure (i := 1) rfl (by decide +kernel) (pv_move (v := .int .i64 _) rfl) ?_
                refine dw_pure (i := 2) rfl (by decide +kernel) (pv_move (v := .slice _ _ _) rfl) ?_
                refine dw_pure (i := 3) rfl (by decide +kernel) (pv_move (v := .int .i64 _) rfl) ?_
                refine dw_pure (i := 4) rfl (by decide +kernel) (pv_index rfl rfl rfl rfl (by omega) (by omega)) ?_
                refine dw_pure (i := 5) rfl (by decide +kernel) (pv_fieldAddr rfl rfl rfl rfl _ rfl) ?_
                refine dw_load (i := 6) rfl (by decide +kernel) ?_
                refine op_loadP 2 (v := .int .i64 s.heats[w].mn) (off := 0 + (w : Int).toNat * 2) rfl rfl rfl (by rw [hoff]; simpa using rg_mn (junk := junkH) hat) ?_
                refine dw_pure (i := 7) rfl (by decide +kernel) (pv_move (v := .int .i64 _) rfl) ?_
                refine dw_pure (i := 8) rfl (by decide +kernel) (pv_arith rfl (by omega)) ?_
                refine dw_pure (i := 9) rfl (by decide +kernel) (pv_move (v := .slice _ _ _) rfl) ?_
                refine dw_pure (i := 10) rfl (by decide +kernel) (pv_move (v := .int .i64 _) rfl) ?_
                refine dw_pure (i := 11) rfl (by decide +kernel) (pv_index rfl rfl rfl rfl (by omega) (by omega)) ?_
                refine dw_pure (i := 12) rfl (by decide +kernel) (pv_fieldAddr rfl rfl rfl rfl _ rfl) ?_
                refine dw_load (i := 13) rfl (by decide +kernel) ?_
                refine op_loadP 2 (v := .int .i64 s.heats[w].mx) (off := 0 + (w : Int).toNat * 2 + 1) rfl rfl rfl (by rw [hoff]; simpa using rg_mx (junk := junkH) hat) ?_
                refine dw_pure (i := 14) rfl (by decide +kernel) (pv_move (v := .int .i64 _) rfl) ?_
                refine dw_pure (i := 15) rfl (by decide +kernel) (pv_arith rfl (by omega)) ?_
                refine dw_pure (i := 16) rfl (by decide +kernel) (pv_build (zc := [_, _]) (vs := [(0, .int .i64 _), (1, .int .i64 _)]) (cs := [_, _]) rfl rfl rfl rfl rfl rfl) ?_
                refine dw_pure (i := 17) rfl (by decide +kernel) (pv_index rfl rfl rfl rfl (by omega) (by omega)) ?_
                refine dw_last (i := 18) rfl (by decide +kernel) (by decide +kernel) ?_
                refine op_storeP 2 (v := .agg #[.int .i64 _, .int .i64 _]) (vs := [.int .i64 (s.heats[w].mn + d), .int .i64 (s.heats[w].mx + d)]) (off := 0 + (w : Int).toNat * 2) (c' := (raisedN s.heats a (w + 1) d).flatMap rgC ++ junkH) rfl rfl rfl rfl rfl rfl (Nat.ble_eq_true_of_le (by show 0 + (w : Int).toNat * 2 + 2 ≤ _; rw [List.length_append, flat_len (m := 2) (fun _ _ => rfl), raisedN_len]; omega)) rfl (by rw [hoff, rg_wr hkr, ← raisedN_succ d K1 hwl]; rfl) ?_
                refine dw_norm [_, _, _, _, _, _] rfl ?_
                refine dw_end rfl ?_
                refine xp_seq ?_
                refine xp_region rfl ?_
                refine op_pure (pv_move (v := .slice _ _ _) rfl) ?_
                refine op_pure (pv_move (v := .int .i64 _) rfl) ?_
                refine op_pure (pv_index rfl rfl rfl rfl (by omega) (by omega)) ?_
                refine op_pure (pv_fieldAddr rfl rfl rfl rfl _ rfl) ?_
                refine op_loadP 2 (v := .int .i64 (s.heats[w].mn + d)) (off := 0 + (w : Int).toNat * 2) rfl rfl rfl (by rw [hoff]; simpa [upR] using rg_mn (junk := junkH) hat2) ?_
                refine op_fn (caps := []) (vs := [.int .i64 _, .int .i64 _, .int .i64 _]) rfl rfl rfl (rWithin_ok _ _ _ h_w) ?_
                rintro _ h7 E7 rfl
                refine op_pure (pv_of (v := .bool _) rfl) ?_
                refine op_pure (pv_move (v := .bool _) rfl) ?_
                have hbad : outR (upR s.heats[w] d) = true → harderE s 1 a z d = 1 := fun ho => by
                  have hany : (raisedN s.heats a (z + 1) d).any outR = true := by
                    rw [List.any_eq_true]
                    have hg : (raisedN s.heats a (z + 1) d)[w]? = some (upR s.heats[w] d) := by rw [raisedN_get, List.getElem?_eq_getElem hwl]; simp [K1]; omega
                    exact ⟨_, List.mem_of_getElem? hg, ho⟩
                  rw [harderE, if_neg (by simp [hc0]), if_neg (by decide), if_neg (by simp [ha]), if_neg (by simp [hz]), if_neg (by omega), if_neg (by simp [hd]), hW, if_pos hany]
                rcases Bool.eq_false_or_eq_true (!inM (s.heats[w].mn + d) (-50) 100) with x1 | x1
                · skip
                  have hE := hbad (by unfold outR upR; simp only; rw [x1]; rfl)
                  refine guard_no rfl x1 ?_
                  refine guard_no rfl x1 ?_
                  refine guard_no rfl x1 ?_
                  refine guard_no rfl x1 ?_
                  refine guard_no rfl x1 ?_
                  refine guard_no rfl x1 ?_
                  refine guard_no rfl x1 ?_
                  refine op_pure (pv_pickT rfl x1 (v := .bool _) rfl) ?_
                  refine xp_condT rfl (rfl) ?_
                  refine xp_seq ?_
                  refine xp_region rfl ?_
                  refine op_pure (pv_build (zc := [_, _, _, _]) (vs := []) (cs := [_, _, _, _]) rfl rfl rfl rfl rfl rfl) ?_
                  refine op_storeP 1 (v := .agg #[.slice _ _ _, .slice _ _ _, .slice _ _ _, .slice _ _ _]) (vs := [_, _, _, _]) (c' := [_, _, _, _]) rfl rfl rfl rfl rfl rfl rfl rfl rfl ?_
                  refine wp_norm [_, _, _, _, _, _] rfl ?_
                  refine op_pure (pv_assign (v := .int .i64 _) rfl) ?_
                  refine xp_ret ?_
                  refine res_list (vs := [_, _]) Try.results54 ⟨resV_agg 1 rfl rfl rfl rfl rfl (vs := [.slice _ _ _, .slice _ _ _, .slice _ _ _, .slice _ _ _]) rfl, resV_tmp rfl rfl, trivial⟩ fun V => ?_
                  exact ⟨(Ext.trans (Ext.trans (Ext.trans (Ext.trans (Ext.trans (Ext.trans (Ext.trans (Ext.trans E1 E3') E4') E5') E5) E6) E_w) E7) (ext_wl V)), _, by rw [hE]; rfl, none, none, none, none, 0, 0, 0, 0, by rw [harderV, hE]; rfl, by rw [harderV, hE]; exact seasonR_none⟩
                · skip
                  refine guard_yes rfl x1 ?_
                  refine op_pure (pv_move (v := .slice _ _ _) rfl) ?_
                  refine guard_yes rfl x1 ?_
                  refine op_pure (pv_move (v := .int .i64 _) rfl) ?_
                  refine guard_yes rfl x1 ?_
                  refine op_pure (pv_index rfl rfl rfl rfl (by omega) (by omega)) ?_
                  refine guard_yes rfl x1 ?_
                  refine op_pure (pv_fieldAddr rfl rfl rfl rfl _ rfl) ?_
                  refine guard_yes rfl x1 ?_
                  refine op_loadP 2 (v := .int .i64 (s.heats[w].mx + d)) (off := 0 + (w : Int).toNat * 2 + 1) rfl rfl rfl (by rw [hoff]; simpa [upR] using rg_mx (junk := junkH) hat2) ?_
                  refine guard_yes rfl x1 ?_
                  refine op_fn (caps := []) (vs := [.int .i64 _, .int .i64 _, .int .i64 _]) rfl rfl rfl (rWithin_ok _ _ _ h7) ?_
                  rintro _ h8 E8 rfl
                  refine guard_yes rfl x1 ?_
                  refine op_pure (pv_of (v := .bool _) rfl) ?_
                  refine op_pure (pv_pickF rfl x1 (v := .bool _) rfl) ?_
                  refine xp_cond rfl (fun x2 => ?_) (fun x2 => ?_)
                  · skip
                    have hE := hbad (by unfold outR upR; simp only; rw [x1]; exact x2)
                    refine xp_seq ?_
                    refine xp_region rfl ?_
                    refine op_pure (pv_build (zc := [_, _, _, _]) (vs := []) (cs := [_, _, _, _]) rfl rfl rfl rfl rfl rfl) ?_
                    refine op_storeP 1 (v := .agg #[.slice _ _ _, .slice _ _ _, .slice _ _ _, .slice _ _ _]) (vs := [_, _, _, _]) (c' := [_, _, _, _]) rfl rfl rfl rfl rfl rfl rfl rfl rfl ?_
                    refine wp_norm [_, _, _, _, _, _] rfl ?_
                    refine op_pure (pv_assign (v := .int .i64 _) rfl) ?_
                    refine xp_ret ?_
                    refine res_list (vs := [_, _]) Try.results54 ⟨resV_agg 1 rfl rfl rfl rfl rfl (vs := [.slice _ _ _, .slice _ _ _, .slice _ _ _, .slice _ _ _]) rfl, resV_tmp rfl rfl, trivial⟩ fun V => ?_
                    exact ⟨(Ext.trans (Ext.trans (Ext.trans (Ext.trans (Ext.trans (Ext.trans (Ext.trans (Ext.trans (Ext.trans E1 E3') E4') E5') E5) E6) E_w) E7) E8) (ext_wl V)), _, by rw [hE]; rfl, none, none, none, none, 0, 0, 0, 0, by rw [harderV, hE]; rfl, by rw [harderV, hE]; exact seasonR_none⟩
                  · skip
                    have x2' : (!inM (s.heats[w].mx + d) (-50) 100) = false := x2
                    have hno : outR (upR s.heats[w] d) = false := by unfold outR upR; simp only; rw [x1, x2']; rfl
                    have hnx : (raisedN s.heats a (w + 1) d).any outR = false := by
                      rw [← raisedN_succ d K1 hwl, Bool.eq_false_iff]
                      intro hany
                      obtain ⟨r, hr, ho⟩ := List.any_eq_true.1 hany
                      rcases List.mem_or_eq_of_mem_set hr with h1 | h1
                      · have : (raisedN s.heats a w d).any outR = true := List.any_eq_true.2 ⟨r, h1, ho⟩
                        rw [K3] at this; cases this
                      · rw [h1, hno] at ho; cases ho
                    refine xp_skip ?_
                    refine xp_region rfl ?_
                    refine op_pure (pv_move (v := .int .i64 _) rfl) ?_
                    refine op_pure (pv_arith rfl (by omega)) ?_
                    refine op_pure (pv_assign (v := .int .i64 _) rfl) ?_
                    refine ⟨w + 1, ⟨rfl, trivial⟩, rfl, rfl, (Ext.trans (Ext.trans E_w E7) E8), fun h3 E3 => ⟨⟨by omega, by omega⟩, hnx⟩, by first | omega | (dsimp only; omega), ?_⟩
                    repeat (first | exact off_base _ _ _ | refine off_upd (by decide) ?_ | refine off_updL rfl ?_ | refine off_mix rfl ?_)
              · skip
                have hwe : w = z + 1 := by have := of_decide_eq_false ht; omega
                subst hwe
                have hE : harderE s 1 a z d = 0 := by rw [harderE, if_neg (by simp [hc0]), if_neg (by decide), if_neg (by simp [ha]), if_neg (by simp [hz]), if_neg (by omega), if_neg (by simp [hd]), hW, if_neg (by simp [K3])]
                refine goes_pub 2 rfl ?_
                intro h9 E9 p9
                refine goes_pub 3 rfl ?_
                intro h10 E10 p10
                refine goes_pubO 4 rfl ?_
                intro h11 E11 p11
                refine goes_norm [_, _, _, _, _, _] rfl ?_
                have hv : harderV s 1 a z d = { s with heats := raisedN s.heats a (z + 1) d, reports := [] } := by rw [harderV, if_pos hE, harderS, if_pos rfl, hW]
                have hln := raisedN_len s.heats a (z + 1) d
                refine xp_exit ?_
                refine xp_seq ?_
                refine xp_region rfl ?_
                refine op_loadPA 5 (vs := [.slice _ _ _, .slice _ _ _, .slice _ _ _, .slice _ _ _]) rfl rfl rfl rfl rfl ?_
                refine op_storeP 1 (v := .agg #[.slice _ _ _, .slice _ _ _, .slice _ _ _, .slice _ _ _]) (vs := [_, _, _, _]) (c' := [_, _, _, _]) rfl rfl rfl rfl rfl rfl rfl rfl rfl ?_
                refine wp_norm [_, _, _, _, _, _] rfl ?_
                refine op_pure (pv_assign (v := .int .i64 _) rfl) ?_
                refine xp_ret ?_
                refine res_list (vs := [_, _]) Try.results54 ⟨resV_agg 1 rfl rfl rfl rfl rfl (vs := [.slice _ _ _, .slice _ _ _, .slice _ _ _, .slice _ _ _]) rfl, resV_tmp rfl rfl, trivial⟩ fun V => ?_
                refine ⟨(Ext.trans (Ext.trans (Ext.trans (Ext.trans (Ext.trans (Ext.trans (Ext.trans (Ext.trans (Ext.trans (Ext.trans E1 E3') E4') E5') E5) E6) E_w) E9) E10) E11) (ext_wl V)), _, by rw [hE]; rfl, some ⟨bH, 0, none⟩, some ⟨bDm, 0, none⟩, a2.A, none, capH, capDm, a2.c, 0, ?_, ?_⟩
                · rw [hv]
                  unfold seasonV
                  rw [hJ]
                  simp only [hln]
                  rfl
                · rw [hv]
                  exact ⟨(rg_row p9).ext (Ext.trans (Ext.trans E10 E11) (ext_wl V)), (rg_row p10).ext (Ext.trans E11 (ext_wl V)), ⟨fun _ _ => rfl, (AccR.rd ha2 p11).ext (ext_wl V)⟩, ⟨fun _ h => (by cases h), Rd.nil _ _⟩⟩
end Go.Proofs.Ytndfkbapoinmkaa
/- Plain: least and greatest weeks, and what comes first, as the reference reckons it. Conditions: as each theorem states. -/
namespace Go.Proofs.Ytndfkbapoinmkaa
open Go Go.HL Go.Proofs Go.Wx
section
variable {l : List Fl} (h0 : l ≠ []) (h6 : ∀ y ∈ l, y.week ≤ 6)
include h0 h6
end
section
variable {s : Season} (SV : SeasonV s) {x y : List Int} (hx : x ∈ rSk s 1) (hy : y ∈ rSk s 2)
include SV
include hx hy
end
end Go.Proofs.Ytndfkbapoinmkaa
/- Walks: the weather of a season, and the weeks of joints (the reference). Conditions: as each theorem states. -/
namespace Go.Proofs.Ytndfkbapoinmkaa
open Go Go.HL Go.Proofs Go.Wx
set_option maxRecDepth 100000
end Go.Proofs.Ytndfkbapoinmkaa
/- Walks: the weeks of joints with a weather for each kind (the reference). Conditions: as each theorem states. -/
namespace Go.Proofs.Ytndfkbapoinmkaa
open Go Go.HL Go.Proofs Go.Wx
set_option maxRecDepth 100000
end Go.Proofs.Ytndfkbapoinmkaa
/- Walks: which joints can fail first (the reference). Conditions: as each theorem states. -/
namespace Go.Proofs.Ytndfkbapoinmkaa
open Go Go.HL Go.Proofs Go.Wx
set_option maxRecDepth 100000
end Go.Proofs.Ytndfkbapoinmkaa
/- Walks: how many joints are sound (the reference). Conditions: as each theorem states. -/
namespace Go.Proofs.Ytndfkbapoinmkaa
open Go Go.HL Go.Proofs Go.Wx
set_option maxRecDepth 100000
end Go.Proofs.Ytndfkbapoinmkaa
/- Walks: the law on what truly is so. Conditions: as each theorem states. -/
namespace Go.Proofs.Ytndfkbapoinmkaa
open Go Go.HL Go.Proofs Go.Wx Go.RowKit
set_option maxRecDepth 100000
end Go.Proofs.Ytndfkbapoinmkaa
/- Walks: the law on what is known better. Conditions: as each theorem states. -/
namespace Go.Proofs.Ytndfkbapoinmkaa
open Go Go.HL Go.Proofs Go.Wx Go.RowKit
set_option maxRecDepth 100000
structure BetA where
  y : Nat
  xs : Season
  X0 : Option Addr
  X1 : Option Addr
  X2 : Option Addr
  X3 : Option Addr
  k0 : Nat
  k1 : Nat
  k2 : Nat
  k3 : Nat
end Go.Proofs.Ytndfkbapoinmkaa
/- Walks: which seasons are gone through; a season copied. Conditions: as each theorem states. -/
namespace Go.Proofs.Ytndfkbapoinmkaa
open Go Go.HL Go.Proofs Go.Wx
set_option maxRecDepth 100000
set_option maxHeartbeats 1000000 in
theorem CopySeasonT_ok (s : Season) (A0 A1 A2 A3 : Option Addr) (c0 c1 c2 c3 : Nat) (h : AH) (R : SeasonR h A0 A1 A2 A3 s) (h0 : s.heats.length < 2 ^ 20) (h1 : s.damps.length < 2 ^ 20) (h2 : s.joints.length < 2 ^ 20) (h3 : s.reports.length < 2 ^ 20) :
    FnT Try.prog 23 #[seasonV A0 A1 A2 A3 c0 c1 c2 c3 s] h (fun v h' => SeasonS h' s v) := by
  refine call_body Try.func23 rfl Try.ntmps23 rfl ?_
  refine xp_seq ?_
  refine xp_region rfl ?_
  refine op_box (v := .agg #[.slice _ _ _, .slice _ _ _, .slice _ _ _, .slice _ _ _]) (cs := [_, _, _, _]) rfl rfl fun b1 hb1 => ?_
  refine wp_norm [_] rfl ?_
  refine op_alloc (cs := [_, _, _, _]) rfl rfl fun b2 hb2 => ?_
  refine wp_norm [_, _] rfl ?_
  refine xp_seq ?_
  refine xp_dw [false, false, true, true, true, true] rfl rfl rfl ?_
  refine dw_pure (i := 0) rfl (by decide +kernel) (pv_fieldAddr rfl rfl rfl rfl 0 rfl) ?_
  refine dw_load (i := 1) rfl (by decide +kernel) ?_
  refine op_loadP 0 (v := .slice _ _ _) rfl rfl rfl rfl ?_
  refine dw_pure (i := 3) rfl (by decide +kernel) (pv_fieldAddr rfl rfl rfl rfl 1 rfl) ?_
  refine dw_load (i := 4) rfl (by decide +kernel) ?_
  refine op_loadP 0 (v := .slice _ _ _) rfl rfl rfl rfl ?_
  refine dw_pure (i := 7) rfl (by decide +kernel) (pv_fieldAddr rfl rfl rfl rfl 2 rfl) ?_
  refine dw_load (i := 8) rfl (by decide +kernel) ?_
  refine op_loadP 0 (v := .slice _ _ _) rfl rfl rfl rfl ?_
  refine dw_pure (i := 11) rfl (by decide +kernel) (pv_fieldAddr rfl rfl rfl rfl 3 rfl) ?_
  refine dw_load (i := 12) rfl (by decide +kernel) ?_
  refine op_loadP 0 (v := .slice _ _ _) rfl rfl rfl rfl ?_
  refine dw_eff (i := 2) rfl (by decide +kernel) ?_
  refine op_fnMM [_, _] [] [] rfl rfl rfl (Ranges_ok s.heats A0 c0 h (R.heats.ext (Ext.refl _)) h0) ?_
  rintro _ g0 _ G0 ⟨a0, rfl, rfl, ha0⟩
  refine ⟨ext_wlm G0 _, ?_⟩
  refine dw_norm [_, _, _] rfl ?_
  refine dw_pure (i := 14) rfl (by decide +kernel) (pv_fieldAddr rfl rfl rfl rfl 0 rfl) ?_
  refine dw_eff (i := 5) rfl (by decide +kernel) ?_
  refine op_fnMM [_, _, _] [] [] rfl rfl rfl (Ranges_ok s.damps A1 c1 g0 (R.damps.ext G0) h1) ?_
  rintro _ g1 _ G1 ⟨a1, rfl, rfl, ha1⟩
  refine ⟨ext_wlm G1 _, ?_⟩
  refine dw_norm [_, _, _, _] rfl ?_
  refine dw_eff (i := 6) rfl (by decide +kernel) ?_
  refine op_buildSlice (zc := [_, _, _, _, _, _, _, _, _]) (vs := []) (cs := []) rfl rfl rfl rfl rfl rfl rfl fun b9 hb9 => ?_
  refine ⟨ext_newM hb9 _, ?_⟩
  refine dw_norm [_, _, _, _, _] rfl ?_
  refine dw_eff (i := 9) rfl (by decide +kernel) ?_
  refine op_appendR 4 accR_new rfl rfl rfl (fun V => R.joints.2.ext (Ext.trans (Ext.trans G0 G1) (ext_wl V))) (flat_len R.joints.1) (flat_plain jointP s.joints) rfl rfl rfl rfl rfl rfl rfl (by omega) rfl (by rw [flat_len R.joints.1, List.length_nil]; omega) fun a2 h1a E1a ha2 => ?_
  refine ⟨ext_wlm E1a _, ?_⟩
  refine dw_norm [_, _, _, _, _] rfl ?_
  refine dw_eff (i := 10) rfl (by decide +kernel) ?_
  refine op_buildSlice (zc := [_, _, _]) (vs := []) (cs := []) rfl rfl rfl rfl rfl rfl rfl fun b13 hb13 => ?_
  refine ⟨ext_newM hb13 _, ?_⟩
  refine dw_norm [_, _, _, _, _, _] rfl ?_
  refine dw_last (i := 13) rfl (by decide +kernel) (by decide +kernel) ?_
  refine op_appendR 5 accR_new rfl rfl rfl (fun V => R.reports.2.ext (Ext.trans (Ext.trans (Ext.trans G0 G1) E1a) (ext_wl V))) (flat_len R.reports.1) (flat_plain seenP s.reports) rfl rfl rfl rfl rfl rfl rfl (by omega) rfl (by rw [flat_len R.reports.1, List.length_nil]; omega) fun a3 h2a E2a ha3 => ?_
  refine dw_norm [_, _, _, _, _, _] rfl ?_
  refine dw_last (i := 15) rfl (by decide +kernel) (by decide +kernel) ?_
  refine op_storeP 0 (v := .slice _ _ _) (vs := [_]) (c' := [_, _, _, _]) rfl rfl rfl rfl rfl rfl rfl rfl rfl ?_
  refine dw_norm [_, _, _, _, _, _] rfl ?_
  refine dw_pure (i := 16) rfl (by decide +kernel) (pv_fieldAddr rfl rfl rfl rfl 1 rfl) ?_
  refine dw_last (i := 17) rfl (by decide +kernel) (by decide +kernel) ?_
  refine op_storeP 0 (v := .slice _ _ _) (vs := [_]) (c' := [_, _, _, _]) rfl rfl rfl rfl rfl rfl rfl rfl rfl ?_
  refine dw_norm [_, _, _, _, _, _] rfl ?_
  refine dw_pure (i := 18) rfl (by decide +kernel) (pv_fieldAddr rfl rfl rfl rfl 2 rfl) ?_
  refine dw_last (i := 19) rfl (by decide +kernel) (by decide +kernel) ?_
  refine op_storeP 0 (v := .slice _ _ _) (vs := [_]) (c' := [_, _, _, _]) rfl rfl rfl rfl rfl rfl rfl rfl rfl ?_
  refine dw_norm [_, _, _, _, _, _] rfl ?_
  refine dw_pure (i := 20) rfl (by decide +kernel) (pv_fieldAddr rfl rfl rfl rfl 3 rfl) ?_
  refine dw_last (i := 21) rfl (by decide +kernel) (by decide +kernel) ?_
  refine op_storeP 0 (v := .slice _ _ _) (vs := [_]) (c' := [_, _, _, _]) rfl rfl rfl rfl rfl rfl rfl rfl rfl ?_
  refine dw_norm [_, _, _, _, _, _] rfl ?_
  refine dw_end rfl ?_
  refine xp_seq ?_
  refine xp_region rfl ?_
  refine op_loadPA 0 (vs := [.slice _ _ _, .slice _ _ _, .slice _ _ _, .slice _ _ _]) rfl rfl rfl rfl rfl ?_
  refine op_storeP 1 (v := .agg #[.slice _ _ _, .slice _ _ _, .slice _ _ _, .slice _ _ _]) (vs := [_, _, _, _]) (c' := [_, _, _, _]) rfl rfl rfl rfl rfl rfl rfl rfl rfl ?_
  refine wp_norm [_, _, _, _, _, _] rfl ?_
  rw [List.nil_append] at ha2 ha3
  refine goes_pubO 2 rfl ?_
  intro k0 K0 P0
  refine goes_norm [_, _, _, _, _, _] rfl ?_
  refine goes_pubO 3 rfl ?_
  intro k1 K1 P1
  refine goes_norm [_, _, _, _, _, _] rfl ?_
  refine goes_pubO 4 rfl ?_
  intro k2 K2 P2
  refine goes_norm [_, _, _, _, _, _] rfl ?_
  refine goes_pubO 5 rfl ?_
  intro k3 K3 P3
  refine goes_norm [_, _, _, _, _, _] rfl ?_
  have n0 : a0.n = s.heats.length := by have := AccR.len ha0; rw [flat_len (m := 2) (fun _ _ => rfl)] at this; omega
  have n1 : a1.n = s.damps.length := by have := AccR.len ha1; rw [flat_len (m := 2) (fun _ _ => rfl)] at this; omega
  have n2 : a2.n = s.joints.length := by have := AccR.len ha2; rw [flat_len (m := 9) (fun _ _ => rfl)] at this; omega
  have n3 : a3.n = s.reports.length := by have := AccR.len ha3; rw [flat_len (m := 3) (fun _ _ => rfl)] at this; omega
  refine xp_ret ?_
  refine res_list (vs := [_]) Try.results23 ⟨resV_agg 1 rfl rfl rfl rfl rfl (vs := [.slice _ _ _, .slice _ _ _, .slice _ _ _, .slice _ _ _]) rfl, trivial⟩ fun V => ?_
  refine ⟨(Ext.trans (Ext.trans (Ext.trans (Ext.trans (Ext.trans (Ext.trans (Ext.trans (Ext.trans G0 G1) E1a) E2a) K0) K1) K2) K3) (ext_wl V)), a0.A, a1.A, a2.A, a3.A, a0.c, a1.c, a2.c, a3.c, ?_, ⟨⟨fun _ _ => rfl, (AccR.rd ha0 P0).ext (Ext.trans (Ext.trans (Ext.trans K1 K2) K3) (ext_wl V))⟩, ⟨fun _ _ => rfl, (AccR.rd ha1 P1).ext (Ext.trans (Ext.trans K2 K3) (ext_wl V))⟩, ⟨fun _ _ => rfl, (AccR.rd ha2 P2).ext (Ext.trans K3 (ext_wl V))⟩, ⟨fun _ _ => rfl, (AccR.rd ha3 P3).ext (ext_wl V)⟩⟩⟩
  unfold seasonV
  rw [← n0, ← n1, ← n2, ← n3]
  rfl
theorem many_ok (s : Season) (A0 A1 A2 A3 : Option Addr) (c0 c1 c2 c3 : Nat) (h : AH) :
    FnT Try.prog 71 #[seasonV A0 A1 A2 A3 c0 c1 c2 c3 s] h (fun v _ => ∃ b, v = .bool b ∧ (b = false → s.heats.length ≤ 20 ∧ s.damps.length ≤ 20 ∧ s.joints.length ≤ 20 ∧ s.reports.length ≤ 20)) := by
  refine call_body Try.func71 rfl Try.ntmps71 rfl ?_
  refine xp_seq ?_
  refine xp_region rfl ?_
  refine op_box (v := .agg #[.slice _ _ _, .slice _ _ _, .slice _ _ _, .slice _ _ _]) (cs := [_, _, _, _]) rfl rfl fun b1 hb1 => ?_
  refine wp_norm [_] rfl ?_
  refine op_pure (pv_assign (v := .bool _) rfl) ?_
  refine xp_seq ?_
  refine xp_region rfl ?_
  refine op_pure (pv_fieldAddr rfl rfl rfl rfl 0 rfl) ?_
  refine op_loadP 0 (v := .slice _ _ _) rfl rfl rfl rfl ?_
  refine op_pure (pv_len rfl rfl) ?_
  refine op_pure (pv_of (v := .bool _) rfl) ?_
  refine op_pure (pv_move (v := .bool _) rfl) ?_
  rcases Bool.eq_false_or_eq_true (decide ((s.heats.length : Int) > 20)) with e1 | e1
  · skip
    refine guard_no rfl e1 ?_
    refine guard_no rfl e1 ?_
    refine guard_no rfl e1 ?_
    refine guard_no rfl e1 ?_
    refine op_pure (pv_pickT rfl e1 (v := .bool _) rfl) ?_
    refine op_pure (pv_move (v := .bool _) rfl) ?_
    refine guard_no rfl rfl ?_
    refine guard_no rfl rfl ?_
    refine guard_no rfl rfl ?_
    refine guard_no rfl rfl ?_
    refine op_pure (pv_pickT rfl rfl (v := .bool _) rfl) ?_
    refine op_pure (pv_move (v := .bool _) rfl) ?_
    refine guard_no rfl rfl ?_
    refine guard_no rfl rfl ?_
    refine guard_no rfl rfl ?_
    refine guard_no rfl rfl ?_
    refine op_pure (pv_pickT rfl rfl (v := .bool _) rfl) ?_
    refine op_pure (pv_assign (v := .bool _) rfl) ?_
    refine xp_ret ?_
    refine res_list (vs := [_]) Try.results71 ⟨resV_tmp rfl rfl, trivial⟩ fun V => ?_
    exact ⟨(ext_wl V), true, rfl, fun h => by cases h⟩
  · skip
    refine guard_yes rfl e1 ?_
    refine op_pure (pv_fieldAddr rfl rfl rfl rfl 1 rfl) ?_
    refine guard_yes rfl e1 ?_
    refine op_loadP 0 (v := .slice _ _ _) rfl rfl rfl rfl ?_
    refine guard_yes rfl e1 ?_
    refine op_pure (pv_len rfl rfl) ?_
    refine guard_yes rfl e1 ?_
    refine op_pure (pv_of (v := .bool _) rfl) ?_
    refine op_pure (pv_pickF rfl e1 (v := .bool _) rfl) ?_
    refine op_pure (pv_move (v := .bool _) rfl) ?_
    rcases Bool.eq_false_or_eq_true (decide ((s.damps.length : Int) > 20)) with e2 | e2
    · skip
      refine guard_no rfl e2 ?_
      refine guard_no rfl e2 ?_
      refine guard_no rfl e2 ?_
      refine guard_no rfl e2 ?_
      refine op_pure (pv_pickT rfl e2 (v := .bool _) rfl) ?_
      refine op_pure (pv_move (v := .bool _) rfl) ?_
      refine guard_no rfl rfl ?_
      refine guard_no rfl rfl ?_
      refine guard_no rfl rfl ?_
      refine guard_no rfl rfl ?_
      refine op_pure (pv_pickT rfl rfl (v := .bool _) rfl) ?_
      refine op_pure (pv_assign (v := .bool _) rfl) ?_
      refine xp_ret ?_
      refine res_list (vs := [_]) Try.results71 ⟨resV_tmp rfl rfl, trivial⟩ fun V => ?_
      exact ⟨(ext_wl V), true, rfl, fun h => by cases h⟩
    · skip
      refine guard_yes rfl e2 ?_
      refine op_pure (pv_fieldAddr rfl rfl rfl rfl 2 rfl) ?_
      refine guard_yes rfl e2 ?_
      refine op_loadP 0 (v := .slice _ _ _) rfl rfl rfl rfl ?_
      refine guard_yes rfl e2 ?_
      refine op_pure (pv_len rfl rfl) ?_
      refine guard_yes rfl e2 ?_
      refine op_pure (pv_of (v := .bool _) rfl) ?_
      refine op_pure (pv_pickF rfl e2 (v := .bool _) rfl) ?_
      refine op_pure (pv_move (v := .bool _) rfl) ?_
      rcases Bool.eq_false_or_eq_true (decide ((s.joints.length : Int) > 20)) with e3 | e3
      · skip
        refine guard_no rfl e3 ?_
        refine guard_no rfl e3 ?_
        refine guard_no rfl e3 ?_
        refine guard_no rfl e3 ?_
        refine op_pure (pv_pickT rfl e3 (v := .bool _) rfl) ?_
        refine op_pure (pv_assign (v := .bool _) rfl) ?_
        refine xp_ret ?_
        refine res_list (vs := [_]) Try.results71 ⟨resV_tmp rfl rfl, trivial⟩ fun V => ?_
        exact ⟨(ext_wl V), true, rfl, fun h => by cases h⟩
      · skip
        refine guard_yes rfl e3 ?_
        refine op_pure (pv_fieldAddr rfl rfl rfl rfl 3 rfl) ?_
        refine guard_yes rfl e3 ?_
        refine op_loadP 0 (v := .slice _ _ _) rfl rfl rfl rfl ?_
        refine guard_yes rfl e3 ?_
        refine op_pure (pv_len rfl rfl) ?_
        refine guard_yes rfl e3 ?_
        refine op_pure (pv_of (v := .bool _) rfl) ?_
        refine op_pure (pv_pickF rfl e3 (v := .bool _) rfl) ?_
        refine op_pure (pv_assign (v := .bool _) rfl) ?_
        refine xp_ret ?_
        refine res_list (vs := [_]) Try.results71 ⟨resV_tmp rfl rfl, trivial⟩ fun V => ?_
        refine ⟨(ext_wl V), decide ((s.reports.length : Int) > 20), rfl, fun e4 => ?_⟩
        have := of_decide_eq_false e1
        have := of_decide_eq_false e2
        have := of_decide_eq_false e3
        have := of_decide_eq_false e4
        omega
theorem mul3 {a f A : Int} (ha : 1 ≤ a ∧ a ≤ A) (hf : 1 ≤ f ∧ f ≤ 3) : 1 ≤ a * f ∧ a * f ≤ 3 * A := by
  have : f = 1 ∨ f = 2 ∨ f = 3 := by omega
  rcases this with h | h | h <;> rw [h] <;> omega
theorem mulB {a f A F : Int} (ha : 1 ≤ a ∧ a ≤ A) (hf : 1 ≤ f ∧ f ≤ F) : 1 ≤ a * f ∧ a * f ≤ A * F := by
  constructor
  · have := Int.mul_le_mul ha.1 hf.1 (by omega) (by omega)
    simpa using this
  · exact Int.mul_le_mul ha.2 hf.2 (by omega) (by omega)
set_option maxHeartbeats 4000000 in
theorem vast_ok (s : Season) (A0 A1 A2 A3 : Option Addr) (c0 c1 c2 c3 : Nat) (h : AH) (R : SeasonR h A0 A1 A2 A3 s) :
    FnT Try.prog 18 #[seasonV A0 A1 A2 A3 c0 c1 c2 c3 s] h (fun v _ => ∃ b, v = .bool b ∧ (b = false → s.heats.length ≤ 20 ∧ s.damps.length ≤ 20 ∧ s.joints.length ≤ 20 ∧ s.reports.length ≤ 20)) := by
  refine call_body Try.func18 rfl Try.ntmps18 rfl ?_
  refine xp_seq ?_
  refine xp_region rfl ?_
  refine op_box (v := .agg #[.slice _ _ _, .slice _ _ _, .slice _ _ _, .slice _ _ _]) (cs := [_, _, _, _]) rfl rfl fun b1 hb1 => ?_
  refine wp_norm [_] rfl ?_
  refine op_pure (pv_assign (v := .bool _) rfl) ?_
  refine xp_seq ?_
  refine xp_seq ?_
  refine xp_region rfl ?_
  refine op_loadPA 0 (vs := [.slice _ _ _, .slice _ _ _, .slice _ _ _, .slice _ _ _]) rfl rfl rfl rfl rfl ?_
  refine op_fn (caps := []) (vs := [.agg #[.slice _ _ _, .slice _ _ _, .slice _ _ _, .slice _ _ _]]) rfl rfl rfl (many_ok s A0 A1 A2 A3 c0 c1 c2 c3 h) ?_
  rintro _ h1 E1 ⟨b, rfl, hb⟩
  refine xp_cond rfl (fun ht => ?_) (fun ht => ?_)
  · skip
    refine xp_seq ?_
    refine xp_region rfl ?_
    refine op_pure (pv_assign (v := .bool _) rfl) ?_
    refine xp_ret ?_
    refine res_list (vs := [_]) Try.results18 ⟨resV_tmp rfl rfl, trivial⟩ fun V => ?_
    exact ⟨(Ext.trans E1 (ext_wl V)), true, rfl, fun h => by cases h⟩
  · skip
    have hbl := hb ht
    have Sm : Small s := ⟨by omega, by omega, by omega, by omega⟩
    refine xp_skip ?_
    refine xp_seq ?_
    refine xp_seq ?_
    refine xp_region rfl ?_
    refine op_loadPA 0 (vs := [.slice _ _ _, .slice _ _ _, .slice _ _ _, .slice _ _ _]) rfl rfl rfl rfl rfl ?_
    refine op_fn (caps := []) (vs := [.agg #[.slice _ _ _, .slice _ _ _, .slice _ _ _, .slice _ _ _]]) rfl rfl rfl (rCheck_ok s Sm A0 A1 A2 A3 c0 c1 c2 c3 h1 (R.ext E1)) ?_
    rintro _ h2 E2 rfl
    refine op_pure (pv_of (v := .bool _) rfl) ?_
    refine xp_cond rfl (fun hc => ?_) (fun hc => ?_)
    · skip
      refine xp_seq ?_
      refine xp_region rfl ?_
      refine op_pure (pv_assign (v := .bool _) rfl) ?_
      refine xp_ret ?_
      refine res_list (vs := [_]) Try.results18 ⟨resV_tmp rfl rfl, trivial⟩ fun V => ?_
      exact ⟨(Ext.trans (Ext.trans E1 E2) (ext_wl V)), false, rfl, fun _ => hbl⟩
    · skip
      have hc0 : checkM s = 0 := by simpa using hc
      have C := CheckS.of hc0
      have hdl := C.dl
      have h6 := C.w6
      have hH : ∀ r ∈ s.heats, -50 ≤ r.mn ∧ r.mn ≤ r.mx ∧ r.mx ≤ 100 ∧ r.mx - r.mn ≤ 2 := fun r hr => checkWeather_iff.1 (C.h r hr)
      have hD : ∀ r ∈ s.damps, -50 ≤ r.mn ∧ r.mn ≤ r.mx ∧ r.mx ≤ 100 ∧ r.mx - r.mn ≤ 2 := fun r hr => checkWeather_iff.1 (C.d r hr)
      have hJ : ∀ j ∈ s.joints, JointB j := fun j hj => (checkJointM_zero (C.j j hj)).1
      refine xp_skip ?_
      refine xp_seq ?_
      refine xp_region rfl ?_
      refine op_pure (pv_assign (v := .int .i64 _) rfl) ?_
      refine op_pure (pv_assign (v := .int .i64 _) rfl) ?_
      refine xp_seq ?_
      refine xp_seq ?_
      refine xp_region rfl ?_
      refine op_pure (pv_assign (v := .int .i64 _) rfl) ?_
      refine xp_block ?_
      refine xp_loopB [3, 4, 5, 13, 14, 15, 16, 17, 18, 19, 20, 21, 22, 23, 24, 25, 26, 27, 28, 29, 30, 31, 32, 33, 34, 35, 36, 37, 38, 39, 40, 41, 42, 43, 44, 45, 46, 47, 48, 49, 50, 51] 1 (α := Nat × Int × Int) (fun ⟨w, a, e⟩ => [(3, .int .i64 a), (4, .int .i64 e), (5, .int .i64 w)]) (fun ⟨w, a, e⟩ => _) (fun ⟨w, a, e⟩ h_w => w ≤ s.heats.length ∧ (1 ≤ a ∧ a ≤ ((3 ^ w : Nat) : Int)) ∧ (1 ≤ e ∧ e ≤ ((3 ^ w : Nat) : Int))) (fun ⟨w, a, e⟩ => s.heats.length - w) ((0, 1, 1)) ⟨rfl, rfl, rfl, trivial⟩ (rfl) (⟨Nat.zero_le _, by simp, by simp⟩) ?_
      rintro ⟨w, a, e⟩ T1 h_w E_w J_w
      refine goes_norm [_] rfl ?_
      obtain ⟨K1, K2, K3⟩ := J_w
      have hpw : 3 ^ w ≤ 3 ^ 6 := Nat.pow_le_pow_right (by omega) (by omega)
      have hpw1 : (3 ^ w : Nat) ≤ 729 := hpw
      refine xp_seq ?_
      refine xp_seq ?_
      refine xp_region rfl ?_
      refine op_pure (pv_move (v := .int .i64 _) rfl) ?_
      refine op_pure (pv_fieldAddr rfl rfl rfl rfl 0 rfl) ?_
      refine op_loadP 0 (v := .slice _ _ _) rfl rfl rfl rfl ?_
      refine op_pure (pv_len rfl rfl) ?_
      refine op_pure (pv_of (v := .bool _) rfl) ?_
      refine xp_cond rfl (fun hw => ?_) (fun hw => ?_)
      · skip
        have hwl : w < s.heats.length := ltI hw
        have hwd : w < s.damps.length := by omega
        have b1 := hH _ (List.getElem_mem hwl)
        have b2 := hD _ (List.getElem_mem hwd)
        obtain ⟨g1, o1, hB1, hc1⟩ := (R.heats.ext (Ext.trans (Ext.trans E1 E2) E_w)).at (by omega) hwl
        obtain ⟨g2, o2, hB2, hc2⟩ := (R.damps.ext (Ext.trans (Ext.trans E1 E2) E_w)).at (by omega) hwd
        have m1 := mul3 K2 (f := s.heats[w].mx - s.heats[w].mn + 1) (by omega)
        have m2 := mul3 K3 (f := s.damps[w].mx - s.damps[w].mn + 1) (by omega)
        have hsp : ((3 ^ (w + 1) : Nat) : Int) = 3 * ((3 ^ w : Nat) : Int) := by rw [Nat.pow_succ]; omega
        refine xp_skip ?_
        refine xp_seq ?_
        refine xp_block ?_
        refine xp_dw [] rfl rfl rfl ?_
        refine dw_pure (i := 0) rfl (by decide +kernel) (pv_move (v := .int .i64 _) rfl) ?_
        refine dw_pure (i := 1) rfl (by decide +kernel) (pv_fieldAddr rfl rfl rfl rfl 0 rfl) ?_
        refine dw_load (i := 2) rfl (by decide +kernel) ?_
        refine op_loadP 0 (v := .slice _ _ _) rfl rfl rfl rfl ?_
        refine dw_pure (i := 3) rfl (by decide +kernel) (pv_move (v := .int .i64 _) rfl) ?_
        refine dw_pure (i := 4) rfl (by decide +kernel) (pv_indexE rfl hB1 rfl rfl rfl (by omega) (by omega)) ?_
        refine dw_pure (i := 5) rfl (by decide +kernel) (pv_fieldAddr rfl rfl rfl rfl _ rfl) ?_
        refine dw_load (i := 6) rfl (by decide +kernel) ?_
        refine op_load (v := .int .i64 _) rfl rfl (hc1 1 (.int .i64 s.heats[w].mx) rfl) ?_
        refine dw_pure (i := 7) rfl (by decide +kernel) (pv_fieldAddr rfl rfl rfl rfl 0 rfl) ?_
        refine dw_load (i := 8) rfl (by decide +kernel) ?_
        refine op_loadP 0 (v := .slice _ _ _) rfl rfl rfl rfl ?_
        refine dw_pure (i := 9) rfl (by decide +kernel) (pv_move (v := .int .i64 _) rfl) ?_
        refine dw_pure (i := 10) rfl (by decide +kernel) (pv_indexE rfl hB1 rfl rfl rfl (by omega) (by omega)) ?_
        refine dw_pure (i := 11) rfl (by decide +kernel) (pv_fieldAddr rfl rfl rfl rfl _ rfl) ?_
        refine dw_load (i := 12) rfl (by decide +kernel) ?_
        refine op_load (v := .int .i64 _) rfl rfl (hc1 0 (.int .i64 s.heats[w].mn) rfl) ?_
        refine dw_pure (i := 13) rfl (by decide +kernel) (pv_arith rfl (by omega)) ?_
        refine dw_pure (i := 14) rfl (by decide +kernel) (pv_arith rfl (by omega)) ?_
        refine dw_pure (i := 15) rfl (by decide +kernel) (pv_arith rfl (by omega)) ?_
        refine dw_pure (i := 16) rfl (by decide +kernel) (pv_move (v := .int .i64 _) rfl) ?_
        refine dw_pure (i := 17) rfl (by decide +kernel) (pv_fieldAddr rfl rfl rfl rfl 1 rfl) ?_
        refine dw_load (i := 18) rfl (by decide +kernel) ?_
        refine op_loadP 0 (v := .slice _ _ _) rfl rfl rfl rfl ?_
        refine dw_pure (i := 19) rfl (by decide +kernel) (pv_move (v := .int .i64 _) rfl) ?_
        refine dw_pure (i := 20) rfl (by decide +kernel) (pv_indexE rfl hB2 rfl rfl rfl (by omega) (by omega)) ?_
        refine dw_pure (i := 21) rfl (by decide +kernel) (pv_fieldAddr rfl rfl rfl rfl _ rfl) ?_
        refine dw_load (i := 22) rfl (by decide +kernel) ?_
        refine op_load (v := .int .i64 _) rfl rfl (hc2 1 (.int .i64 s.damps[w].mx) rfl) ?_
        refine dw_pure (i := 23) rfl (by decide +kernel) (pv_fieldAddr rfl rfl rfl rfl 1 rfl) ?_
        refine dw_load (i := 24) rfl (by decide +kernel) ?_
        refine op_loadP 0 (v := .slice _ _ _) rfl rfl rfl rfl ?_
        refine dw_pure (i := 25) rfl (by decide +kernel) (pv_move (v := .int .i64 _) rfl) ?_
        refine dw_pure (i := 26) rfl (by decide +kernel) (pv_indexE rfl hB2 rfl rfl rfl (by omega) (by omega)) ?_
        refine dw_pure (i := 27) rfl (by decide +kernel) (pv_fieldAddr rfl rfl rfl rfl _ rfl) ?_
        refine dw_load (i := 28) rfl (by decide +kernel) ?_
        refine op_load (v := .int .i64 _) rfl rfl (hc2 0 (.int .i64 s.damps[w].mn) rfl) ?_
        refine dw_pure (i := 29) rfl (by decide +kernel) (pv_arith rfl (by omega)) ?_
        refine dw_pure (i := 30) rfl (by decide +kernel) (pv_arith rfl (by omega)) ?_
        refine dw_pure (i := 31) rfl (by decide +kernel) (pv_arith rfl (by omega)) ?_
        refine dw_pure (i := 32) rfl (by decide +kernel) (pv_assign (v := .int .i64 _) rfl) ?_
        refine dw_pure (i := 33) rfl (by decide +kernel) (pv_assign (v := .int .i64 _) rfl) ?_
        refine dw_end rfl ?_
        refine xp_region rfl ?_
        refine op_pure (pv_move (v := .int .i64 _) rfl) ?_
        refine op_pure (pv_arith rfl (by omega)) ?_
        refine op_pure (pv_assign (v := .int .i64 _) rfl) ?_
        refine ⟨(w + 1, a * (s.heats[w].mx - s.heats[w].mn + 1), e * (s.damps[w].mx - s.damps[w].mn + 1)), ⟨rfl, rfl, rfl, trivial⟩, rfl, rfl, E_w, fun h3 E3 => ⟨hwl, by omega, by omega⟩, by first | omega | (dsimp only; omega), ?_⟩
        repeat (first | exact off_base _ _ _ | refine off_upd (by decide) ?_ | refine off_updL rfl ?_ | refine off_mix rfl ?_)
      · skip
        refine xp_exit ?_
        refine xp_seq ?_
        refine xp_seq ?_
        refine xp_region rfl ?_
        refine op_pure (pv_assign (v := .int .i64 _) rfl) ?_
        refine xp_block ?_
        refine xp_loopB [2, 6, 7, 52, 53, 54, 55, 56, 57, 58, 59, 60, 61, 62, 63, 64, 65, 66, 67, 68, 69, 70, 71, 72, 73, 74, 75, 76, 77, 78, 79, 80, 81, 82, 83, 84, 85, 86, 87, 88, 89, 90, 91, 92, 93, 94, 95, 96, 97, 98, 99] 1 (α := Nat) (fun i => [(6, .int .i64 i)]) (fun i => _) (fun i h_i => i ≤ s.joints.length) (fun i => s.joints.length - i) (0) ⟨rfl, trivial⟩ (rfl) (Nat.zero_le _) ?_
        rintro i T2 h_i E_i J_i
        refine goes_norm [_] rfl ?_
        have hjl3 := C.j3
        refine xp_seq ?_
        refine xp_seq ?_
        refine xp_region rfl ?_
        refine op_pure (pv_move (v := .int .i64 _) rfl) ?_
        refine op_pure (pv_fieldAddr rfl rfl rfl rfl 2 rfl) ?_
        refine op_loadP 0 (v := .slice _ _ _) rfl rfl rfl rfl ?_
        refine op_pure (pv_len rfl rfl) ?_
        refine op_pure (pv_of (v := .bool _) rfl) ?_
        refine xp_cond rfl (fun hi => ?_) (fun hi => ?_)
        · skip
          have hil : i < s.joints.length := ltI hi
          obtain ⟨g1, o1, hB1, hc1⟩ := (R.joints.ext (Ext.trans (Ext.trans (Ext.trans E1 E2) E_w) E_i)).at (by omega) hil
          obtain ⟨h1', h2', h3', l1, l2, l3, w1, w2, w3, a1, a2, a3, hwd, lwd⟩ := hJ _ (List.getElem_mem hil)
          generalize s.joints[i] = j at *
          refine xp_skip ?_
          refine xp_seq ?_
          refine xp_block ?_
          refine xp_seq ?_
          refine xp_region rfl ?_
          refine op_pure (pv_fieldAddr rfl rfl rfl rfl 2 rfl) ?_
          refine op_loadP 0 (v := .slice _ _ _) rfl rfl rfl rfl ?_
          refine op_pure (pv_move (v := .int .i64 _) rfl) ?_
          refine op_pure (pv_indexE rfl hB1 rfl rfl rfl (by omega) (by omega)) ?_
          refine op_loadA rfl rfl rfl rfl (hc1) ?_
          refine op_alloc (cs := [_, _, _, _, _, _, _, _, _]) rfl rfl fun b7 hb7 => ?_
          refine wp_norm [_, _] rfl ?_
          refine op_storeP 1 (v := .agg #[.int .i64 _, .int .i64 _, .int .i64 _, .int .i64 _, .int .i64 _, .int .i64 _, .int .i64 _, .int .i64 _, .int .i64 _]) (vs := [_, _, _, _, _, _, _, _, _]) (c' := [_, _, _, _, _, _, _, _, _]) rfl rfl rfl rfl rfl rfl rfl rfl rfl ?_
          refine wp_norm [_, _] rfl ?_
          refine xp_seq ?_
          refine xp_region rfl ?_
          refine op_pure (pv_fieldAddr rfl rfl rfl rfl 1 rfl) ?_
          refine op_pure (pv_fieldAddr rfl rfl rfl rfl 2 rfl) ?_
          refine op_loadP 1 (v := .int .i64 _) rfl rfl rfl rfl ?_
          refine op_pure (pv_fieldAddr rfl rfl rfl rfl 1 rfl) ?_
          refine op_pure (pv_fieldAddr rfl rfl rfl rfl 1 rfl) ?_
          refine op_loadP 1 (v := .int .i64 _) rfl rfl rfl rfl ?_
          refine op_pure (pv_arith rfl (by omega)) ?_
          refine op_pure (pv_arith rfl (by omega)) ?_
          refine op_pure (pv_fieldAddr rfl rfl rfl rfl 3 rfl) ?_
          refine op_pure (pv_fieldAddr rfl rfl rfl rfl 4 rfl) ?_
          refine op_loadP 1 (v := .int .i64 _) rfl rfl rfl rfl ?_
          refine op_pure (pv_fieldAddr rfl rfl rfl rfl 3 rfl) ?_
          refine op_pure (pv_fieldAddr rfl rfl rfl rfl 3 rfl) ?_
          refine op_loadP 1 (v := .int .i64 _) rfl rfl rfl rfl ?_
          refine op_pure (pv_arith rfl (by omega)) ?_
          refine op_pure (pv_arith rfl (by omega)) ?_
          have m1 := mulB (a := j.high.mx - j.high.mn + 1) (f := j.low.mx - j.low.mn + 1) (A := 3) (F := 3) (by omega) (by omega)
          refine op_pure (pv_arith rfl (by omega)) ?_
          refine op_pure (pv_fieldAddr rfl rfl rfl rfl 5 rfl) ?_
          refine op_pure (pv_fieldAddr rfl rfl rfl rfl 6 rfl) ?_
          refine op_loadP 1 (v := .int .i64 _) rfl rfl rfl rfl ?_
          refine op_pure (pv_fieldAddr rfl rfl rfl rfl 5 rfl) ?_
          refine op_pure (pv_fieldAddr rfl rfl rfl rfl 5 rfl) ?_
          refine op_loadP 1 (v := .int .i64 _) rfl rfl rfl rfl ?_
          refine op_pure (pv_arith rfl (by omega)) ?_
          refine op_pure (pv_arith rfl (by omega)) ?_
          have m2 := mulB (a := (j.high.mx - j.high.mn + 1) * (j.low.mx - j.low.mn + 1)) (f := j.weeks.mx - j.weeks.mn + 1) (A := 9) (F := 6) (by omega) (by omega)
          refine op_pure (pv_arith rfl (by omega)) ?_
          refine op_pure (pv_fieldAddr rfl rfl rfl rfl 7 rfl) ?_
          refine op_pure (pv_fieldAddr rfl rfl rfl rfl 8 rfl) ?_
          refine op_loadP 1 (v := .int .i64 _) rfl rfl rfl rfl ?_
          refine op_pure (pv_fieldAddr rfl rfl rfl rfl 7 rfl) ?_
          refine op_pure (pv_fieldAddr rfl rfl rfl rfl 7 rfl) ?_
          refine op_loadP 1 (v := .int .i64 _) rfl rfl rfl rfl ?_
          refine op_pure (pv_arith rfl (by omega)) ?_
          refine op_pure (pv_arith rfl (by omega)) ?_
          have m3 := mulB (a := (j.high.mx - j.high.mn + 1) * (j.low.mx - j.low.mn + 1) * (j.weeks.mx - j.weeks.mn + 1)) (f := j.life.mx - j.life.mn + 1) (A := 54) (F := 10) (by omega) (by omega)
          refine op_pure (pv_arith rfl (by omega)) ?_
          refine op_pure (pv_of (v := .bool _) rfl) ?_
          refine xp_cond rfl (fun hg => ?_) (fun hg => ?_)
          · skip
            refine xp_seq ?_
            refine xp_region rfl ?_
            refine op_pure (pv_assign (v := .bool _) rfl) ?_
            refine xp_ret ?_
            refine res_list (vs := [_]) Try.results18 ⟨resV_tmp rfl rfl, trivial⟩ fun V => ?_
            exact ⟨(Ext.trans (Ext.trans (Ext.trans (Ext.trans E1 E2) E_w) E_i) (ext_wl V)), true, rfl, fun h => by cases h⟩
          · skip
            refine xp_skip ?_
            refine xp_region rfl ?_
            refine op_pure (pv_move (v := .int .i64 _) rfl) ?_
            refine op_pure (pv_arith rfl (by omega)) ?_
            refine op_pure (pv_assign (v := .int .i64 _) rfl) ?_
            refine ⟨i + 1, ⟨rfl, trivial⟩, rfl, rfl, E_i, fun h3 E3 => hil, by first | omega | (dsimp only; omega), ?_⟩
            repeat (first | exact off_base _ _ _ | refine off_upd (by decide) ?_ | refine off_updL rfl ?_ | refine off_mix rfl ?_)
        · skip
          refine xp_exit ?_
          refine xp_seq ?_
          refine xp_region rfl ?_
          refine op_pure (pv_move (v := .int .i64 _) rfl) ?_
          refine op_pure (pv_of (v := .bool _) rfl) ?_
          refine op_pure (pv_move (v := .bool _) rfl) ?_
          rcases Bool.eq_false_or_eq_true (decide (a > 27)) with q1 | q1
          · skip
            refine guard_no rfl q1 ?_
            refine guard_no rfl q1 ?_
            refine op_pure (pv_pickT rfl q1 (v := .bool _) rfl) ?_
            refine op_pure (pv_assign (v := .bool _) rfl) ?_
            refine xp_ret ?_
            refine res_list (vs := [_]) Try.results18 ⟨resV_tmp rfl rfl, trivial⟩ fun V => ?_
            exact ⟨(Ext.trans (Ext.trans (Ext.trans (Ext.trans E1 E2) E_w) E_i) (ext_wl V)), true, rfl, fun h => by cases h⟩
          · skip
            refine guard_yes rfl q1 ?_
            refine op_pure (pv_move (v := .int .i64 _) rfl) ?_
            refine guard_yes rfl q1 ?_
            refine op_pure (pv_of (v := .bool _) rfl) ?_
            refine op_pure (pv_pickF rfl q1 (v := .bool _) rfl) ?_
            refine op_pure (pv_assign (v := .bool _) rfl) ?_
            refine xp_ret ?_
            refine res_list (vs := [_]) Try.results18 ⟨resV_tmp rfl rfl, trivial⟩ fun V => ?_
            exact ⟨(Ext.trans (Ext.trans (Ext.trans (Ext.trans E1 E2) E_w) E_i) (ext_wl V)), decide (e > 27), rfl, fun _ => hbl⟩
end Go.Proofs.Ytndfkbapoinmkaa
/- The own logic, part Ub: data that came in, read as rows and seasons. Conditions: none. -/
namespace Go.HL
open Go Go.Wx Go.RowKit Go.ChangeShapes Go.WideShapes
section
variable {H : Type} {enc : TypeId × Value → H} {P : Program} {w : World} {base : Nat} {spare : Nat → Bool} {held : Bool}
theorem row_slice {α : Type} (en : α → List Value) {t e : TypeId} {m fuel : Nat} {cs : List Value} {x : DataW H × List MemPlace} (ht : P.underlying t = some (.slice e)) (hc : P.cellsOf e = m) (hm : 0 < m) (he : ∀ a, (en a).length = m)
    (leaf : ∀ n cs x, DataW.trod enc P w base spare held n e cs = some x → ∃ a, cs = en a) (h : DataW.trod enc P w base spare held fuel t cs = some x) :
    ∃ (A : Option Addr) (len cap : Nat) (l : List α), cs = [.slice A len cap] ∧ l.length = len ∧ Row (absH w.heap) m en A l ∧ len ≤ maxLen := by
  rcases Go.Deep.open_slice ht h with ⟨rfl, _⟩ | ⟨a, len, cap, mm, n, D, Pl, rfl, hb, hl, hmx, hmm, _, hel⟩
  · exact ⟨none, 0, 0, [], rfl, rfl, ⟨fun _ h => (by cases h), Rd.nil _ _⟩, Nat.zero_le _⟩
  · have hlm : len ≤ mm := by rw [hmm]; split <;> omega
    have key : ∀ i : _root_.Fin len, ∃ v : α, w.cells? base (a.add (i.val * m)) m = some (en v) := by
      intro i
      obtain ⟨cs', h1, h2⟩ := hel i.val (by have := i.isLt; omega)
      obtain ⟨v, rfl⟩ := leaf _ _ _ h2
      rw [hc] at h1
      exact ⟨v, h1⟩
    let l := List.ofFn fun i : _root_.Fin len => Classical.choose (key i)
    have hll : l.length = len := by simp [l]
    have hat : ∀ (i : Nat) (hi : i < l.length), w.cells? base (a.add (i * m)) m = some (en l[i]) := by
      intro i hi
      have := Classical.choose_spec (key ⟨i, by omega⟩)
      simpa [l] using this
    refine ⟨some a, len, cap, l, rfl, hll, ⟨fun x _ => he x, fun hne => ?_⟩, by omega⟩
    have hpos : 0 < l.length := by
      rcases Nat.eq_zero_or_pos l.length with h0 | h0
      · rw [List.eq_nil_of_length_eq_zero h0] at hne; simp at hne
      · exact h0
    obtain ⟨g, off, sp⟩ := a
    have h0 := hat 0 hpos
    obtain ⟨_, _, hcell⟩ := World.cells?_some h0
    have h00 := hcell 0 hm
    rw [Go.Deep.add_add, Nat.zero_mul, Nat.add_zero, List.getElem?_eq_getElem (by rw [he]; exact hm)] at h00
    have hsp : sp = none := by
      cases sp with
      | none => rfl
      | some s =>
        exfalso
        have : w.cell? ((⟨g, off, some s⟩ : Addr).add 0) = none := by
          simp only [Addr.add]
          rw [cell_abs]
          unfold cellA
          split <;> simp
        rw [this] at h00
        cases h00
    subst hsp
    refine ⟨g, off, rfl, fun j u hu => ?_⟩
    have hj : j < l.length * m := by
      have := (List.getElem?_eq_some_iff.1 hu).1
      rwa [flat_len (fun x _ => he x)] at this
    have hi : j / m < l.length := Nat.div_lt_of_lt_mul (by rw [Nat.mul_comm]; exact hj)
    have hr : j % m < m := Nat.mod_lt _ hm
    have hjm : j / m * m + j % m = j := by rw [Nat.mul_comm]; exact Nat.div_add_mod j m
    obtain ⟨_, _, hcl⟩ := World.cells?_some (hat (j / m) hi)
    have h1 := hcl (j % m) hr
    have h2 : (en l[j / m])[j % m]? = some ((en l[j / m])[j % m]'(by rw [he]; exact hr)) := List.getElem?_eq_getElem _
    have h3 := flat_get en m l (fun x _ => he x) (j / m) _ (List.getElem?_eq_getElem hi) (j % m) _ h2
    rw [hjm, hu] at h3
    rw [h2, ← h3, Go.Deep.add_add, hjm, cell_abs, add_none] at h1
    exact h1
end
end Go.HL
namespace Go.Proofs.Ytndfkbapoinmkaa
open Go Go.HL Go.Wx Go.RowKit Go.ChangeShapes Go.WideShapes
set_option maxRecDepth 100000
theorem cells3 : Try.prog.cellsOf 3 = 1 := by kernel_rfl
theorem cells4 : Try.prog.cellsOf 4 = 1 := by kernel_rfl
theorem cells22 : Try.prog.cellsOf 22 = 1 := by kernel_rfl
theorem cells23 : Try.prog.cellsOf 23 = 1 := by kernel_rfl
theorem cells24 : Try.prog.cellsOf 24 = 1 := by kernel_rfl
theorem cells26 : Try.prog.cellsOf 26 = 4 := by kernel_rfl
theorem cells51 : Try.prog.cellsOf 51 = 2 := by kernel_rfl
theorem cells53 : Try.prog.cellsOf 53 = 9 := by kernel_rfl
theorem cells56 : Try.prog.cellsOf 56 = 3 := by kernel_rfl
section
variable {H : Type} {enc : TypeId × Value → H} {w : World} {base : Nat} {spare : Nat → Bool} {held : Bool}
theorem int_leaf {n : Nat} {cs : List Value} {x : DataW H × List MemPlace} (h : DataW.trod enc Try.prog w base spare held n 3 cs = some x) : ∃ z : Int, cs = [.int .i64 z] := by
  obtain ⟨z, e, _⟩ := DataW.trod_int Try.underlying3 h
  exact ⟨z, e⟩
theorem bool_leaf {n : Nat} {cs : List Value} {x : DataW H × List MemPlace} (h : DataW.trod enc Try.prog w base spare held n 4 cs = some x) : ∃ b : Bool, cs = [.bool b] := by
  obtain ⟨z, e, _⟩ := DataW.trod_bool Try.underlying4 h
  exact ⟨z, e⟩
theorem some_at {α : Type} {xs : List α} {n i : Nat} (h : xs.length = n) (hi : i < n) : ∃ y, xs[i]? = some y := ⟨_, List.getElem?_eq_getElem (by omega)⟩
theorem rg_leaf {n : Nat} {cs : List Value} {x : DataW H × List MemPlace} (h : DataW.trod enc Try.prog w base spare held n 51 cs = some x) : ∃ r : Rg, cs = rgC r := by
  obtain ⟨xs, m, _, _, hl, hx, hf⟩ := DataW.trod_struct Try.underlying51 h
  rw [cells51] at hl
  obtain ⟨y0, e0⟩ := some_at (i := 0) hx (by decide)
  obtain ⟨y1, e1⟩ := some_at (i := 1) hx (by decide)
  obtain ⟨a, ha⟩ := int_leaf ((show DataW.trod enc Try.prog w base spare held m 3 ((cs.drop 0).take (Try.prog.cellsOf 3)) = xs[0]? from hf 0 _ rfl).trans e0)
  obtain ⟨b, hb⟩ := int_leaf ((show DataW.trod enc Try.prog w base spare held m 3 ((cs.drop 1).take (Try.prog.cellsOf 3)) = xs[1]? from hf 1 _ rfl).trans e1)
  rw [cells3] at ha hb
  match cs, hl with
  | [u, v], _ =>
    simp at ha hb
    exact ⟨⟨a, b⟩, by rw [ha, hb]; rfl⟩
theorem seen_leaf {n : Nat} {cs : List Value} {x : DataW H × List MemPlace} (h : DataW.trod enc Try.prog w base spare held n 56 cs = some x) : ∃ r : Seen, cs = seenC r := by
  obtain ⟨xs, m, _, _, hl, hx, hf⟩ := DataW.trod_struct Try.underlying56 h
  rw [cells56] at hl
  obtain ⟨y0, e0⟩ := some_at (i := 0) hx (by decide)
  obtain ⟨y1, e1⟩ := some_at (i := 1) hx (by decide)
  obtain ⟨y2, e2⟩ := some_at (i := 2) hx (by decide)
  obtain ⟨a, ha⟩ := int_leaf ((show DataW.trod enc Try.prog w base spare held m 3 ((cs.drop 0).take (Try.prog.cellsOf 3)) = xs[0]? from hf 0 _ rfl).trans e0)
  obtain ⟨b, hb⟩ := int_leaf ((show DataW.trod enc Try.prog w base spare held m 3 ((cs.drop 1).take (Try.prog.cellsOf 3)) = xs[1]? from hf 1 _ rfl).trans e1)
  obtain ⟨c, hc⟩ := bool_leaf ((show DataW.trod enc Try.prog w base spare held m 4 ((cs.drop 2).take (Try.prog.cellsOf 4)) = xs[2]? from hf 2 _ rfl).trans e2)
  rw [cells3] at ha hb
  rw [cells4] at hc
  match cs, hl with
  | [u, v, z], _ =>
    simp at ha hb hc
    exact ⟨⟨a, b, c⟩, by rw [ha, hb, hc]; rfl⟩
theorem joint_leaf {n : Nat} {cs : List Value} {x : DataW H × List MemPlace} (h : DataW.trod enc Try.prog w base spare held n 53 cs = some x) : ∃ j : Joint, cs = jointC j := by
  obtain ⟨xs, m, _, _, hl, hx, hf⟩ := DataW.trod_struct Try.underlying53 h
  rw [cells53] at hl
  obtain ⟨y0, e0⟩ := some_at (i := 0) hx (by decide)
  obtain ⟨y1, e1⟩ := some_at (i := 1) hx (by decide)
  obtain ⟨y2, e2⟩ := some_at (i := 2) hx (by decide)
  obtain ⟨y3, e3⟩ := some_at (i := 3) hx (by decide)
  obtain ⟨y4, e4⟩ := some_at (i := 4) hx (by decide)
  obtain ⟨a, ha⟩ := int_leaf ((show DataW.trod enc Try.prog w base spare held m 3 ((cs.drop 0).take (Try.prog.cellsOf 3)) = xs[0]? from hf 0 _ rfl).trans e0)
  obtain ⟨r1, h1⟩ := rg_leaf ((show DataW.trod enc Try.prog w base spare held m 51 ((cs.drop 1).take (Try.prog.cellsOf 51)) = xs[1]? from hf 1 _ rfl).trans e1)
  obtain ⟨r2, h2⟩ := rg_leaf ((show DataW.trod enc Try.prog w base spare held m 51 ((cs.drop 3).take (Try.prog.cellsOf 51)) = xs[2]? from hf 2 _ rfl).trans e2)
  obtain ⟨r3, h3⟩ := rg_leaf ((show DataW.trod enc Try.prog w base spare held m 51 ((cs.drop 5).take (Try.prog.cellsOf 51)) = xs[3]? from hf 3 _ rfl).trans e3)
  obtain ⟨r4, h4⟩ := rg_leaf ((show DataW.trod enc Try.prog w base spare held m 51 ((cs.drop 7).take (Try.prog.cellsOf 51)) = xs[4]? from hf 4 _ rfl).trans e4)
  rw [cells3] at ha
  rw [cells51] at h1 h2 h3 h4
  match cs, hl with
  | [u0, u1, u2, u3, u4, u5, u6, u7, u8], _ =>
    simp [rgC] at ha h1 h2 h3 h4
    refine ⟨⟨a, r1, r2, r3, r4⟩, ?_⟩
    rw [ha, h1.1, h1.2, h2.1, h2.2, h3.1, h3.2, h4.1, h4.2]
    rfl
/-- A season that came in. -/
theorem season_in {r : Reach} {b0 : Nat} {v : Value} {d : DataW H} {p : List MemPlace} (hv : Value.okWide Try.prog w r b0 26 v) (h : DataW.Trod enc Try.prog w base spare held 26 v d p) :
    ∃ (s : Season) (A0 A1 A2 A3 : Option Addr) (c0 c1 c2 c3 : Nat), v = seasonV A0 A1 A2 A3 c0 c1 c2 c3 s ∧ SeasonR (absH w.heap) A0 A1 A2 A3 s := by
  obtain ⟨cs, rfl, hs⟩ := okWide_struct Try.underlying26 hv
  obtain ⟨fuel, hf0⟩ := h
  have hcs : (Value.agg cs).cells.toList = cs.toList := rfl
  rw [hcs] at hf0
  obtain ⟨xs, m, _, _, hl, hx, hf⟩ := DataW.trod_struct Try.underlying26 hf0
  rw [cells26] at hl
  obtain ⟨y0, e0⟩ := some_at (i := 0) hx (by decide)
  obtain ⟨y1, e1⟩ := some_at (i := 1) hx (by decide)
  obtain ⟨y2, e2⟩ := some_at (i := 2) hx (by decide)
  obtain ⟨y3, e3⟩ := some_at (i := 3) hx (by decide)
  obtain ⟨A0, n0, c0, l0, h0, k0, R0, _⟩ := row_slice rgC Try.underlying22 cells51 (by omega) (fun _ => rfl) (fun _ _ _ => rg_leaf) ((show DataW.trod enc Try.prog w base spare held m 22 ((cs.toList.drop 0).take (Try.prog.cellsOf 22)) = xs[0]? from hf 0 _ rfl).trans e0)
  obtain ⟨A1, n1, c1, l1, h1, k1, R1, _⟩ := row_slice rgC Try.underlying22 cells51 (by omega) (fun _ => rfl) (fun _ _ _ => rg_leaf) ((show DataW.trod enc Try.prog w base spare held m 22 ((cs.toList.drop 1).take (Try.prog.cellsOf 22)) = xs[1]? from hf 1 _ rfl).trans e1)
  obtain ⟨A2, n2, c2, l2, h2, k2, R2, _⟩ := row_slice jointC Try.underlying23 cells53 (by omega) (fun _ => rfl) (fun _ _ _ => joint_leaf) ((show DataW.trod enc Try.prog w base spare held m 23 ((cs.toList.drop 2).take (Try.prog.cellsOf 23)) = xs[2]? from hf 2 _ rfl).trans e2)
  obtain ⟨A3, n3, c3, l3, h3, k3, R3, _⟩ := row_slice seenC Try.underlying24 cells56 (by omega) (fun _ => rfl) (fun _ _ _ => seen_leaf) ((show DataW.trod enc Try.prog w base spare held m 24 ((cs.toList.drop 3).take (Try.prog.cellsOf 24)) = xs[3]? from hf 3 _ rfl).trans e3)
  rw [cells22] at h0 h1
  rw [cells23] at h2
  rw [cells24] at h3
  obtain ⟨l⟩ := cs
  match l, hl with
  | [u0, u1, u2, u3], _ =>
    simp at h0 h1 h2 h3
    refine ⟨⟨l0, l1, l2, l3⟩, A0, A1, A2, A3, c0, c1, c2, c3, ?_, ⟨R0, R1, R2, R3⟩⟩
    rw [h0, h1, h2, h3, ← k0, ← k1, ← k2, ← k3]
    rfl
/-- Ints that came in. -/
theorem ints_in {r : Reach} {b0 : Nat} {v : Value} {d : DataW H} {p : List MemPlace} (hv : Value.okWide Try.prog w r b0 27 v) (h : DataW.Trod enc Try.prog w base spare held 27 v d p) :
    ∃ (l : List Int) (A : Option Addr) (c : Nat), v = .slice A l.length c ∧ Row (absH w.heap) 1 intC A l ∧ l.length ≤ maxLen := by
  obtain ⟨a0, len0, cap0, rfl⟩ := okWide_slice Try.underlying27 hv
  obtain ⟨fuel, hf⟩ := h
  obtain ⟨A, n, c, l, e, k, R, hm⟩ := row_slice intC Try.underlying27 cells3 (by omega) (fun _ => rfl) (fun _ _ _ => int_leaf) hf
  have hcs : (Value.slice a0 len0 cap0).cells.toList = [.slice a0 len0 cap0] := rfl
  rw [hcs] at e
  simp at e
  obtain ⟨rfl, rfl, rfl⟩ := e
  subst k
  exact ⟨l, _, _, rfl, R, hm⟩
end
end Go.Proofs.Ytndfkbapoinmkaa
/- Walks: the law on the weather, over the reference. Conditions: as each theorem states. -/
namespace Go.Proofs.Ytndfkbapoinmkaa
open Go Go.HL Go.Proofs Go.Wx Go.RowKit
set_option maxRecDepth 100000
/-- A season and where it lies. -/
structure SRec where
  A0 : Option Addr
  A1 : Option Addr
  A2 : Option Addr
  A3 : Option Addr
  c0 : Nat
  c1 : Nat
  c2 : Nat
  c3 : Nat
  s : Season
def srC (r : SRec) : List Value := [.slice r.A0 r.s.heats.length r.c0, .slice r.A1 r.s.damps.length r.c1, .slice r.A2 r.s.joints.length r.c2, .slice r.A3 r.s.reports.length r.c3]
structure SROk (h : AH) (r : SRec) : Prop where
  R : SeasonR h r.A0 r.A1 r.A2 r.A3 r.s
  h0 : r.s.heats.length ≤ 30
  h1 : r.s.damps.length ≤ 30
  h2 : r.s.joints.length ≤ 30
  h3 : r.s.reports.length ≤ 30
theorem SROk.ext {h h' : AH} {r : SRec} (o : SROk h r) (E : Ext h h') : SROk h' r := ⟨o.R.ext E, o.h0, o.h1, o.h2, o.h3⟩
theorem SROk.small {h : AH} {r : SRec} (o : SROk h r) : Small r.s := by
  have := o.h0; have := o.h1; have := o.h2; have := o.h3
  exact ⟨by omega, by omega, by omega, by omega⟩
theorem check_bd {s : Season} (C : CheckS s) : s.heats.length ≤ 30 ∧ s.damps.length ≤ 30 ∧ s.joints.length ≤ 30 ∧ s.reports.length ≤ 30 := by
  have := C.w6; have := C.dl; have := C.j3; have := C.r5
  omega
end Go.Proofs.Ytndfkbapoinmkaa
/- Walks: bounds of results; ints copied. Conditions: as each theorem states. -/
namespace Go.Proofs.Ytndfkbapoinmkaa
open Go Go.HL Go.Proofs Go.Wx Go.RowKit
set_option maxRecDepth 100000
theorem harderW_len (s : Season) (k a z d : Int) : (harderW s k a z d).length = (weatherM s k).length := by unfold harderW; rw [raisedN_len]
theorem harderV_len (s : Season) (k a z d : Int) : (harderV s k a z d).heats.length ≤ s.heats.length ∧ (harderV s k a z d).damps.length ≤ s.damps.length ∧ (harderV s k a z d).joints.length ≤ s.joints.length ∧ (harderV s k a z d).reports.length ≤ s.reports.length := by
  unfold harderV harderS
  have hw := harderW_len s k a z d
  unfold weatherM at hw
  split
  · split
    · rename_i h1
      rw [if_pos h1] at hw
      dsimp only
      simp
      omega
    · rename_i h1
      rw [if_neg h1] at hw
      dsimp only
      simp
      omega
  · simp [noSeason]
end Go.Proofs.Ytndfkbapoinmkaa
/- Walks: the law on failures, over the reference. Conditions: as each theorem states. -/
namespace Go.Proofs.Ytndfkbapoinmkaa
open Go Go.HL Go.Proofs Go.Wx Go.RowKit
set_option maxRecDepth 100000
end Go.Proofs.Ytndfkbapoinmkaa
/- Walks: the law on the first ones, over the reference. Conditions: as each theorem states. -/
namespace Go.Proofs.Ytndfkbapoinmkaa
open Go Go.HL Go.Proofs Go.Wx Go.RowKit
set_option maxRecDepth 100000
end Go.Proofs.Ytndfkbapoinmkaa
/- Walks: the law on other weather, over the reference. Conditions: as each theorem states. -/
namespace Go.Proofs.Ytndfkbapoinmkaa
open Go Go.HL Go.Proofs Go.Wx Go.RowKit
set_option maxRecDepth 100000
set_option maxHeartbeats 16000000 in
theorem harder_calls (w : World) (s0 : Season) (A0 A1 A2 A3 : Option Addr) (c0 c1 c2 c3 : Nat) (R : SeasonR (absH w.heap) A0 A1 A2 A3 s0) (kd fr to dd jn wk : Int) (l : List Int) (A : Option Addr) (c : Nat) (RL : Row (absH w.heap) 1 intC A l) (hl : l.length ≤ maxLen) :
    Calls Try.prog 11 #[seasonV A0 A1 A2 A3 c0 c1 c2 c3 s0, .int .i64 kd, .int .i64 fr, .int .i64 to, .int .i64 dd, .int .i64 jn, .int .i64 wk, .slice A l.length c] w (fun e w' => e = .returned (.bool true) ∧ Below w.heap.size w w') := by
  refine calls_body Try.func11 rfl Try.ntmps11 rfl Try.results11 rfl fun h hh => ?_
  rw [← hh] at R RL
  refine xp_seq ?_
  refine xp_region rfl ?_
  refine op_box (v := .agg #[.slice _ _ _, .slice _ _ _, .slice _ _ _, .slice _ _ _]) (cs := [_, _, _, _]) rfl rfl fun b8 hb8 => ?_
  refine wp_norm [_] rfl ?_
  refine op_pure (pv_assign (v := .bool _) rfl) ?_
  refine xp_seq ?_
  refine xp_seq ?_
  refine xp_region rfl ?_
  refine op_loadPA 0 (vs := [.slice _ _ _, .slice _ _ _, .slice _ _ _, .slice _ _ _]) rfl rfl rfl rfl rfl ?_
  refine op_fn (caps := []) (vs := [.agg #[.slice _ _ _, .slice _ _ _, .slice _ _ _, .slice _ _ _]]) rfl rfl rfl (vast_ok s0 A0 A1 A2 A3 c0 c1 c2 c3 h (R.ext (Ext.refl _))) ?_
  rintro _ h1 E1 ⟨b, rfl, hb⟩
  refine xp_cond rfl (fun hv => ?_) (fun hv => ?_)
  · skip
    refine xp_seq ?_
    refine xp_region rfl ?_
    refine op_fn (caps := []) (vs := []) rfl rfl rfl (warm_ok h1) ?_
    rintro _ h9 E9 rfl
    refine op_pure (pv_assign (v := .bool _) rfl) ?_
    refine xp_ret ?_
    exact ⟨rfl, fun V => (Ext.trans (Ext.trans E1 E9) (ext_wl V)), rfl⟩
  · skip
    have hs0 := hb hv

    refine xp_skip ?_
    refine xp_seq ?_
    refine xp_region rfl ?_
    refine op_pure (pv_move (v := .slice _ _ _) rfl) ?_
    refine op_fnMM [_] [] [] rfl rfl rfl ((NewPot_ok l (Nat.lt_of_le_of_lt hl (by decide)) A c h1 (RL.ext E1))) ?_
    rintro _ h2 _ E2 ⟨bp, x1, rfl, rfl⟩
    refine wp_norm [_, _] rfl ?_
    refine op_pure (pv_assign (v := .pointer _) rfl) ?_
    refine xp_seq ?_
    refine xp_region rfl ?_
    refine op_pure (pv_move (v := .pointer _) rfl) ?_
    refine op_fnMM [_] [_] [] (vs := _) rfl rfl rfl ((SeasonOf_ok bp x1 3 2 2 (by omega) (by omega) (by omega) (by omega) h2)) ?_
    rintro _ h3 _ E3 ⟨x2, s, ht, dt, fs, _, _, rfl, rfl, ⟨B0, B1, B2, B3, d0, d1, d2, d3, rfl, RS⟩, T, HA, hc, DA, dc, FA, fc, rfl, R1, R2, R3⟩
    refine wp_norm [_, _] rfl ?_
    have C : CheckS s := SeasonT.checkS T (by omega) (by omega) (by omega)
    have hsb := check_bd C
    have hw1 := C.w1
    have hw6 := C.w6
    refine op_pure (pv_move (v := .tuple #[.agg #[.slice _ _ _, .slice _ _ _, .slice _ _ _, .slice _ _ _], .agg #[.slice _ _ _, .slice _ _ _, .slice _ _ _]]) rfl) ?_
    refine op_pure (pv_of (v := .agg #[.slice _ _ _, .slice _ _ _, .slice _ _ _, .slice _ _ _]) rfl) ?_
    refine op_pure (pv_of (v := .agg #[.slice _ _ _, .slice _ _ _, .slice _ _ _]) rfl) ?_
    refine op_alloc (cs := [_, _, _, _]) rfl rfl fun b18 hb18 => ?_
    refine wp_norm [_, _, _] rfl ?_
    refine op_alloc (cs := [_, _, _]) rfl rfl fun b19 hb19 => ?_
    refine wp_norm [_, _, _, _] rfl ?_
    refine op_storeP 2 (v := .agg #[.slice _ _ _, .slice _ _ _, .slice _ _ _, .slice _ _ _]) (vs := [_, _, _, _]) (c' := [_, _, _, _]) rfl rfl rfl rfl rfl rfl rfl rfl rfl ?_
    refine wp_norm [_, _, _, _] rfl ?_
    refine op_storeP 3 (v := .agg #[.slice _ _ _, .slice _ _ _, .slice _ _ _]) (vs := [_, _, _]) (c' := [_, _, _]) rfl rfl rfl rfl rfl rfl rfl rfl rfl ?_
    refine wp_norm [_, _, _, _] rfl ?_
    refine xp_seq ?_
    refine xp_region rfl ?_
    refine op_pure (pv_fieldAddr rfl rfl rfl rfl 0 rfl) ?_
    refine op_loadP 2 (v := .slice _ _ _) rfl rfl rfl rfl ?_
    refine op_pure (pv_len rfl rfl) ?_
    refine op_pure (pv_arith rfl (by omega)) ?_
    refine op_pure (pv_assign (v := .int .i64 _) rfl) ?_
    refine xp_seq ?_
    refine xp_region rfl ?_
    refine op_pure (pv_move (v := .pointer _) rfl) ?_
    refine op_pure (pv_move (v := .int .i64 _) rfl) ?_
    refine op_fnMM [_] [_] [_, _] (vs := [.pointer _, .int .i64 _]) rfl rfl rfl ((Upto_ok bp x2 ((s.heats.length : Int) - 1) (by omega) h3)) ?_
    rintro _ h40 _ E40 ⟨x40, za, rfl, rfl, zaa, zab⟩
    refine wp_norm [_, _, _, _] rfl ?_
    refine op_pure (pv_assign (v := .int .i64 _) rfl) ?_
    refine xp_seq ?_
    refine xp_dw [false, true] rfl rfl rfl ?_
    refine dw_load (i := 0) rfl (by decide +kernel) ?_
    refine op_loadPA 0 (vs := [.slice _ _ _, .slice _ _ _, .slice _ _ _, .slice _ _ _]) rfl rfl rfl rfl rfl ?_
    refine dw_load (i := 1) rfl (by decide +kernel) ?_
    refine op_loadPA 2 (vs := [.slice _ _ _, .slice _ _ _, .slice _ _ _, .slice _ _ _]) rfl rfl rfl rfl rfl ?_
    refine dw_load (i := 2) rfl (by decide +kernel) ?_
    refine op_loadPA 2 (vs := [.slice _ _ _, .slice _ _ _, .slice _ _ _, .slice _ _ _]) rfl rfl rfl rfl rfl ?_
    refine dw_pure (i := 4) rfl (by decide +kernel) (pv_move (v := .int .i64 _) rfl) ?_
    refine dw_pure (i := 5) rfl (by decide +kernel) (pv_move (v := .pointer _) rfl) ?_
    refine dw_pure (i := 7) rfl (by decide +kernel) (pv_move (v := .int .i64 _) rfl) ?_
    refine dw_pure (i := 9) rfl (by decide +kernel) (pv_move (v := .int .i64 _) rfl) ?_
    refine dw_pure (i := 10) rfl (by decide +kernel) (pv_move (v := .int .i64 _) rfl) ?_
    refine dw_pure (i := 11) rfl (by decide +kernel) (pv_move (v := .int .i64 _) rfl) ?_
    refine dw_pure (i := 13) rfl (by decide +kernel) (pv_move (v := .int .i64 _) rfl) ?_
    refine dw_pure (i := 14) rfl (by decide +kernel) (pv_move (v := .pointer _) rfl) ?_
    refine dw_pure (i := 15) rfl (by decide +kernel) (pv_move (v := .int .i64 _) rfl) ?_
    refine dw_pure (i := 16) rfl (by decide +kernel) (pv_move (v := .int .i64 _) rfl) ?_
    refine dw_pure (i := 18) rfl (by decide +kernel) (pv_move (v := .int .i64 _) rfl) ?_
    refine dw_pure (i := 20) rfl (by decide +kernel) (pv_move (v := .int .i64 _) rfl) ?_
    refine dw_pure (i := 21) rfl (by decide +kernel) (pv_move (v := .pointer _) rfl) ?_
    refine dw_pure (i := 23) rfl (by decide +kernel) (pv_move (v := .int .i64 _) rfl) ?_
    refine dw_pure (i := 25) rfl (by decide +kernel) (pv_move (v := .int .i64 _) rfl) ?_
    refine dw_pure (i := 26) rfl (by decide +kernel) (pv_move (v := .pointer _) rfl) ?_
    refine dw_pure (i := 27) rfl (by decide +kernel) (pv_fieldAddr rfl rfl rfl rfl 2 rfl) ?_
    refine dw_load (i := 28) rfl (by decide +kernel) ?_
    refine op_loadP 2 (v := .slice _ _ _) rfl rfl rfl rfl ?_
    refine dw_pure (i := 29) rfl (by decide +kernel) (pv_len rfl rfl) ?_
    refine dw_pure (i := 30) rfl (by decide +kernel) (pv_arith rfl (by omega)) ?_
    refine dw_pure (i := 32) rfl (by decide +kernel) (pv_move (v := .int .i64 _) rfl) ?_
    refine dw_pure (i := 34) rfl (by decide +kernel) (pv_move (v := .int .i64 _) rfl) ?_
    refine dw_pure (i := 35) rfl (by decide +kernel) (pv_move (v := .pointer _) rfl) ?_
    refine dw_pure (i := 36) rfl (by decide +kernel) (pv_move (v := .int .i64 _) rfl) ?_
    refine dw_pure (i := 38) rfl (by decide +kernel) (pv_move (v := .int .i64 _) rfl) ?_
    refine dw_eff (i := 6) rfl (by decide +kernel) ?_
    refine op_fnMM [_] [_] [_, _] (vs := [.pointer _, .int .i64 _, .int .i64 _]) rfl rfl rfl ((Within_ok bp x40 1 2 (by omega) (by omega) (by omega) h40)) ?_
    rintro _ h41 _ E41 ⟨x41, zk, rfl, rfl, zka, zkb⟩
    refine ⟨ext_wlm E41 _, ?_⟩
    refine dw_norm [_, _, _, _] rfl ?_
    refine dw_eff (i := 17) rfl (by decide +kernel) ?_
    refine op_fnMM [_] [_] [_, _] (vs := [.pointer _, .int .i64 _, .int .i64 _]) rfl rfl rfl ((Within_ok bp x41 za ((s.heats.length : Int) - 1) (by omega) (by omega) (by omega) h41)) ?_
    rintro _ h42 _ E42 ⟨x42, zb, rfl, rfl, zba, zbb⟩
    refine ⟨ext_wlm E42 _, ?_⟩
    refine dw_norm [_, _, _, _] rfl ?_
    refine dw_eff (i := 22) rfl (by decide +kernel) ?_
    refine op_fnMM [_] [_] [_, _] (vs := [.pointer _, .int .i64 _, .int .i64 _]) rfl rfl rfl ((Within_ok bp x42 (-20) 20 (by omega) (by omega) (by omega) h42)) ?_
    rintro _ h43 _ E43 ⟨x43, zn, rfl, rfl, zna, znb⟩
    refine ⟨ext_wlm E43 _, ?_⟩
    refine dw_norm [_, _, _, _] rfl ?_
    refine dw_eff (i := 31) rfl (by decide +kernel) ?_
    refine op_fnMM [_] [_] [_, _] (vs := [.pointer _, .int .i64 _]) rfl rfl rfl ((Upto_ok bp x43 ((s.joints.length : Int) - 1) (by omega) h43)) ?_
    rintro _ h44 _ E44 ⟨x44, zj, rfl, rfl, zja, zjb⟩
    refine ⟨ext_wlm E44 _, ?_⟩
    refine dw_norm [_, _, _, _] rfl ?_
    refine dw_eff (i := 37) rfl (by decide +kernel) ?_
    refine op_fnMM [_] [_] [_, _] (vs := [.pointer _, .int .i64 _]) rfl rfl rfl ((Upto_ok bp x44 ((s.heats.length : Int) - 1) (by omega) h44)) ?_
    rintro _ h45 _ E45 ⟨x45, zw, rfl, rfl, zwa, zwb⟩
    refine ⟨ext_wlm E45 _, ?_⟩
    refine dw_norm [_, _, _, _] rfl ?_
    refine dw_eff (i := 3) rfl (by decide +kernel) ?_
    refine op_buildSlice (zc := [_, _, _, _]) (vs := [(0, .agg #[.slice _ _ _, .slice _ _ _, .slice _ _ _, .slice _ _ _]), (1, .agg #[.slice _ _ _, .slice _ _ _, .slice _ _ _, .slice _ _ _]), (2, .agg #[.slice _ _ _, .slice _ _ _, .slice _ _ _, .slice _ _ _])]) (cs := [_, _, _, _, _, _, _, _, _, _, _, _]) rfl rfl rfl rfl rfl rfl rfl fun b59 hb59 => ?_
    refine ⟨ext_newM hb59 _, ?_⟩
    refine dw_norm [_, _, _, _, _] rfl ?_
    refine dw_pure (i := 40) rfl (by decide +kernel) (pv_assign (v := .slice _ _ _) rfl) ?_
    refine dw_eff (i := 8) rfl (by decide +kernel) ?_
    refine op_buildSlice (zc := [_]) (vs := [(0, .int .i64 _), (1, .int .i64 _), (2, .int .i64 _)]) (cs := [_, _, _]) rfl rfl rfl rfl rfl rfl rfl fun b64 hb64 => ?_
    refine ⟨ext_newM hb64 _, ?_⟩
    refine dw_norm [_, _, _, _, _, _] rfl ?_
    refine dw_pure (i := 41) rfl (by decide +kernel) (pv_assign (v := .slice _ _ _) rfl) ?_
    refine dw_eff (i := 12) rfl (by decide +kernel) ?_
    refine op_buildSlice (zc := [_]) (vs := [(0, .int .i64 _), (1, .int .i64 _), (2, .int .i64 _)]) (cs := [_, _, _]) rfl rfl rfl rfl rfl rfl rfl fun b68 hb68 => ?_
    refine ⟨ext_newM hb68 _, ?_⟩
    refine dw_norm [_, _, _, _, _, _, _] rfl ?_
    refine dw_pure (i := 42) rfl (by decide +kernel) (pv_assign (v := .slice _ _ _) rfl) ?_
    refine dw_eff (i := 19) rfl (by decide +kernel) ?_
    refine op_buildSlice (zc := [_]) (vs := [(0, .int .i64 _), (1, .int .i64 _), (2, .int .i64 _)]) (cs := [_, _, _]) rfl rfl rfl rfl rfl rfl rfl fun b75 hb75 => ?_
    refine ⟨ext_newM hb75 _, ?_⟩
    refine dw_norm [_, _, _, _, _, _, _, _] rfl ?_
    refine dw_pure (i := 43) rfl (by decide +kernel) (pv_assign (v := .slice _ _ _) rfl) ?_
    refine dw_eff (i := 24) rfl (by decide +kernel) ?_
    refine op_buildSlice (zc := [_]) (vs := [(0, .int .i64 _), (1, .int .i64 _), (2, .int .i64 _)]) (cs := [_, _, _]) rfl rfl rfl rfl rfl rfl rfl fun b80 hb80 => ?_
    refine ⟨ext_newM hb80 _, ?_⟩
    refine dw_norm [_, _, _, _, _, _, _, _, _] rfl ?_
    refine dw_pure (i := 44) rfl (by decide +kernel) (pv_assign (v := .slice _ _ _) rfl) ?_
    refine dw_eff (i := 33) rfl (by decide +kernel) ?_
    refine op_buildSlice (zc := [_]) (vs := [(0, .int .i64 _), (1, .int .i64 _), (2, .int .i64 _)]) (cs := [_, _, _]) rfl rfl rfl rfl rfl rfl rfl fun b89 hb89 => ?_
    refine ⟨ext_newM hb89 _, ?_⟩
    refine dw_norm [_, _, _, _, _, _, _, _, _, _] rfl ?_
    refine dw_pure (i := 45) rfl (by decide +kernel) (pv_assign (v := .slice _ _ _) rfl) ?_
    refine dw_eff (i := 39) rfl (by decide +kernel) ?_
    refine op_buildSlice (zc := [_]) (vs := [(0, .int .i64 _), (1, .int .i64 _), (2, .int .i64 _)]) (cs := [_, _, _]) rfl rfl rfl rfl rfl rfl rfl fun b95 hb95 => ?_
    refine ⟨ext_newM hb95 _, ?_⟩
    refine dw_norm [_, _, _, _, _, _, _, _, _, _, _] rfl ?_
    refine dw_pure (i := 46) rfl (by decide +kernel) (pv_assign (v := .slice _ _ _) rfl) ?_
    refine dw_end rfl ?_
    refine goes_pub 4 rfl ?_
    intro g0 G0 Q0
    refine goes_pub 5 rfl ?_
    intro g1 G1 Q1
    refine goes_pub 6 rfl ?_
    intro g2 G2 Q2
    refine goes_pub 7 rfl ?_
    intro g3 G3 Q3
    refine goes_pub 8 rfl ?_
    intro g4 G4 Q4
    refine goes_pub 9 rfl ?_
    intro g5 G5 Q5
    refine goes_pub 10 rfl ?_
    intro g6 GZ Q6
    obtain ⟨rs, ers⟩ : ∃ rs : List SRec, rs = [⟨A0, A1, A2, A3, c0, c1, c2, c3, s0⟩, ⟨B0, B1, B2, B3, d0, d1, d2, d3, s⟩, ⟨B0, B1, B2, B3, d0, d1, d2, d3, s⟩] := ⟨_, rfl⟩
    have RR : Row g6 4 srC (some ⟨b59, 0, none⟩) rs := (show Row g0 4 srC _ rs from by rw [ers]; exact row_junk (junk := []) (fun _ => rfl) Q0).ext (Ext.trans (Ext.trans (Ext.trans (Ext.trans (Ext.trans G1 G2) G3) G4) G5) GZ)
    obtain ⟨zlk, ezlk⟩ : ∃ zl : List Int, zl = [kd, zk, kd] := ⟨_, rfl⟩
    have RIk : Row g6 1 intC (some ⟨b64, 0, none⟩) zlk := (show Row g1 1 intC _ zlk from by rw [ezlk]; exact row_junk (junk := []) (fun _ => rfl) Q1).ext (Ext.trans (Ext.trans (Ext.trans (Ext.trans G2 G3) G4) G5) GZ)
    have hzlk : zlk.length = 3 := by rw [ezlk]; rfl
    obtain ⟨zla, ezla⟩ : ∃ zl : List Int, zl = [fr, za, fr] := ⟨_, rfl⟩
    have RIa : Row g6 1 intC (some ⟨b68, 0, none⟩) zla := (show Row g2 1 intC _ zla from by rw [ezla]; exact row_junk (junk := []) (fun _ => rfl) Q2).ext (Ext.trans (Ext.trans (Ext.trans G3 G4) G5) GZ)
    have hzla : zla.length = 3 := by rw [ezla]; rfl
    obtain ⟨zlb, ezlb⟩ : ∃ zl : List Int, zl = [to, zb, to] := ⟨_, rfl⟩
    have RIb : Row g6 1 intC (some ⟨b75, 0, none⟩) zlb := (show Row g3 1 intC _ zlb from by rw [ezlb]; exact row_junk (junk := []) (fun _ => rfl) Q3).ext (Ext.trans (Ext.trans G4 G5) GZ)
    have hzlb : zlb.length = 3 := by rw [ezlb]; rfl
    obtain ⟨zln, ezln⟩ : ∃ zl : List Int, zl = [dd, zn, dd] := ⟨_, rfl⟩
    have RIn : Row g6 1 intC (some ⟨b80, 0, none⟩) zln := (show Row g4 1 intC _ zln from by rw [ezln]; exact row_junk (junk := []) (fun _ => rfl) Q4).ext (Ext.trans G5 GZ)
    have hzln : zln.length = 3 := by rw [ezln]; rfl
    obtain ⟨zlj, ezlj⟩ : ∃ zl : List Int, zl = [jn, zj, jn] := ⟨_, rfl⟩
    have RIj : Row g6 1 intC (some ⟨b89, 0, none⟩) zlj := (show Row g5 1 intC _ zlj from by rw [ezlj]; exact row_junk (junk := []) (fun _ => rfl) Q5).ext GZ
    have hzlj : zlj.length = 3 := by rw [ezlj]; rfl
    obtain ⟨zlw, ezlw⟩ : ∃ zl : List Int, zl = [wk, zw, wk] := ⟨_, rfl⟩
    have RIw : Row g6 1 intC (some ⟨b95, 0, none⟩) zlw := (show Row g6 1 intC _ zlw from by rw [ezlw]; exact row_junk (junk := []) (fun _ => rfl) Q6)
    have hzlw : zlw.length = 3 := by rw [ezlw]; rfl
    have hrl : rs.length = 3 := by rw [ers]; rfl
    have hok : ∀ r ∈ rs, SROk g6 r := by
      intro r hr
      rw [ers] at hr
      simp only [List.mem_cons, List.not_mem_nil, or_false] at hr
      rcases hr with rfl | rfl | rfl
      · exact ⟨R.ext (Ext.trans (Ext.trans (Ext.trans (Ext.trans (Ext.trans (Ext.trans (Ext.trans (Ext.trans (Ext.trans (Ext.trans (Ext.trans (Ext.trans (Ext.trans (Ext.trans (Ext.trans E1 E2) E3) E40) E41) E42) E43) E44) E45) G0) G1) G2) G3) G4) G5) GZ), by show s0.heats.length ≤ 30; omega, by show s0.damps.length ≤ 30; omega, by show s0.joints.length ≤ 30; omega, by show s0.reports.length ≤ 30; omega⟩
      · exact ⟨RS.ext (Ext.trans (Ext.trans (Ext.trans (Ext.trans (Ext.trans (Ext.trans (Ext.trans (Ext.trans (Ext.trans (Ext.trans (Ext.trans (Ext.trans E40 E41) E42) E43) E44) E45) G0) G1) G2) G3) G4) G5) GZ), hsb.1, hsb.2.1, hsb.2.2.1, hsb.2.2.2⟩
      · exact ⟨RS.ext (Ext.trans (Ext.trans (Ext.trans (Ext.trans (Ext.trans (Ext.trans (Ext.trans (Ext.trans (Ext.trans (Ext.trans (Ext.trans (Ext.trans E40 E41) E42) E43) E44) E45) G0) G1) G2) G3) G4) G5) GZ), hsb.1, hsb.2.1, hsb.2.2.1, hsb.2.2.2⟩
    clear ers ezlk ezla ezlb ezln ezlj ezlw
    refine xp_seq ?_
    refine xp_seq ?_
    refine xp_region rfl ?_
    refine op_pure (pv_assign (v := .int .i64 _) rfl) ?_
    refine xp_block ?_
    refine xp_loopB [16, 29, 30, 31, 32, 33, 34, 35, 36, 37, 38, 96, 97, 98, 99, 100, 101, 102, 103, 104, 105, 106, 107, 108, 109, 110, 111, 112, 113, 114, 115, 116, 117, 118, 119, 120, 121, 122, 123, 124, 125, 126, 127, 128, 129, 130, 131, 132, 133, 134, 135, 136, 137, 138, 139, 140, 141, 142, 143, 144, 145, 146, 147, 148, 149, 150, 151, 152, 153, 154, 155, 156, 157, 158, 159, 160, 161, 162, 163, 164, 165, 166, 167, 168, 169, 170, 171, 172, 173, 174, 175, 176, 177, 178, 179, 180, 181, 182, 183, 184, 185, 186, 187, 188, 189, 190, 191, 192, 193, 194, 195, 196, 197, 198, 199, 200, 201, 202, 203, 204, 205, 206, 207, 208] 11 (α := Nat) (fun i => [(29, .int .i64 i)]) (fun i => _) (fun i h_i => i ≤ 3) (fun i => 3 - i) (0) ⟨rfl, trivial⟩ (rfl) (Nat.zero_le _) ?_
    rintro i T1 h_i E_i J_i
    refine goes_norm [_, _, _, _, _, _, _, _, _, _, _] rfl ?_
    refine xp_seq ?_
    refine xp_seq ?_
    refine xp_region rfl ?_
    refine op_pure (pv_move (v := .int .i64 _) rfl) ?_
    refine op_pure (pv_move (v := .slice _ _ _) rfl) ?_
    refine op_pure (pv_len rfl rfl) ?_
    refine op_pure (pv_of (v := .bool _) rfl) ?_
    refine xp_cond rfl (fun hi => ?_) (fun hi => ?_)
    · skip
      have hi4 : i < 3 := by have := of_decide_eq_true hi; omega
      obtain ⟨r, er⟩ : ∃ r, r = rs[i]'(by omega) := ⟨_, rfl⟩
      have o := hok r (by rw [er]; exact List.getElem_mem _)
      have o0 := o.h0
      have o1 := o.h1
      have o2 := o.h2
      have o3 := o.h3
      obtain ⟨gr, or, hBr, hcr⟩ := RR.at (by omega) (show i < rs.length by omega)
      rw [← er] at hcr
      obtain ⟨gzk, ozk, hBzk, hczk⟩ := RIk.at (by omega) (show i < zlk.length by omega)
      obtain ⟨yk, eyk⟩ : ∃ y, y = zlk[i]'(by omega) := ⟨_, rfl⟩
      rw [← eyk] at hczk
      obtain ⟨gza, oza, hBza, hcza⟩ := RIa.at (by omega) (show i < zla.length by omega)
      obtain ⟨ya, eya⟩ : ∃ y, y = zla[i]'(by omega) := ⟨_, rfl⟩
      rw [← eya] at hcza
      obtain ⟨gzb, ozb, hBzb, hczb⟩ := RIb.at (by omega) (show i < zlb.length by omega)
      obtain ⟨yb, eyb⟩ : ∃ y, y = zlb[i]'(by omega) := ⟨_, rfl⟩
      rw [← eyb] at hczb
      obtain ⟨gzn, ozn, hBzn, hczn⟩ := RIn.at (by omega) (show i < zln.length by omega)
      obtain ⟨yn, eyn⟩ : ∃ y, y = zln[i]'(by omega) := ⟨_, rfl⟩
      rw [← eyn] at hczn
      obtain ⟨gzj, ozj, hBzj, hczj⟩ := RIj.at (by omega) (show i < zlj.length by omega)
      obtain ⟨yj, eyj⟩ : ∃ y, y = zlj[i]'(by omega) := ⟨_, rfl⟩
      rw [← eyj] at hczj
      obtain ⟨gzw, ozw, hBzw, hczw⟩ := RIw.at (by omega) (show i < zlw.length by omega)
      obtain ⟨yw, eyw⟩ : ∃ y, y = zlw[i]'(by omega) := ⟨_, rfl⟩
      rw [← eyw] at hczw
      have Sm := o.small
      refine xp_skip ?_
      refine xp_seq ?_
      refine xp_block ?_
      refine xp_seq ?_
      refine xp_region rfl ?_
      refine op_pure (pv_move (v := .slice _ _ _) rfl) ?_
      refine op_pure (pv_move (v := .int .i64 _) rfl) ?_
      refine op_pure (pv_indexE rfl hBr rfl rfl rfl (by omega) (by omega)) ?_
      refine op_loadA rfl rfl rfl rfl (hcr.ext E_i) ?_
      refine op_fn (caps := []) (vs := [.agg #[.slice _ _ _, .slice _ _ _, .slice _ _ _, .slice _ _ _]]) rfl rfl rfl (CopySeasonT_ok r.s r.A0 r.A1 r.A2 r.A3 r.c0 r.c1 r.c2 r.c3 h_i (o.R.ext E_i) (by omega) (by omega) (by omega) (by omega)) ?_
      rintro _ h6 E6 ⟨D0, D1, D2, D3, e0, e1, e2, e3, rfl, RO⟩
      refine op_alloc (cs := [_, _, _, _]) rfl rfl fun b30 hb30 => ?_
      refine wp_norm [_, _, _, _, _, _, _, _, _, _, _, _] rfl ?_
      refine op_storeP 11 (v := .agg #[.slice _ _ _, .slice _ _ _, .slice _ _ _, .slice _ _ _]) (vs := [_, _, _, _]) (c' := [_, _, _, _]) rfl rfl rfl rfl rfl rfl rfl rfl rfl ?_
      refine wp_norm [_, _, _, _, _, _, _, _, _, _, _, _] rfl ?_
      refine xp_seq ?_
      refine xp_dw [] rfl rfl rfl ?_
      refine dw_load (i := 0) rfl (by decide +kernel) ?_
      refine op_loadPA 11 (vs := [.slice _ _ _, .slice _ _ _, .slice _ _ _, .slice _ _ _]) rfl rfl rfl rfl rfl ?_
      refine dw_pure (i := 1) rfl (by decide +kernel) (pv_move (v := .slice _ _ _) rfl) ?_
      refine dw_pure (i := 2) rfl (by decide +kernel) (pv_move (v := .int .i64 _) rfl) ?_
      refine dw_pure (i := 3) rfl (by decide +kernel) (pv_indexE rfl hBzk rfl rfl rfl (by omega) (by omega)) ?_
      refine dw_load (i := 4) rfl (by decide +kernel) ?_
      refine op_load (v := .int .i64 yk) rfl rfl ((hczk.ext (Ext.trans E_i E6)) 0 _ rfl) ?_
      refine dw_pure (i := 5) rfl (by decide +kernel) (pv_move (v := .slice _ _ _) rfl) ?_
      refine dw_pure (i := 6) rfl (by decide +kernel) (pv_move (v := .int .i64 _) rfl) ?_
      refine dw_pure (i := 7) rfl (by decide +kernel) (pv_indexE rfl hBza rfl rfl rfl (by omega) (by omega)) ?_
      refine dw_load (i := 8) rfl (by decide +kernel) ?_
      refine op_load (v := .int .i64 ya) rfl rfl ((hcza.ext (Ext.trans E_i E6)) 0 _ rfl) ?_
      refine dw_pure (i := 9) rfl (by decide +kernel) (pv_move (v := .slice _ _ _) rfl) ?_
      refine dw_pure (i := 10) rfl (by decide +kernel) (pv_move (v := .int .i64 _) rfl) ?_
      refine dw_pure (i := 11) rfl (by decide +kernel) (pv_indexE rfl hBzb rfl rfl rfl (by omega) (by omega)) ?_
      refine dw_load (i := 12) rfl (by decide +kernel) ?_
      refine op_load (v := .int .i64 yb) rfl rfl ((hczb.ext (Ext.trans E_i E6)) 0 _ rfl) ?_
      refine dw_pure (i := 13) rfl (by decide +kernel) (pv_move (v := .slice _ _ _) rfl) ?_
      refine dw_pure (i := 14) rfl (by decide +kernel) (pv_move (v := .int .i64 _) rfl) ?_
      refine dw_pure (i := 15) rfl (by decide +kernel) (pv_indexE rfl hBzn rfl rfl rfl (by omega) (by omega)) ?_
      refine dw_load (i := 16) rfl (by decide +kernel) ?_
      refine op_load (v := .int .i64 yn) rfl rfl ((hczn.ext (Ext.trans E_i E6)) 0 _ rfl) ?_
      refine dw_last (i := 17) rfl (by decide +kernel) (by decide +kernel) ?_
      refine op_fn (caps := []) (vs := [.agg #[.slice _ _ _, .slice _ _ _, .slice _ _ _, .slice _ _ _], .int .i64 _, .int .i64 _, .int .i64 _, .int .i64 _]) rfl rfl rfl (Harder_ok r.s Sm yk ya yb yn D0 D1 D2 D3 e0 e1 e2 e3 h6 (RO.ext (Ext.refl _))) ?_
      rintro _ h7 E7 ⟨_, rfl, X0, X1, X2, X3, m0, m1, m2, m3, rfl, RX⟩
      refine dw_pure (i := 18) rfl (by decide +kernel) (pv_move (v := .tuple #[.agg #[.slice _ _ _, .slice _ _ _, .slice _ _ _, .slice _ _ _], .int .i64 _]) rfl) ?_
      refine dw_pure (i := 19) rfl (by decide +kernel) (pv_of (v := .agg #[.slice _ _ _, .slice _ _ _, .slice _ _ _, .slice _ _ _]) rfl) ?_
      refine dw_pure (i := 20) rfl (by decide +kernel) (pv_of (v := .int .i64 _) rfl) ?_
      refine dw_eff (i := 21) rfl (by decide +kernel) ?_
      refine op_alloc (cs := [_, _, _, _]) rfl rfl fun b31 hb31 => ?_
      refine ⟨ext_new hb31 _, ?_⟩
      refine dw_norm [_, _, _, _, _, _, _, _, _, _, _, _, _] rfl ?_
      refine dw_last (i := 22) rfl (by decide +kernel) (by decide +kernel) ?_
      refine op_storeP 12 (v := .agg #[.slice _ _ _, .slice _ _ _, .slice _ _ _, .slice _ _ _]) (vs := [_, _, _, _]) (c' := [_, _, _, _]) rfl rfl rfl rfl rfl rfl rfl rfl rfl ?_
      refine dw_norm [_, _, _, _, _, _, _, _, _, _, _, _, _] rfl ?_
      refine dw_pure (i := 23) rfl (by decide +kernel) (pv_assign (v := .int .i64 _) rfl) ?_
      refine dw_end rfl ?_
      refine xp_seq ?_
      refine xp_dw [] rfl rfl rfl ?_
      refine dw_pure (i := 0) rfl (by decide +kernel) (pv_move (v := .slice _ _ _) rfl) ?_
      refine dw_pure (i := 1) rfl (by decide +kernel) (pv_move (v := .int .i64 _) rfl) ?_
      refine dw_pure (i := 2) rfl (by decide +kernel) (pv_indexE rfl hBr rfl rfl rfl (by omega) (by omega)) ?_
      refine dw_load (i := 3) rfl (by decide +kernel) ?_
      refine op_loadA rfl rfl rfl rfl (hcr.ext (Ext.trans (Ext.trans E_i E6) E7)) ?_
      refine dw_pure (i := 4) rfl (by decide +kernel) (pv_move (v := .slice _ _ _) rfl) ?_
      refine dw_pure (i := 5) rfl (by decide +kernel) (pv_move (v := .int .i64 _) rfl) ?_
      refine dw_pure (i := 6) rfl (by decide +kernel) (pv_indexE rfl hBzk rfl rfl rfl (by omega) (by omega)) ?_
      refine dw_load (i := 7) rfl (by decide +kernel) ?_
      refine op_load (v := .int .i64 yk) rfl rfl ((hczk.ext (Ext.trans (Ext.trans E_i E6) E7)) 0 _ rfl) ?_
      refine dw_pure (i := 8) rfl (by decide +kernel) (pv_move (v := .slice _ _ _) rfl) ?_
      refine dw_pure (i := 9) rfl (by decide +kernel) (pv_move (v := .int .i64 _) rfl) ?_
      refine dw_pure (i := 10) rfl (by decide +kernel) (pv_indexE rfl hBza rfl rfl rfl (by omega) (by omega)) ?_
      refine dw_load (i := 11) rfl (by decide +kernel) ?_
      refine op_load (v := .int .i64 ya) rfl rfl ((hcza.ext (Ext.trans (Ext.trans E_i E6) E7)) 0 _ rfl) ?_
      refine dw_pure (i := 12) rfl (by decide +kernel) (pv_move (v := .slice _ _ _) rfl) ?_
      refine dw_pure (i := 13) rfl (by decide +kernel) (pv_move (v := .int .i64 _) rfl) ?_
      refine dw_pure (i := 14) rfl (by decide +kernel) (pv_indexE rfl hBzb rfl rfl rfl (by omega) (by omega)) ?_
      refine dw_load (i := 15) rfl (by decide +kernel) ?_
      refine op_load (v := .int .i64 yb) rfl rfl ((hczb.ext (Ext.trans (Ext.trans E_i E6) E7)) 0 _ rfl) ?_
      refine dw_pure (i := 16) rfl (by decide +kernel) (pv_move (v := .slice _ _ _) rfl) ?_
      refine dw_pure (i := 17) rfl (by decide +kernel) (pv_move (v := .int .i64 _) rfl) ?_
      refine dw_pure (i := 18) rfl (by decide +kernel) (pv_indexE rfl hBzn rfl rfl rfl (by omega) (by omega)) ?_
      refine dw_load (i := 19) rfl (by decide +kernel) ?_
      refine op_load (v := .int .i64 yn) rfl rfl ((hczn.ext (Ext.trans (Ext.trans E_i E6) E7)) 0 _ rfl) ?_
      refine dw_last (i := 20) rfl (by decide +kernel) (by decide +kernel) ?_
      refine op_fn (caps := []) (vs := [.agg #[.slice _ _ _, .slice _ _ _, .slice _ _ _, .slice _ _ _], .int .i64 _, .int .i64 _, .int .i64 _, .int .i64 _]) rfl rfl rfl (rHarder_ok r.s Sm yk ya yb yn r.A0 r.A1 r.A2 r.A3 r.c0 r.c1 r.c2 r.c3 h7 (o.R.ext (Ext.trans (Ext.trans E_i E6) E7))) ?_
      rintro _ h8 E8 ⟨_, rfl, Y0, Y1, Y2, Y3, u0, u1, u2, u3, rfl, RY⟩
      refine dw_pure (i := 21) rfl (by decide +kernel) (pv_move (v := .tuple #[.agg #[.slice _ _ _, .slice _ _ _, .slice _ _ _, .slice _ _ _], .int .i64 _]) rfl) ?_
      refine dw_pure (i := 22) rfl (by decide +kernel) (pv_of (v := .agg #[.slice _ _ _, .slice _ _ _, .slice _ _ _, .slice _ _ _]) rfl) ?_
      refine dw_pure (i := 23) rfl (by decide +kernel) (pv_of (v := .int .i64 _) rfl) ?_
      refine dw_eff (i := 24) rfl (by decide +kernel) ?_
      refine op_alloc (cs := [_, _, _, _]) rfl rfl fun b33 hb33 => ?_
      refine ⟨ext_new hb33 _, ?_⟩
      refine dw_norm [_, _, _, _, _, _, _, _, _, _, _, _, _, _] rfl ?_
      refine dw_last (i := 25) rfl (by decide +kernel) (by decide +kernel) ?_
      refine op_storeP 13 (v := .agg #[.slice _ _ _, .slice _ _ _, .slice _ _ _, .slice _ _ _]) (vs := [_, _, _, _]) (c' := [_, _, _, _]) rfl rfl rfl rfl rfl rfl rfl rfl rfl ?_
      refine dw_norm [_, _, _, _, _, _, _, _, _, _, _, _, _, _] rfl ?_
      refine dw_pure (i := 26) rfl (by decide +kernel) (pv_assign (v := .int .i64 _) rfl) ?_
      refine dw_end rfl ?_
      refine xp_seq ?_
      refine xp_dw [] rfl rfl rfl ?_
      refine dw_load (i := 0) rfl (by decide +kernel) ?_
      refine op_loadPA 11 (vs := [.slice _ _ _, .slice _ _ _, .slice _ _ _, .slice _ _ _]) rfl rfl rfl rfl rfl ?_
      refine dw_pure (i := 1) rfl (by decide +kernel) (pv_move (v := .slice _ _ _) rfl) ?_
      refine dw_pure (i := 2) rfl (by decide +kernel) (pv_move (v := .int .i64 _) rfl) ?_
      refine dw_pure (i := 3) rfl (by decide +kernel) (pv_indexE rfl hBzj rfl rfl rfl (by omega) (by omega)) ?_
      refine dw_load (i := 4) rfl (by decide +kernel) ?_
      refine op_load (v := .int .i64 yj) rfl rfl ((hczj.ext (Ext.trans (Ext.trans (Ext.trans E_i E6) E7) E8)) 0 _ rfl) ?_
      refine dw_pure (i := 5) rfl (by decide +kernel) (pv_move (v := .slice _ _ _) rfl) ?_
      refine dw_pure (i := 6) rfl (by decide +kernel) (pv_move (v := .int .i64 _) rfl) ?_
      refine dw_pure (i := 7) rfl (by decide +kernel) (pv_indexE rfl hBzw rfl rfl rfl (by omega) (by omega)) ?_
      refine dw_load (i := 8) rfl (by decide +kernel) ?_
      refine op_load (v := .int .i64 yw) rfl rfl ((hczw.ext (Ext.trans (Ext.trans (Ext.trans E_i E6) E7) E8)) 0 _ rfl) ?_
      refine dw_last (i := 9) rfl (by decide +kernel) (by decide +kernel) ?_
      refine op_fn (caps := []) (vs := [.agg #[.slice _ _ _, .slice _ _ _, .slice _ _ _, .slice _ _ _], .int .i64 _, .int .i64 _]) rfl rfl rfl (Margin_ok r.s Sm yj yw D0 D1 D2 D3 e0 e1 e2 e3 h8 (RO.ext (Ext.trans E7 E8))) ?_
      rintro _ h9 E9 rfl
      refine dw_pure (i := 10) rfl (by decide +kernel) (pv_move (v := .tuple #[.int .i64 _, .int .i64 _]) rfl) ?_
      refine dw_pure (i := 11) rfl (by decide +kernel) (pv_of (v := .int .i64 _) rfl) ?_
      refine dw_pure (i := 12) rfl (by decide +kernel) (pv_of (v := .int .i64 _) rfl) ?_
      refine dw_pure (i := 13) rfl (by decide +kernel) (pv_assign (v := .int .i64 _) rfl) ?_
      refine dw_pure (i := 14) rfl (by decide +kernel) (pv_assign (v := .int .i64 _) rfl) ?_
      refine dw_end rfl ?_
      refine xp_seq ?_
      refine xp_dw [] rfl rfl rfl ?_
      refine dw_pure (i := 0) rfl (by decide +kernel) (pv_move (v := .slice _ _ _) rfl) ?_
      refine dw_pure (i := 1) rfl (by decide +kernel) (pv_move (v := .int .i64 _) rfl) ?_
      refine dw_pure (i := 2) rfl (by decide +kernel) (pv_indexE rfl hBr rfl rfl rfl (by omega) (by omega)) ?_
      refine dw_load (i := 3) rfl (by decide +kernel) ?_
      refine op_loadA rfl rfl rfl rfl (hcr.ext (Ext.trans (Ext.trans (Ext.trans (Ext.trans E_i E6) E7) E8) E9)) ?_
      refine dw_pure (i := 4) rfl (by decide +kernel) (pv_move (v := .slice _ _ _) rfl) ?_
      refine dw_pure (i := 5) rfl (by decide +kernel) (pv_move (v := .int .i64 _) rfl) ?_
      refine dw_pure (i := 6) rfl (by decide +kernel) (pv_indexE rfl hBzj rfl rfl rfl (by omega) (by omega)) ?_
      refine dw_load (i := 7) rfl (by decide +kernel) ?_
      refine op_load (v := .int .i64 yj) rfl rfl ((hczj.ext (Ext.trans (Ext.trans (Ext.trans (Ext.trans E_i E6) E7) E8) E9)) 0 _ rfl) ?_
      refine dw_pure (i := 8) rfl (by decide +kernel) (pv_move (v := .slice _ _ _) rfl) ?_
      refine dw_pure (i := 9) rfl (by decide +kernel) (pv_move (v := .int .i64 _) rfl) ?_
      refine dw_pure (i := 10) rfl (by decide +kernel) (pv_indexE rfl hBzw rfl rfl rfl (by omega) (by omega)) ?_
      refine dw_load (i := 11) rfl (by decide +kernel) ?_
      refine op_load (v := .int .i64 yw) rfl rfl ((hczw.ext (Ext.trans (Ext.trans (Ext.trans (Ext.trans E_i E6) E7) E8) E9)) 0 _ rfl) ?_
      refine dw_last (i := 12) rfl (by decide +kernel) (by decide +kernel) ?_
      refine op_fn (caps := []) (vs := [.agg #[.slice _ _ _, .slice _ _ _, .slice _ _ _, .slice _ _ _], .int .i64 _, .int .i64 _]) rfl rfl rfl (rMargin_ok r.s Sm yj yw r.A0 r.A1 r.A2 r.A3 r.c0 r.c1 r.c2 r.c3 h9 (o.R.ext (Ext.trans (Ext.trans (Ext.trans (Ext.trans E_i E6) E7) E8) E9))) ?_
      rintro _ h10 E10 rfl
      have hvl := harderV_len r.s yk ya yb yn
      have q0 : (harderE r.s yk ya yb yn != harderE r.s yk ya yb yn) = false := by simp
      have q1 : (marginV r.s yj yw != marginV r.s yj yw) = false := by simp
      have q2 : (marginE r.s yj yw != marginE r.s yj yw) = false := by simp
      have q3 : (!decide (harderV r.s yk ya yb yn = harderV r.s yk ya yb yn)) = false := by simp
      refine dw_pure (i := 13) rfl (by decide +kernel) (pv_move (v := .tuple #[.int .i64 _, .int .i64 _]) rfl) ?_
      refine dw_pure (i := 14) rfl (by decide +kernel) (pv_of (v := .int .i64 _) rfl) ?_
      refine dw_pure (i := 15) rfl (by decide +kernel) (pv_of (v := .int .i64 _) rfl) ?_
      refine dw_pure (i := 16) rfl (by decide +kernel) (pv_assign (v := .int .i64 _) rfl) ?_
      refine dw_pure (i := 17) rfl (by decide +kernel) (pv_assign (v := .int .i64 _) rfl) ?_
      refine dw_end rfl ?_
      refine xp_seq ?_
      refine xp_dw [] rfl rfl rfl ?_
      refine dw_pure (i := 0) rfl (by decide +kernel) (pv_move (v := .int .i64 _) rfl) ?_
      refine dw_pure (i := 1) rfl (by decide +kernel) (pv_move (v := .int .i64 _) rfl) ?_
      refine dw_pure (i := 2) rfl (by decide +kernel) (pv_of (v := .bool _) rfl) ?_
      refine dw_pure (i := 3) rfl (by decide +kernel) (pv_move (v := .bool _) rfl) ?_
      refine dw_pureG (i := 4) rfl (by decide +kernel) rfl q0 (pv_move (v := .int .i64 _) rfl) ?_
      refine dw_pureG (i := 5) rfl (by decide +kernel) rfl q0 (pv_move (v := .int .i64 _) rfl) ?_
      refine dw_pureG (i := 6) rfl (by decide +kernel) rfl q0 (pv_of (v := .bool _) rfl) ?_
      refine dw_pure (i := 7) rfl (by decide +kernel) (pv_pickF rfl q0 (v := .bool _) rfl) ?_
      refine dw_pure (i := 8) rfl (by decide +kernel) (pv_move (v := .bool _) rfl) ?_
      refine dw_pureG (i := 9) rfl (by decide +kernel) rfl q1 (pv_move (v := .int .i64 _) rfl) ?_
      refine dw_pureG (i := 10) rfl (by decide +kernel) rfl q1 (pv_move (v := .int .i64 _) rfl) ?_
      refine dw_pureG (i := 11) rfl (by decide +kernel) rfl q1 (pv_of (v := .bool _) rfl) ?_
      refine dw_pure (i := 12) rfl (by decide +kernel) (pv_pickF rfl q1 (v := .bool _) rfl) ?_
      refine dw_pure (i := 13) rfl (by decide +kernel) (pv_move (v := .bool _) rfl) ?_
      refine dw_loadG (i := 14) rfl (by decide +kernel) rfl q2 ?_
      refine op_loadPA 12 (vs := [.slice _ _ _, .slice _ _ _, .slice _ _ _, .slice _ _ _]) rfl rfl rfl rfl rfl ?_
      refine dw_loadG (i := 15) rfl (by decide +kernel) rfl q2 ?_
      refine op_loadPA 13 (vs := [.slice _ _ _, .slice _ _ _, .slice _ _ _, .slice _ _ _]) rfl rfl rfl rfl rfl ?_
      refine dw_lastG (i := 16) rfl (by decide +kernel) (by decide +kernel) rfl q2 ?_
      refine op_fn (caps := []) (vs := [.agg #[.slice _ _ _, .slice _ _ _, .slice _ _ _, .slice _ _ _], .agg #[.slice _ _ _, .slice _ _ _, .slice _ _ _, .slice _ _ _]]) rfl rfl rfl (sameSeasons_ok (harderV r.s yk ya yb yn) (harderV r.s yk ya yb yn) X0 X1 X2 X3 Y0 Y1 Y2 Y3 m0 m1 m2 m3 u0 u1 u2 u3 h10 (RX.ext (Ext.trans (Ext.trans E8 E9) E10)) (RY.ext (Ext.trans E9 E10)) (by omega) (by omega) (by omega) (by omega)) ?_
      rintro _ h14 E14 rfl
      refine dw_pureG (i := 17) rfl (by decide +kernel) rfl q2 (pv_of (v := .bool _) rfl) ?_
      refine dw_pure (i := 18) rfl (by decide +kernel) (pv_pickF rfl q2 (v := .bool _) rfl) ?_
      refine dw_pure (i := 19) rfl (by decide +kernel) (pv_move (v := .bool _) rfl) ?_
      refine dw_loadG (i := 20) rfl (by decide +kernel) rfl q3 ?_
      refine op_loadPA 11 (vs := [.slice _ _ _, .slice _ _ _, .slice _ _ _, .slice _ _ _]) rfl rfl rfl rfl rfl ?_
      refine dw_pureG (i := 21) rfl (by decide +kernel) rfl q3 (pv_move (v := .slice _ _ _) rfl) ?_
      refine dw_pureG (i := 22) rfl (by decide +kernel) rfl q3 (pv_move (v := .int .i64 _) rfl) ?_
      refine dw_pureG (i := 23) rfl (by decide +kernel) rfl q3 (pv_indexE rfl hBr rfl rfl rfl (by omega) (by omega)) ?_
      refine dw_loadG (i := 24) rfl (by decide +kernel) rfl q3 ?_
      refine op_loadA rfl rfl rfl rfl (hcr.ext (Ext.trans (Ext.trans (Ext.trans (Ext.trans (Ext.trans (Ext.trans E_i E6) E7) E8) E9) E10) E14)) ?_
      refine dw_lastG (i := 25) rfl (by decide +kernel) (by decide +kernel) rfl q3 ?_
      refine op_fn (caps := []) (vs := [.agg #[.slice _ _ _, .slice _ _ _, .slice _ _ _, .slice _ _ _], .agg #[.slice _ _ _, .slice _ _ _, .slice _ _ _, .slice _ _ _]]) rfl rfl rfl (sameSeasons_ok r.s r.s D0 D1 D2 D3 r.A0 r.A1 r.A2 r.A3 e0 e1 e2 e3 r.c0 r.c1 r.c2 r.c3 h14 (RO.ext (Ext.trans (Ext.trans (Ext.trans (Ext.trans E7 E8) E9) E10) E14)) (o.R.ext (Ext.trans (Ext.trans (Ext.trans (Ext.trans (Ext.trans (Ext.trans E_i E6) E7) E8) E9) E10) E14)) Sm.h0 Sm.h1 Sm.h2 Sm.h3) ?_
      rintro _ h12 E12 rfl
      refine dw_pureG (i := 26) rfl (by decide +kernel) rfl q3 (pv_of (v := .bool _) rfl) ?_
      refine dw_pure (i := 27) rfl (by decide +kernel) (pv_pickF rfl q3 (v := .bool _) rfl) ?_
      refine dw_end rfl ?_
      refine xp_condF rfl ((by simp)) ?_
      refine xp_skip ?_
      refine xp_region rfl ?_
      refine op_pure (pv_move (v := .int .i64 _) rfl) ?_
      refine op_pure (pv_arith rfl (by omega)) ?_
      refine op_pure (pv_assign (v := .int .i64 _) rfl) ?_
      refine ⟨i + 1, ⟨rfl, trivial⟩, rfl, rfl, (Ext.trans (Ext.trans (Ext.trans (Ext.trans (Ext.trans (Ext.trans (Ext.trans E_i E6) E7) E8) E9) E10) E14) E12), fun h3 E3 => hi4, by first | omega | (dsimp only; omega), ?_⟩
      repeat (first | exact off_base _ _ _ | refine off_upd (by decide) ?_ | refine off_updL rfl ?_ | refine off_mix rfl ?_)
    · skip
      refine xp_exit ?_
      refine xp_seq ?_
      refine xp_region rfl ?_
      refine op_fn (caps := []) (vs := []) rfl rfl rfl (warm_ok h_i) ?_
      rintro _ h9 E9 rfl
      refine op_pure (pv_assign (v := .bool _) rfl) ?_
      refine xp_ret ?_
      exact ⟨rfl, fun V => (Ext.trans (Ext.trans (Ext.trans (Ext.trans (Ext.trans (Ext.trans (Ext.trans (Ext.trans (Ext.trans (Ext.trans (Ext.trans (Ext.trans (Ext.trans (Ext.trans (Ext.trans (Ext.trans (Ext.trans (Ext.trans E1 E2) E3) E40) E41) E42) E43) E44) E45) G0) G1) G2) G3) G4) G5) GZ) E_i) E9) (ext_wl V)), rfl⟩
end Go.Proofs.Ytndfkbapoinmkaa
/- Walks: the law on wrong reports, over the reference. Conditions: as each theorem states. -/
namespace Go.Proofs.Ytndfkbapoinmkaa
open Go Go.HL Go.Proofs Go.Wx Go.RowKit
set_option maxRecDepth 100000
end Go.Proofs.Ytndfkbapoinmkaa
/- Walks: the law on looks, over the reference. Conditions: as each theorem states. -/
namespace Go.Proofs.Ytndfkbapoinmkaa
open Go Go.HL Go.Proofs Go.Wx Go.RowKit
set_option maxRecDepth 100000
end Go.Proofs.Ytndfkbapoinmkaa
