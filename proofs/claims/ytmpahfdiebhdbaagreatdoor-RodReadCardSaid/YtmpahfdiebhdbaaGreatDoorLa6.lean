/- An own logic over the model, its walks and its plain laws, joined of parts R14 R15 R16 R17 R18 GP R19 Rm Rn Ro R20 R21 U Uc Rp R23 R29 R30 R31 Rq R32 R25 R26 R33 R53 R34 R35 R36 R37 R38 R39 Rt R40 R41 R42 Ru R54 R55 X8 Uk Ud. Conditions: as each theorem states. -/
import Derived.Test.YtmpahfdiebhdbaaGreatDoorLa5
import Derived.Test.YtmpahfdiebhdbaaGreatDoorLa4
import Derived.Test.YtmpahfdiebhdbaaGreatDoorLa3
import Derived.Test.YtmpahfdiebhdbaaGreatDoorLa1
import Derived.Test.YtmpahfdiebhdbaaGreatDoorLa2
import Derived.Conc.LeavingOf
import Derived.LaidMore
import Derived.SevenTiedAt
import Derived.Test.YtmpahfdiebhdbaaGreatDoorRows
import Derived.Deep.Slices
import Derived.ProofKit
set_option linter.all false
/- Walks of package rod: all sets of numbers, handed out. Conditions: as each theorem states. -/
namespace Go.Proofs.YtmpahfdiebhdbaaGreatDoor
open Go Go.HL Go.Proofs Go.Wx Go.Rd
section
variable [Lvl]
set_option maxRecDepth 100000
theorem intP2 (x : Int) : (intC x).all plainB = true := rfl
theorem cloneIntF (l : List Int) (A : Option Addr) (c : Nat) (h : AH) (R : Row h 1 intC A l) (hl : l.length < 2 ^ 20) :
    FnM Tryz.prog (.func (.func 88) #[] ([] : List Value).toArray) [.slice A l.length c] h [] (fun v h' M' => ∃ p, M' = [p] ∧ ∃ a : Acc, p = a.p ∧ v = .slice a.A a.n a.c ∧ AccR 3 1 (l.flatMap intC) a) := by
  cases A with
  | none =>
    have h0 := R.none_nil (by omega)
    subst h0
    refine fnM_body rfl rfl Tryz.func88 rfl Tryz.ntmps88 rfl ?_
    refine xp_seq ?_
    refine xp_region rfl ?_
    refine op_pure (pv_assign (v := .slice _ _ _) rfl) ?_
    refine xp_seq ?_
    refine xp_seq ?_
    refine xp_region rfl ?_
    refine op_pure (pv_move (v := .slice _ _ _) rfl) ?_
    refine op_pure (pv_of (v := .bool _) rfl) ?_
    refine xp_cond rfl (fun ht => ?_) (fun ht => ?_)
    · skip
      refine xp_seq ?_
      refine xp_region rfl ?_
      refine op_pure (pv_assign (v := .slice _ _ _) rfl) ?_
      refine xp_ret ?_
      refine res_list (vs := [_]) Tryz.results88 ⟨resV_tmp rfl rfl, trivial⟩ fun V => ?_
      exact ⟨_, [none], rfl, V, (Ext.refl _), none, rfl, acc0, rfl, rfl, accR0⟩
    · cases ht
  | some a =>
    refine fnM_body rfl rfl Tryz.func88 rfl Tryz.ntmps88 rfl ?_
    refine xp_seq ?_
    refine xp_region rfl ?_
    refine op_pure (pv_assign (v := .slice _ _ _) rfl) ?_
    refine xp_seq ?_
    refine xp_seq ?_
    refine xp_region rfl ?_
    refine op_pure (pv_move (v := .slice _ _ _) rfl) ?_
    refine op_pure (pv_of (v := .bool _) rfl) ?_
    refine xp_cond rfl (fun ht => ?_) (fun ht => ?_)
    · cases ht
    · skip
      refine xp_skip ?_
      refine xp_seq ?_
      refine xp_region rfl ?_
      refine op_buildSlice (zc := [_]) (vs := []) (cs := []) rfl rfl rfl rfl rfl rfl rfl fun b5 hb5 => ?_
      refine wp_norm [_] rfl ?_
      refine op_pure (pv_move (v := .slice _ _ _) rfl) ?_
      refine op_appendR 0 accR_new rfl rfl rfl (fun V => R.2.ext (ext_wl V)) (flat_len R.1) (flat_plain intP2 l) rfl rfl rfl rfl rfl rfl rfl (by omega) rfl (by rw [flat_len R.1, List.length_nil]; omega) fun a2 h1a E1a ha2 => ?_
      refine wp_norm [_] rfl ?_
      refine op_pure (pv_assign (v := .slice _ _ _) rfl) ?_
      refine xp_ret ?_
      refine res_list (vs := [_]) Tryz.results88 ⟨resV_tmp rfl rfl, trivial⟩ fun V => ?_
      exact ⟨_, [_], rfl, V, E1a, _, rfl, a2, rfl, rfl, ha2⟩
theorem cloneInt_ok (l : List Int) (A : Option Addr) (c : Nat) (h : AH) (R : Row h 1 intC A l) (hl : l.length < 2 ^ 20) :
    FnT Tryz.prog 88 #[.slice A l.length c] h (fun v h' => SlR h' 1 intC l v) := by
  cases A with
  | none =>
    have h0 := R.none_nil (by omega)
    subst h0
    refine call_body Tryz.func88 rfl Tryz.ntmps88 rfl ?_
    refine xp_seq ?_
    refine xp_region rfl ?_
    refine op_pure (pv_assign (v := .slice _ _ _) rfl) ?_
    refine xp_seq ?_
    refine xp_seq ?_
    refine xp_region rfl ?_
    refine op_pure (pv_move (v := .slice _ _ _) rfl) ?_
    refine op_pure (pv_of (v := .bool _) rfl) ?_
    refine xp_cond rfl (fun ht => ?_) (fun ht => ?_)
    · skip
      refine xp_seq ?_
      refine xp_region rfl ?_
      refine op_pure (pv_assign (v := .slice _ _ _) rfl) ?_
      refine xp_ret ?_
      refine res_list (vs := [_]) Tryz.results88 ⟨resV_tmp rfl rfl, trivial⟩ fun V => ?_
      exact ⟨(ext_wl V), none, 0, rfl, ⟨fun _ _ => rfl, Rd.nil _ _⟩⟩
    · cases ht
  | some a =>
    refine call_body Tryz.func88 rfl Tryz.ntmps88 rfl ?_
    refine xp_seq ?_
    refine xp_region rfl ?_
    refine op_pure (pv_assign (v := .slice _ _ _) rfl) ?_
    refine xp_seq ?_
    refine xp_seq ?_
    refine xp_region rfl ?_
    refine op_pure (pv_move (v := .slice _ _ _) rfl) ?_
    refine op_pure (pv_of (v := .bool _) rfl) ?_
    refine xp_cond rfl (fun ht => ?_) (fun ht => ?_)
    · cases ht
    · skip
      refine xp_skip ?_
      refine xp_seq ?_
      refine xp_region rfl ?_
      refine op_buildSlice (zc := [_]) (vs := []) (cs := []) rfl rfl rfl rfl rfl rfl rfl fun b5 hb5 => ?_
      refine wp_norm [_] rfl ?_
      refine op_pure (pv_move (v := .slice _ _ _) rfl) ?_
      refine op_appendR 0 accR_new rfl rfl rfl (fun V => R.2.ext (ext_wl V)) (flat_len R.1) (flat_plain intP2 l) rfl rfl rfl rfl rfl rfl rfl (by omega) rfl (by rw [flat_len R.1, List.length_nil]; omega) fun a2 h1a E1a ha2 => ?_
      refine wp_norm [_] rfl ?_
      refine op_pure (pv_assign (v := .slice _ _ _) rfl) ?_
      refine xp_ret ?_
      refine res_list (vs := [_]) Tryz.results88 ⟨resV_tmp rfl rfl, trivial⟩ fun V => ?_
      exact ⟨(Ext.trans E1a (ext_wl V)), AccP.row (i := 0) ha2 (by omega) (fun _ _ => rfl) V rfl⟩
theorem fnM_args {P : Program} {y : Value} {vs vs' : List Value} {h : AH} {M : Pv} {R : Value → AH → Pv → Prop} (e : vs = vs') (c : FnM P y vs h M R) : FnM P y vs' h M R := e ▸ c
/-- A list of numbers, as a value. -/
def TI (h : AH) (x : List Int) (v : Value) : Prop := SlR h 1 intC x v
/-- The blocks that the closure grow reads. -/
structure ChoB (h : AH) (n : Nat) (y : Value) (b1 b2 b3 : Nat) : Prop where
  c1 : h b1 = some (.cells #[.int .i64 n] 3 (0, 0))
  c2 : ∃ t, h b2 = some (.cells #[y] t (0, 0))
  c3 : ∃ t, h b3 = some (.cells #[.func (.func 87) #[] #[.pointer (some ⟨b2, 0, none⟩), .pointer (some ⟨b1, 0, none⟩), .pointer (some ⟨b3, 0, none⟩)]] t (0, 0))
theorem ChoB.ext {h h' : AH} {n : Nat} {y : Value} {b1 b2 b3 : Nat} (B : ChoB h n y b1 b2 b3) (E : Ext h h') : ChoB h' n y b1 b2 b3 :=
  ⟨E _ _ B.c1, B.c2.imp fun _ e => E _ _ e, B.c3.imp fun _ e => E _ _ e⟩
/-- Where the numbers go on. -/
def From (l : List Int) (a : Nat) : Prop := (l = [] ∧ a = 0) ∨ ∃ (l0 : List Int) (i : Nat), l = l0 ++ [(i : Int)] ∧ a = i + 1
set_option maxHeartbeats 4000000 in
theorem grow_ok (n : Nat) (hn : n ≤ 30) (all : List (List Int)) (y : Value) (I : Nat → AH → Pv → Prop) (F : AH → Pv → Prop) (hI : ∀ k h h' M, Ext h h' → I k h M → I k h' M) (hF : ∀ h h' M, Ext h h' → F h M → F h' M) (Y : YieldsS Tryz.prog y all TI I F) (b1 b2 b3 : Nat) :
    ∀ (m a : Nat) (l : List Int) (B : Option Addr) (cB k : Nat) (h : AH) (M : Pv), ChoB h n y b1 b2 b3 → Row h 1 intC B l → l.length + m ≤ 40 → From l a → a ≤ 40 → I k h M → (∀ j s, (choM n m a l)[j]? = some s → all[k + j]? = some s) →
      FnM Tryz.prog (.func (.func 87) #[] [.pointer (some ⟨b2, 0, none⟩), .pointer (some ⟨b1, 0, none⟩), .pointer (some ⟨b3, 0, none⟩)].toArray) [.slice B l.length cB, .int .i64 m] h M (fun v h' M' => (v = .bool true ∧ I (k + (choM n m a l).length) h' M') ∨ (v = .bool false ∧ F h' M')) := by
  intro m
  induction m with
  | zero =>
    intro a l B cB k h M CB RB hlm hfr ha hi hall
    obtain ⟨t2, c2⟩ := CB.c2
    refine fnM_body rfl rfl Tryz.func87 rfl Tryz.ntmps87 rfl ?_
    refine goes_front ?_
    refine xp_seq ?_
    refine xp_region rfl ?_
    refine op_pure (pv_assign (v := .bool _) rfl) ?_
    refine xp_seq ?_
    refine xp_seq ?_
    refine xp_region rfl ?_
    refine op_pure (pv_move (v := .int .i64 _) rfl) ?_
    refine op_pure (pv_of (v := .bool _) rfl) ?_
    refine xp_condT rfl (rfl) ?_
    refine xp_seq ?_
    refine xp_dw [] rfl rfl rfl ?_
    refine dw_load (i := 0) rfl (by decide +kernel) ?_
    refine op_load (v := y) rfl rfl (by simp only [cellA, c2]; rfl) ?_
    refine dw_pure (i := 1) rfl (by decide +kernel) (pv_move (v := .slice _ _ _) rfl) ?_
    refine dw_eff (i := 2) rfl (by decide +kernel) ?_
    refine op_fn (caps := []) (vs := [.slice _ _ _]) rfl rfl rfl (cloneInt_ok l B cB h RB (by omega)) ?_
    rintro _ h1 E1 S1
    refine ⟨ext_wlm E1 _, ?_⟩
    obtain ⟨A1, c1, rfl, R1⟩ := id S1
    refine dw_last (i := 3) rfl (by decide +kernel) (by decide +kernel) ?_
    refine op_fnM [_] _ (vs := _) rfl rfl rfl (Y k l _ h1 M (by have := hall 0 l rfl; simpa using this) S1 (hI _ _ _ _ E1 hi)) ?_
    rintro r h2 M2 E2 hr
    rcases hr with ⟨rfl, i2⟩ | ⟨rfl, f2⟩
    · skip
      refine dw_pure (i := 4) rfl (by decide +kernel) (pv_assign (v := .bool _) rfl) ?_
      refine dw_end rfl ?_
      refine xp_ret ?_
      refine res_list (vs := [_]) Tryz.results87 ⟨resV_tmp rfl rfl, trivial⟩ fun V => ?_
      obtain ⟨h9, E9, e9, V9⟩ := wl_shed [_] _ V
      exact ⟨h9, _, e9, V9, Ext.trans (Ext.trans E1 E2) E9, .inl ⟨rfl, hI _ _ _ _ E9 i2⟩⟩
    · skip
      refine dw_pure (i := 4) rfl (by decide +kernel) (pv_assign (v := .bool _) rfl) ?_
      refine dw_end rfl ?_
      refine xp_ret ?_
      refine res_list (vs := [_]) Tryz.results87 ⟨resV_tmp rfl rfl, trivial⟩ fun V => ?_
      obtain ⟨h9, E9, e9, V9⟩ := wl_shed [_] _ V
      exact ⟨h9, _, e9, V9, Ext.trans (Ext.trans E1 E2) E9, .inr ⟨rfl, hF _ _ _ E9 f2⟩⟩
  | succ m ih =>
    intro a l B cB k h M CB RB hlm hfr ha hi hall
    obtain ⟨t3, c3⟩ := CB.c3
    refine fnM_body rfl rfl Tryz.func87 rfl Tryz.ntmps87 rfl ?_
    refine goes_front ?_
    refine xp_seq ?_
    refine xp_region rfl ?_
    refine op_pure (pv_assign (v := .bool _) rfl) ?_
    refine xp_seq ?_
    refine xp_seq ?_
    refine xp_region rfl ?_
    refine op_pure (pv_move (v := .int .i64 _) rfl) ?_
    refine op_pure (pv_of (v := .bool _) rfl) ?_
    refine xp_condF rfl (by simp; omega) ?_
    refine xp_skip ?_
    refine xp_seq ?_
    refine xp_region rfl ?_
    refine op_pure (pv_assign (v := .int .i64 _) rfl) ?_
    refine xp_cutB [8, 16, 17, 18, 19, 20, 21, 22, 23, 24, 25] (M.length + 1) (α := Unit) (fun u => [(8, .int .i64 (a : Int))]) (fun u L => L) (fun u h_u => True) ?_ ?_
    · skip
      refine xp_seq ?_
      refine xp_region rfl ?_
      refine op_pure (pv_move (v := .slice _ _ _) rfl) ?_
      refine op_pure (pv_len rfl rfl) ?_
      refine op_pure (pv_of (v := .bool _) rfl) ?_
      rcases hfr with ⟨rfl, rfl⟩ | ⟨l0, i0, rfl, rfl⟩
      · skip
        refine xp_condF rfl (rfl) ?_
        refine xp_skip ?_
        refine ⟨(), ⟨rfl, trivial⟩, rfl, by simp, (Ext.refl _), fun h3 E3 => by first | trivial | omega | (refine ⟨?_, ?_⟩ <;> omega), ?_⟩
        repeat (first | exact off_refl _ _ | exact off_base _ _ _ | refine off_upd (by decide) ?_ | refine off_updL rfl ?_ | refine off_mix rfl ?_)
      · skip
        have hl0 : (l0 ++ [(i0 : Int)]).length = l0.length + 1 := by simp
        have hx : l0.length < (l0 ++ [(i0 : Int)]).length := by omega
        have hix : (((l0 ++ [(i0 : Int)]).length : Int) - 1).toNat = l0.length := by omega
        have hge : (l0 ++ [(i0 : Int)])[l0.length] = (i0 : Int) := by simp
        obtain ⟨g, off, hA, hc⟩ := RB.at (by omega) hx
        rw [hge] at hc
        have hc : Cells h g (off + (((l0 ++ [(i0 : Int)]).length : Int) - 1).toNat * 1) (intC (i0 : Int)) := by rw [hix]; exact hc
        refine xp_condT rfl (by simp) ?_
        refine xp_region rfl ?_
        refine op_pure (pv_move (v := .slice _ _ _) rfl) ?_
        refine op_pure (pv_move (v := .slice _ _ _) rfl) ?_
        refine op_pure (pv_len rfl rfl) ?_
        refine op_pure (pv_arith rfl (by omega)) ?_
        refine op_pure (pv_indexE rfl hA rfl rfl rfl (by omega) (by omega)) ?_
        refine op_load (v := .int .i64 _) rfl rfl ((hc) 0 _ rfl) ?_
        refine op_pure (pv_arith rfl (by omega)) ?_
        refine op_pure (pv_assign (v := .int .i64 _) rfl) ?_
        refine ⟨(), ⟨rfl, trivial⟩, rfl, by simp, (Ext.refl _), fun h3 E3 => by first | trivial | omega | (refine ⟨?_, ?_⟩ <;> omega), ?_⟩
        repeat (first | exact off_refl _ _ | exact off_base _ _ _ | refine off_upd (by decide) ?_ | refine off_updL rfl ?_ | refine off_mix rfl ?_)
    · rintro u T1 h_u E_u J_u
      refine goes_norm (_ :: _) rfl ?_
      have hi := hI _ _ _ _ E_u hi
      have CB := CB.ext E_u
      have RB := RB.ext E_u
      have c3 := E_u _ _ c3
      obtain ⟨f, hfd⟩ : ∃ f, f = fun i : Nat => choM n m (i + 1) (l ++ [(i : Int)]) := ⟨_, rfl⟩
      have hcm : choM n (m + 1) a l = choP f a (n - a) := by rw [hfd]; rfl
      rw [hcm] at hall ⊢
      refine xp_seq ?_
      refine xp_seq ?_
      refine xp_region rfl ?_
      refine op_pure (pv_move (v := .int .i64 _) rfl) ?_
      refine op_pure (pv_assign (v := .int .i64 _) rfl) ?_
      refine xp_block ?_
      refine xp_loopN [7, 9, 27, 28, 29, 30, 31, 32, 33, 34, 35, 36, 37, 38, 39, 40, 41] (α := Nat × Pv) (fun ⟨d, M'⟩ => [(9, .int .i64 ((a + d : Nat) : Int))]) (fun ⟨d, M'⟩ => none :: M') (fun ⟨d, M'⟩ h_d => d ≤ n - a ∧ I (k + (choP f a d).length) h_d M') (fun ⟨d, M'⟩ => n - a - d) ((0, M)) ⟨rfl, trivial⟩ (rfl) (⟨Nat.zero_le _, by rw [choP_zero]; exact hi⟩) ?_
      rintro ⟨d, M'⟩ T2 h_d E_d J_d
      refine goes_norm (_ :: _) rfl ?_
      obtain ⟨K1, K2⟩ := J_d
      have CB' := CB.ext E_d
      refine xp_seq ?_
      refine xp_seq ?_
      refine xp_region rfl ?_
      refine op_pure (pv_move (v := .int .i64 _) rfl) ?_
      refine op_load (v := .int .i64 n) rfl rfl (by simp only [cellA, CB'.c1]; rfl) ?_
      refine op_pure (pv_of (v := .bool _) rfl) ?_
      refine xp_cond rfl (fun hd => ?_) (fun hd => ?_)
      · skip
        have hdl : a + d < n := ltI hd
        refine xp_skip ?_
        refine xp_seq ?_
        refine xp_block ?_
        refine xp_seq ?_
        refine xp_dw [true] rfl rfl rfl ?_
        refine dw_load (i := 0) rfl (by decide +kernel) ?_
        refine op_load (v := .func _ _ _) rfl rfl (by simp only [cellA, E_d _ _ c3]; rfl) ?_
        refine dw_pure (i := 1) rfl (by decide +kernel) (pv_move (v := .slice _ _ _) rfl) ?_
        refine dw_pure (i := 3) rfl (by decide +kernel) (pv_move (v := .int .i64 _) rfl) ?_
        refine dw_pure (i := 6) rfl (by decide +kernel) (pv_move (v := .int .i64 _) rfl) ?_
        refine dw_pure (i := 7) rfl (by decide +kernel) (pv_arith rfl (by omega)) ?_
        refine dw_eff (i := 2) rfl (by decide +kernel) ?_
        refine op_fnF 0 rfl rfl rfl (cloneIntF l B cB h_d (RB.ext E_d) (by omega)) ?_
        rintro _ h5 _ V5 E5 ⟨a1, rfl, rfl, ha1⟩
        refine ⟨ext_wlm E5 _, ?_⟩
        refine dw_norm (_ :: _) rfl ?_
        refine dw_eff (i := 4) rfl (by decide +kernel) ?_
        refine op_open ?_
        refine op_buildSlice (m := 1) (zc := [_]) (vs := [(_, .int .i64 _)]) (cs := [_]) rfl rfl rfl rfl rfl rfl rfl fun b36 hb36 => ?_
        refine ⟨rfl, _, _, rfl, fun h6 E6 hb6 => ?_⟩
        refine ⟨ext_wlm E6 _, ?_⟩
        refine dw_eff (i := 5) rfl (by decide +kernel) ?_
        refine op_appendR 0 ha1 rfl rfl rfl (fun V => (row_one hb6).2.ext (ext_wl V)) rfl rfl rfl rfl rfl rfl rfl rfl rfl (by omega) rfl (by rw [flat_len (m := 1) (fun _ _ => rfl)]; simp [intC]; omega) fun a2 h3a E3a ha2 => ?_
        refine ⟨ext_wlm E3a _, ?_⟩
        refine dw_norm (_ :: _) rfl ?_
        have hfm : l.flatMap intC ++ [Value.int .i64 ((a + d : Nat) : Int)] = (l ++ [((a + d : Nat) : Int)]).flatMap intC := by rw [List.flatMap_append]; rfl
        obtain ⟨gb, len2, cap2, junk2, hl2, rfl⟩ := AccR.some ha2 (by simp [intC])
        have e2 : len2 = (l ++ [((a + d : Nat) : Int)]).length := by rw [show List.flatMap intC [((a + d : Nat) : Int)] = [Value.int .i64 ((a + d : Nat) : Int)] from rfl, hfm, flat_len (m := 1) (fun _ _ => rfl)] at hl2; omega
        subst e2
        refine dw_pubM 0 rfl ?_
        intro h7 E7 p7
        refine dw_norm (_ :: _) rfl ?_
        have R2 : Row h7 1 intC (some ⟨gb, 0, none⟩) (l ++ [((a + d : Nat) : Int)]) := ⟨fun _ _ => rfl, by rw [← hfm]; exact AccR.rd ha2 (fun b o e => by cases e; exact p7)⟩
        refine dw_last (i := 8) rfl (by decide +kernel) (by decide +kernel) ?_
        refine op_fnM [_] _ (vs := [.slice _ _ _, .int .i64 _]) rfl rfl rfl (fnM_args (by simp only [List.cons.injEq, Value.int.injEq, true_and, and_true]; omega) (ih (a + d + 1) (l ++ [((a + d : Nat) : Int)]) _ cap2 (k + (choP f a d).length) h7 M' (CB.ext (Ext.trans (Ext.trans (Ext.trans (Ext.trans E_d E5) E6) E3a) E7)) R2 (by simp; omega) (.inr ⟨l, a + d, rfl, rfl⟩) (by omega) (hI _ _ _ _ (Ext.trans (Ext.trans (Ext.trans E5 E6) E3a) E7) K2) (fun j s hj => by rw [Nat.add_assoc]; exact hall _ s (choP_at (by omega) (by rw [hfd]; exact hj))))) ?_
        rintro r h8 M8 E8 hr
        have hfl : f (a + d) = choM n m (a + d + 1) (l ++ [((a + d : Nat) : Int)]) := by rw [hfd]
        rcases hr with ⟨rfl, i2⟩ | ⟨rfl, f2⟩
        · skip
          refine dw_pure (i := 9) rfl (by decide +kernel) (pv_of (v := .bool _) rfl) ?_
          refine dw_end rfl ?_
          refine xp_condF rfl (rfl) ?_
          refine xp_skip ?_
          refine xp_region rfl ?_
          refine op_pure (pv_move (v := .int .i64 _) rfl) ?_
          refine op_pure (pv_arith rfl (by omega)) ?_
          refine op_pure (pv_assign (v := .int .i64 _) rfl) ?_
          refine ⟨(d + 1, M8), ⟨intE (by omega), trivial⟩, rfl, rfl, (Ext.trans (Ext.trans (Ext.trans (Ext.trans (Ext.trans E_d E5) E6) E3a) E7) E8), ⟨by omega, by rw [choP_succ, List.length_append, ← Nat.add_assoc, hfl]; exact i2⟩, by first | omega | (dsimp only; omega), ?_⟩
          repeat (first | exact off_base _ _ _ | refine off_upd (by decide) ?_ | refine off_updL rfl ?_ | refine off_mix rfl ?_)
        · skip
          refine dw_pure (i := 9) rfl (by decide +kernel) (pv_of (v := .bool _) rfl) ?_
          refine dw_end rfl ?_
          refine xp_condT rfl (rfl) ?_
          refine xp_seq ?_
          refine xp_region rfl ?_
          refine op_pure (pv_assign (v := .bool _) rfl) ?_
          refine xp_ret ?_
          refine res_list (vs := [_]) Tryz.results87 ⟨resV_tmp rfl rfl, trivial⟩ fun V => ?_
          obtain ⟨h9, E9, e9, V9⟩ := wl_shed [_] _ V
          exact ⟨h9, _, e9, V9, Ext.trans (Ext.trans E_u (Ext.trans (Ext.trans (Ext.trans (Ext.trans (Ext.trans E_d E5) E6) E3a) E7) E8)) E9, .inr ⟨rfl, hF _ _ _ E9 f2⟩⟩
      · skip
        have hde : d = n - a := by have := geI hd; omega
        subst hde
        refine xp_exit ?_
        refine xp_seq ?_
        refine xp_region rfl ?_
        refine op_pure (pv_assign (v := .bool _) rfl) ?_
        refine xp_ret ?_
        refine res_list (vs := [_]) Tryz.results87 ⟨resV_tmp rfl rfl, trivial⟩ fun V => ?_
        obtain ⟨h9, E9, e9, V9⟩ := wl_shed [_] _ V
        exact ⟨h9, _, e9, V9, Ext.trans (Ext.trans E_u E_d) E9, .inl ⟨rfl, hI _ _ _ _ E9 K2⟩⟩
/-- The closure that hands out all sets. -/
theorem choices1_ok (n : Nat) (hn : n ≤ 30) (b1 : Nat) (h0 : AH) (c1 : h0 b1 = some (.cells #[.int .i64 n] 3 (0, 0))) :
    IterS Tryz.prog (.func (.func 86) #[] #[.pointer (some ⟨b1, 0, none⟩)]) h0 (setsM n) TI := by
  intro fn fs cs I F hI hF Y h M E0 hi
  refine fnM_body (caps := [.pointer (some ⟨b1, 0, none⟩)]) rfl rfl Tryz.func86 rfl Tryz.ntmps86 rfl ?_
  refine goes_front ?_
  refine goes_front ?_
  refine xp_seq ?_
  refine xp_region rfl ?_
  refine op_boxF 0 (v := _) (cs := [_]) rfl rfl rfl fun b2 hb2 => ?_
  refine wp_norm (_ :: _ :: _) rfl ?_
  refine xp_seq ?_
  refine xp_region rfl ?_
  refine op_allocF 1 (cs := [_]) rfl rfl rfl fun b3 hb3 => ?_
  refine wp_norm (_ :: _ :: _) rfl ?_
  refine xp_seq ?_
  refine xp_region rfl ?_
  refine op_pure (pv_makeFunc (vs := []) (ws := [_, _, _]) rfl rfl) ?_
  refine op_storeP 1 (v := _) (vs := [_]) (c' := [_]) rfl rfl rfl rfl rfl rfl rfl rfl rfl ?_
  refine wp_norm (_ :: _ :: _) rfl ?_
  refine xp_seq ?_
  refine xp_region rfl ?_
  refine wp_pub 0 rfl rfl ?_
  intro h2 E2 p2
  refine wp_norm (_ :: _ :: _) rfl ?_
  refine wp_pub 1 rfl rfl ?_
  intro h3 E3 p3
  refine wp_norm (_ :: _ :: _) rfl ?_
  have C1 := E3 _ _ (E2 _ _ (E0 _ _ c1))
  have CB : ChoB h3 n (.func fn fs cs) b1 b2 b3 := ⟨C1, ⟨_, E3 _ _ p2⟩, ⟨_, p3⟩⟩
  refine op_load (v := .int .i64 n) rfl rfl (by simp only [cellA, C1]; rfl) ?_
  refine op_pure (pv_arith rfl (by omega)) ?_
  refine op_pure (pv_move (v := .int .i64 _) rfl) ?_
  refine xp_block ?_
  refine xp_loopN [4, 8, 9, 10, 11, 12, 13, 14, 15] (α := Nat × Pv) (fun ⟨d, M'⟩ => [(8, .int .i64 d)]) (fun ⟨d, M'⟩ => none :: none :: M') (fun ⟨d, M'⟩ h_d => d ≤ n + 1 ∧ I (choP (fun m => choM n m 0 []) 0 d).length h_d M') (fun ⟨d, M'⟩ => n + 1 - d) ((0, M)) ⟨rfl, trivial⟩ (rfl) (⟨Nat.zero_le _, hI _ _ _ _ (Ext.trans E2 E3) hi⟩) ?_
  rintro ⟨d, M'⟩ T1 h_d E_d J_d
  refine goes_norm (_ :: _ :: _) rfl ?_
  obtain ⟨K1, K2⟩ := J_d
  have CB' := CB.ext E_d
  refine xp_seq ?_
  refine xp_region rfl ?_
  refine op_pure (pv_of (v := .bool _) rfl) ?_
  refine xp_seq ?_
  refine xp_cond rfl (fun hd => ?_) (fun hd => ?_)
  · skip
    have hdl : d < n + 1 := by have := of_decide_eq_true hd; omega
    obtain ⟨t3, c3⟩ := CB'.c3
    refine xp_skip ?_
    refine xp_seq ?_
    refine xp_block ?_
    refine xp_seq ?_
    refine xp_region rfl ?_
    refine op_pure (pv_move (v := .int .i64 _) rfl) ?_
    refine op_pure (pv_assign (v := .int .i64 _) rfl) ?_
    refine xp_seq ?_
    refine xp_region rfl ?_
    refine op_load (v := .func _ _ _) rfl rfl (by simp only [cellA, c3]; rfl) ?_
    refine op_pure (pv_move (v := .int .i64 _) rfl) ?_
    refine op_fnM [_, _] _ (vs := [.slice _ _ _, .int .i64 _]) rfl rfl rfl (grow_ok n hn (setsM n) _ I F hI hF Y b1 b2 b3 d 0 [] none 0 (choP (fun m => choM n m 0 []) 0 d).length h_d M' CB' (row_nil _ _) (by simp; omega) (.inl ⟨rfl, rfl⟩) (by omega) K2 (fun j s hj => choP_at (f := fun m => choM n m 0 []) (by omega) (by simpa using hj))) ?_
    rintro r h8 M8 E8 hr
    rcases hr with ⟨rfl, i2⟩ | ⟨rfl, f2⟩
    · skip
      refine op_pure (pv_of (v := .bool _) rfl) ?_
      refine xp_condF rfl (rfl) ?_
      refine xp_skip ?_
      refine xp_region rfl ?_
      refine op_pure (pv_arith rfl (by omega)) ?_
      refine op_pure (pv_move (v := .int .i64 _) rfl) ?_
      refine ⟨(d + 1, M8), ⟨rfl, trivial⟩, rfl, rfl, (Ext.trans E_d E8), ⟨by omega, by rw [choP_succ, List.length_append, Nat.zero_add]; exact i2⟩, by first | omega | (dsimp only; omega), ?_⟩
      repeat (first | exact off_base _ _ _ | refine off_upd (by decide) ?_ | refine off_updL rfl ?_ | refine off_mix rfl ?_)
    · skip
      refine op_pure (pv_of (v := .bool _) rfl) ?_
      refine xp_condT rfl (rfl) ?_
      refine xp_ret ?_
      refine res_list (vs := []) Tryz.results86 trivial fun V => ?_
      obtain ⟨h9, E9, e9, V9⟩ := wl_shed [_, _] _ V
      exact ⟨h9, _, e9, V9, Ext.trans (Ext.trans (Ext.trans (Ext.trans E2 E3) E_d) E8) E9, .inr (hF _ _ _ E9 f2)⟩
  · skip
    have hde : d = n + 1 := by have := of_decide_eq_false hd; omega
    subst hde
    refine xp_exit ?_
    refine res_list (vs := []) Tryz.results86 trivial fun V => ?_
    obtain ⟨h9, E9, e9, V9⟩ := wl_shed [_, _] _ V
    exact ⟨h9, _, e9, V9, Ext.trans (Ext.trans (Ext.trans E2 E3) E_d) E9, .inl (hI _ _ _ _ E9 K2)⟩
/-- All sets. -/
theorem choices_ok (n : Nat) (hn : n ≤ 30) (n' : Int) (en : n' = n) (h : AH) :
    FnT Tryz.prog 72 #[.int .i64 n'] h (fun v h' => IterS Tryz.prog v h' (setsM n) TI) := by
  subst en
  refine call_body Tryz.func72 rfl Tryz.ntmps72 rfl ?_
  refine xp_seq ?_
  refine xp_region rfl ?_
  refine op_box (v := .int .i64 _) (cs := [_]) rfl rfl fun b1 hb1 => ?_
  refine wp_norm [_] rfl ?_
  refine op_pure (pv_assign (v := _) rfl) ?_
  refine xp_seq ?_
  refine xp_region rfl ?_
  refine op_pure (pv_makeFunc (vs := []) (ws := [_]) rfl rfl) ?_
  refine op_pure (pv_assign (v := _) rfl) ?_
  refine xp_ret ?_
  refine res_list (vs := [_]) Tryz.results72 ⟨resV_tmp rfl rfl, trivial⟩ fun V => ?_
  exact ⟨(ext_wl V), choices1_ok n hn b1 _ (wl_get V (i := 0) rfl)⟩
end
end Go.Proofs.YtmpahfdiebhdbaaGreatDoor
/- Walks: the pot of numbers, lists. Conditions: as each theorem states. -/
namespace Go.Proofs.YtmpahfdiebhdbaaGreatDoor
open Go Go.HL Go.Proofs Go.Wx Go.Rd
section
variable [Lvl]
set_option maxRecDepth 100000
theorem step_ok (b x : Nat) (h : AH) : FnM Tryz.prog (.func (.func 51) #[] ([] : List Value).toArray) [.pointer (some ⟨b, 0, none⟩)] h [some (b, .cells #[.int .u64 (x : Int)] 70 (0, 0))]
    (fun v h' M' => ∃ x' r : Nat, M' = [some (b, .cells #[.int .u64 (x' : Int)] 70 (0, 0))] ∧ v = .int .u64 (r : Int)) := by
  refine fnM_body rfl rfl Tryz.func51 rfl Tryz.ntmps51 rfl ?_
  refine xp_seq ?_
  refine xp_region rfl ?_
  refine op_pure (pv_assign (v := .int .u64 _) rfl) ?_
  refine xp_seq ?_
  refine xp_region rfl ?_
  refine op_pure (pv_move (v := .pointer (some ⟨b, 0, none⟩)) rfl) ?_
  refine op_pure (pv_move (v := .pointer (some ⟨b, 0, none⟩)) rfl) ?_
  refine op_pure (pv_of (v := .pointer (some ⟨b, 0, none⟩)) rfl) ?_
  refine op_pure (pv_fieldAddr rfl rfl rfl rfl 0 rfl) ?_
  refine op_loadP 0 (v := .int .u64 _) rfl rfl rfl rfl ?_
  refine op_some rfl fun r1 hr1 => ?_
  refine op_some rfl fun r2 hr2 => ?_
  refine op_pure (pv_of (v := .pointer (some ⟨b, 0, none⟩)) rfl) ?_
  refine op_pure (pv_fieldAddr rfl rfl rfl rfl 0 rfl) ?_
  refine op_storeP 0 (v := .int .u64 _) (vs := [_]) (c' := [_]) rfl rfl rfl rfl rfl rfl rfl rfl rfl ?_
  refine wp_norm [_] rfl ?_
  refine xp_seq ?_
  refine xp_region rfl ?_
  refine op_pure (pv_move (v := .pointer (some ⟨b, 0, none⟩)) rfl) ?_
  refine op_pure (pv_of (v := .pointer (some ⟨b, 0, none⟩)) rfl) ?_
  refine op_pure (pv_fieldAddr rfl rfl rfl rfl 0 rfl) ?_
  refine op_loadP 0 (v := .int .u64 _) rfl rfl rfl rfl ?_
  refine op_pure (pv_assign (v := .int .u64 _) rfl) ?_
  refine xp_seq ?_
  refine xp_region rfl ?_
  refine op_pure (pv_move (v := .int .u64 _) rfl) ?_
  refine op_pure (pv_move (v := .int .u64 _) rfl) ?_
  refine op_pure (pv_shr _ 33 (.inr rfl) rfl rfl rfl rfl (by omega)) ?_
  refine op_some rfl fun r3 hr3 => ?_
  refine op_some rfl fun r4 hr4 => ?_
  refine op_pure (pv_assign (v := .int .u64 _) rfl) ?_
  refine xp_seq ?_
  refine xp_region rfl ?_
  refine op_pure (pv_move (v := .int .u64 _) rfl) ?_
  refine op_pure (pv_move (v := .int .u64 _) rfl) ?_
  refine op_pure (pv_shr _ 33 (.inr rfl) rfl rfl rfl rfl (by omega)) ?_
  refine op_some rfl fun r5 hr5 => ?_
  refine op_some rfl fun r6 hr6 => ?_
  refine op_pure (pv_assign (v := .int .u64 _) rfl) ?_
  refine xp_seq ?_
  refine xp_region rfl ?_
  refine op_pure (pv_move (v := .int .u64 _) rfl) ?_
  refine op_pure (pv_move (v := .int .u64 _) rfl) ?_
  refine op_pure (pv_shr _ 33 (.inr rfl) rfl rfl rfl rfl (by omega)) ?_
  refine op_some rfl fun r7 hr7 => ?_
  refine op_pure (pv_assign (v := .int .u64 _) rfl) ?_
  refine xp_ret ?_
  refine res_list (vs := [_]) Tryz.results51 ⟨resV_tmp rfl rfl, trivial⟩ fun V => ?_
  exact ⟨_, [_], rfl, V, (Ext.refl _), r2, r7, rfl, rfl⟩
theorem Upto_ok (b x : Nat) (n : Int) (hn : n < 2 ^ 40) (h : AH) : FnM Tryz.prog (.func (.func 27) #[] ([] : List Value).toArray) [.pointer (some ⟨b, 0, none⟩), .int .i64 n] h [some (b, .cells #[.int .u64 (x : Int)] 70 (0, 0))]
    (fun v h' M' => ∃ (x' : Nat) (k : Int), M' = [some (b, .cells #[.int .u64 (x' : Int)] 70 (0, 0))] ∧ v = .int .i64 k ∧ 0 ≤ k ∧ k ≤ max n 0) := by
  refine fnM_body rfl rfl Tryz.func27 rfl Tryz.ntmps27 rfl ?_
  refine xp_seq ?_
  refine xp_region rfl ?_
  refine op_pure (pv_assign (v := .int .i64 _) rfl) ?_
  refine xp_seq ?_
  refine xp_seq ?_
  refine xp_region rfl ?_
  refine op_pure (pv_move (v := .int .i64 _) rfl) ?_
  refine op_pure (pv_of (v := .bool _) rfl) ?_
  refine xp_cond rfl (fun ht => ?_) (fun ht => ?_)
  · skip
    refine xp_seq ?_
    refine xp_region rfl ?_
    refine op_pure (pv_assign (v := .int .i64 _) rfl) ?_
    refine xp_ret ?_
    refine res_list (vs := [_]) Tryz.results27 ⟨resV_tmp rfl rfl, trivial⟩ fun V => ?_
    exact ⟨_, [_], rfl, V, (Ext.refl _), x, 0, rfl, rfl, by omega, by omega⟩
  · skip
    have h1 : 1 ≤ n := by simpa using ht
    refine xp_skip ?_
    refine xp_seq ?_
    refine xp_region rfl ?_
    refine op_pure (pv_move (v := .pointer (some ⟨b, 0, none⟩)) rfl) ?_
    refine op_fnMM [] [_] [] (vs := _) rfl rfl rfl ((step_ok b x h)) ?_
    rintro _ h2 _ E2 ⟨x2, r, rfl, rfl⟩
    refine wp_norm [_] rfl ?_
    refine op_pure (pv_shr _ 11 (.inr rfl) rfl rfl rfl rfl (by omega)) ?_
    refine op_pure (pv_move (v := .int .i64 _) rfl) ?_
    refine op_pure (pv_arith rfl (by omega)) ?_
    refine op_pure (pv_val (intE (show IntKind.wrap .u64 (n + 1) = (((n + 1).toNat : Nat) : Int) by rw [IntWalk.u64_in _ (by omega)]; omega)) rfl) ?_
    refine op_pure (pv_rem (b := (n + 1).toNat) rfl rfl rfl (by omega)) ?_
    have hm : r / 2 ^ 11 % (n + 1).toNat < (n + 1).toNat := Nat.mod_lt _ (by omega)
    refine op_pure (pv_val (intE (show IntKind.wrap .i64 ((r / 2 ^ 11 % (n + 1).toNat : Nat) : Int) = ((r / 2 ^ 11 % (n + 1).toNat : Nat) : Int) by rw [IntWalk.i64_in _ (by omega)])) rfl) ?_
    refine op_pure (pv_assign (v := .int .i64 _) rfl) ?_
    refine xp_ret ?_
    refine res_list (vs := [_]) Tryz.results27 ⟨resV_tmp rfl rfl, trivial⟩ fun V => ?_
    exact ⟨_, [_], rfl, V, E2, x2, _, rfl, rfl, by omega, by omega⟩
theorem Within_ok (b x : Nat) (lo hi : Int) (h1 : -2 ^ 30 ≤ lo) (h2 : lo ≤ hi) (h3 : hi ≤ 2 ^ 30) (h : AH) : FnM Tryz.prog (.func (.func 26) #[] ([] : List Value).toArray) [.pointer (some ⟨b, 0, none⟩), .int .i64 lo, .int .i64 hi] h [some (b, .cells #[.int .u64 (x : Int)] 70 (0, 0))]
    (fun v h' M' => ∃ (x' : Nat) (k : Int), M' = [some (b, .cells #[.int .u64 (x' : Int)] 70 (0, 0))] ∧ v = .int .i64 k ∧ lo ≤ k ∧ k ≤ hi) := by
  refine fnM_body rfl rfl Tryz.func26 rfl Tryz.ntmps26 rfl ?_
  refine xp_seq ?_
  refine xp_region rfl ?_
  refine op_pure (pv_assign (v := .int .i64 _) rfl) ?_
  refine xp_seq ?_
  refine xp_region rfl ?_
  refine op_pure (pv_move (v := .int .i64 _) rfl) ?_
  refine op_pure (pv_move (v := .pointer (some ⟨b, 0, none⟩)) rfl) ?_
  refine op_pure (pv_move (v := .int .i64 _) rfl) ?_
  refine op_pure (pv_move (v := .int .i64 _) rfl) ?_
  refine op_pure (pv_arith rfl (by omega)) ?_
  refine op_fnMM [] [_] [] (vs := [.pointer _, .int .i64 _]) rfl rfl rfl ((Upto_ok b x (hi - lo) (by omega) h)) ?_
  rintro _ h2 _ E2 ⟨x2, k, rfl, rfl, k1, k2⟩
  refine wp_norm [_] rfl ?_
  refine op_pure (pv_arith rfl (by omega)) ?_
  refine op_pure (pv_assign (v := .int .i64 _) rfl) ?_
  refine xp_ret ?_
  refine res_list (vs := [_]) Tryz.results26 ⟨resV_tmp rfl rfl, trivial⟩ fun V => ?_
  exact ⟨_, [_], rfl, V, E2, x2, lo + k, rfl, rfl, by omega, by omega⟩
theorem NewPot_ok (l : List Int) (hl : l.length < 2 ^ 63) (A : Option Addr) (c : Nat) (h : AH) (R : Row h 1 intC A l) : FnM Tryz.prog (.func (.func 8) #[] ([] : List Value).toArray) [.slice A l.length c] h []
    (fun v h' M' => ∃ b x : Nat, M' = [some (b, .cells #[.int .u64 (x : Int)] 70 (0, 0))] ∧ v = .pointer (some ⟨b, 0, none⟩)) := by
  refine fnM_body rfl rfl Tryz.func8 rfl Tryz.ntmps8 rfl ?_
  refine xp_seq ?_
  refine xp_region rfl ?_
  refine op_pure (pv_assign (v := .pointer _) rfl) ?_
  refine xp_seq ?_
  refine xp_region rfl ?_
  refine op_pure (pv_build (zc := [_]) (vs := [(0, .int .u64 _)]) (cs := [_]) rfl rfl rfl rfl rfl rfl) ?_
  refine op_box (v := .agg #[.int .u64 _]) (cs := [_]) rfl rfl fun b6 hb6 => ?_
  refine wp_norm [_] rfl ?_
  refine op_pure (pv_assign (v := .pointer (some ⟨b6, 0, none⟩)) rfl) ?_
  refine xp_seq ?_
  refine xp_seq ?_
  refine xp_region rfl ?_
  refine op_pure (pv_assign (v := .int .i64 _) rfl) ?_
  refine xp_block ?_
  refine xp_loopL [4, 7, 8, 9, 10, 11, 12, 13, 14, 15, 16, 17, 18, 19, 20, 21, 22, 23, 24, 25, 26, 27, 28, 29, 30, 31, 32, 33, 34, 35, 36, 37, 38, 39] 1 (α := Nat × Nat) (fun ⟨k, x⟩ => [(4, .int .i64 k)]) (fun ⟨k, x⟩ L => L.set 0 (some (b6, .cells #[.int .u64 (x : Int)] 70 (0, 0)))) (fun ⟨k, x⟩ h_k => k ≤ l.length) (fun ⟨k, x⟩ => l.length - k) ((0, 2611923443488327891)) ⟨rfl, trivial⟩ (rfl) (Nat.zero_le _) ?_
  rintro ⟨k, x⟩ T1 h_k E_k J_k
  refine goes_norm [_] rfl ?_
  refine xp_seq ?_
  refine xp_seq ?_
  refine xp_region rfl ?_
  refine op_pure (pv_move (v := .int .i64 _) rfl) ?_
  refine op_pure (pv_move (v := .slice _ _ _) rfl) ?_
  refine op_pure (pv_len rfl rfl) ?_
  refine op_pure (pv_of (v := .bool _) rfl) ?_
  refine xp_cond rfl (fun ht => ?_) (fun ht => ?_)
  · skip
    have hlt := ltI ht
    obtain ⟨g, off, hA, hc⟩ := (R.ext E_k).at (by omega) hlt
    refine xp_skip ?_
    refine xp_seq ?_
    refine xp_block ?_
    refine xp_seq ?_
    refine xp_dw [] rfl rfl rfl ?_
    refine dw_pure (i := 0) rfl (by decide +kernel) (pv_move (v := .pointer (some ⟨b6, 0, none⟩)) rfl) ?_
    refine dw_pure (i := 1) rfl (by decide +kernel) (pv_move (v := .pointer (some ⟨b6, 0, none⟩)) rfl) ?_
    refine dw_pure (i := 2) rfl (by decide +kernel) (pv_of (v := .pointer (some ⟨b6, 0, none⟩)) rfl) ?_
    refine dw_pure (i := 3) rfl (by decide +kernel) (pv_fieldAddr rfl rfl rfl rfl 0 rfl) ?_
    refine dw_load (i := 4) rfl (by decide +kernel) ?_
    refine op_loadP 0 (v := .int .u64 _) rfl rfl rfl rfl ?_
    refine dw_pure (i := 5) rfl (by decide +kernel) (pv_move (v := .slice _ _ _) rfl) ?_
    refine dw_pure (i := 6) rfl (by decide +kernel) (pv_move (v := .int .i64 _) rfl) ?_
    refine dw_pure (i := 7) rfl (by decide +kernel) (pv_indexE rfl hA rfl rfl rfl (by omega) (by omega)) ?_
    refine dw_load (i := 8) rfl (by decide +kernel) ?_
    refine op_load (v := .int .i64 _) rfl rfl ((hc) 0 _ rfl) ?_
    refine dw_some (i := 9) rfl (by decide +kernel) rfl fun r1 hr1 => ?_
    refine dw_some (i := 10) rfl (by decide +kernel) rfl fun r2 hr2 => ?_
    refine dw_some (i := 11) rfl (by decide +kernel) rfl fun r3 hr3 => ?_
    refine dw_pure (i := 12) rfl (by decide +kernel) (pv_of (v := .pointer (some ⟨b6, 0, none⟩)) rfl) ?_
    refine dw_pure (i := 13) rfl (by decide +kernel) (pv_fieldAddr rfl rfl rfl rfl 0 rfl) ?_
    refine dw_last (i := 14) rfl (by decide +kernel) (by decide +kernel) ?_
    refine op_storeP 0 (v := .int .u64 _) (vs := [_]) (c' := [_]) rfl rfl rfl rfl rfl rfl rfl rfl rfl ?_
    refine dw_norm [_] rfl ?_
    refine dw_end rfl ?_
    refine xp_dw [] rfl rfl rfl ?_
    refine dw_pure (i := 0) rfl (by decide +kernel) (pv_move (v := .pointer (some ⟨b6, 0, none⟩)) rfl) ?_
    refine dw_pure (i := 1) rfl (by decide +kernel) (pv_move (v := .pointer (some ⟨b6, 0, none⟩)) rfl) ?_
    refine dw_pure (i := 2) rfl (by decide +kernel) (pv_of (v := .pointer (some ⟨b6, 0, none⟩)) rfl) ?_
    refine dw_pure (i := 3) rfl (by decide +kernel) (pv_fieldAddr rfl rfl rfl rfl 0 rfl) ?_
    refine dw_load (i := 4) rfl (by decide +kernel) ?_
    refine op_loadP 0 (v := .int .u64 _) rfl rfl rfl rfl ?_
    refine dw_pure (i := 5) rfl (by decide +kernel) (pv_move (v := .pointer (some ⟨b6, 0, none⟩)) rfl) ?_
    refine dw_pure (i := 6) rfl (by decide +kernel) (pv_of (v := .pointer (some ⟨b6, 0, none⟩)) rfl) ?_
    refine dw_pure (i := 7) rfl (by decide +kernel) (pv_fieldAddr rfl rfl rfl rfl 0 rfl) ?_
    refine dw_load (i := 8) rfl (by decide +kernel) ?_
    refine op_loadP 0 (v := .int .u64 _) rfl rfl rfl rfl ?_
    refine dw_pure (i := 9) rfl (by decide +kernel) (pv_shr _ 32 (.inr rfl) rfl rfl rfl rfl (by omega)) ?_
    refine dw_some (i := 10) rfl (by decide +kernel) rfl fun r4 hr4 => ?_
    refine dw_pure (i := 11) rfl (by decide +kernel) (pv_of (v := .pointer (some ⟨b6, 0, none⟩)) rfl) ?_
    refine dw_pure (i := 12) rfl (by decide +kernel) (pv_fieldAddr rfl rfl rfl rfl 0 rfl) ?_
    refine dw_last (i := 13) rfl (by decide +kernel) (by decide +kernel) ?_
    refine op_storeP 0 (v := .int .u64 _) (vs := [_]) (c' := [_]) rfl rfl rfl rfl rfl rfl rfl rfl rfl ?_
    refine dw_norm [_] rfl ?_
    refine dw_end rfl ?_
    refine xp_region rfl ?_
    refine op_pure (pv_move (v := .int .i64 _) rfl) ?_
    refine op_pure (pv_arith rfl (by omega)) ?_
    refine op_pure (pv_assign (v := .int .i64 _) rfl) ?_
    refine ⟨(k + 1, r4), ⟨rfl, trivial⟩, rfl, rfl, E_k, fun h3 E3 => hlt, by first | omega | (dsimp only; omega), ?_⟩
    repeat (first | exact off_base _ _ _ | refine off_upd (by decide) ?_ | refine off_updL rfl ?_ | refine off_mix rfl ?_)
  · skip
    refine xp_exit ?_
    refine xp_seq ?_
    refine xp_region rfl ?_
    refine op_pure (pv_move (v := .pointer (some ⟨b6, 0, none⟩)) rfl) ?_
    refine op_pure (pv_assign (v := .pointer (some ⟨b6, 0, none⟩)) rfl) ?_
    refine xp_ret ?_
    refine res_list (vs := [_]) Tryz.results8 ⟨resV_tmp rfl rfl, trivial⟩ fun V => ?_
    exact ⟨_, [_], rfl, V, E_k, b6, x, rfl, rfl⟩
theorem boolI {p q : Bool} (e : p = true ↔ q = true) : Value.bool p = Value.bool q := by rw [Bool.eq_iff_iff.2 e]
theorem sameInts_ok (a b : List Int) (A B : Option Addr) (ca cb : Nat) (h : AH) (Ra : Row h 1 intC A a) (Rb : Row h 1 intC B b) (ha : a.length < 2 ^ 40) :
    FnT Tryz.prog 23 #[.slice A a.length ca, .slice B b.length cb] h (fun v _ => v = .bool (decide (a = b))) := by
  refine call_body Tryz.func23 rfl Tryz.ntmps23 rfl ?_
  refine xp_seq ?_
  refine xp_region rfl ?_
  refine op_pure (pv_assign (v := .bool _) rfl) ?_
  refine xp_seq ?_
  refine xp_region rfl ?_
  refine op_pure (pv_move (v := .slice _ _ _) rfl) ?_
  refine op_pure (pv_len rfl rfl) ?_
  refine op_pure (pv_move (v := .slice _ _ _) rfl) ?_
  refine op_pure (pv_len rfl rfl) ?_
  refine op_pure (pv_of (v := .bool _) rfl) ?_
  refine op_pure (pv_assign (v := .bool _) rfl) ?_
  refine xp_seq ?_
  refine xp_seq ?_
  refine xp_region rfl ?_
  refine op_pure (pv_assign (v := .int .i64 _) rfl) ?_
  refine xp_block ?_
  refine xp_loopM [5, 6, 12, 13, 14, 15, 16, 17, 18, 19, 20, 21, 22, 23, 24, 25, 26, 27, 28, 29] 0 (fun k : Nat => [(5, .bool (decide (a.length = b.length ∧ a.take k = b.take k))), (6, .int .i64 k)]) (fun k D L h' => D = [] ∧ k ≤ a.length ∧ Ext h h' ∧ L = []) (fun k => a.length - k) 0 ⟨by refine boolI ?_; simp; omega, rfl, trivial⟩ ⟨rfl, Nat.zero_le _, Ext.refl h, rfl⟩ ?_
  rintro k T D' L' h' ⟨rfl, hk, E, rfl⟩
  refine xp_seq ?_
  refine xp_seq ?_
  refine xp_region rfl ?_
  refine op_pure (pv_move (v := .bool _) rfl) ?_
  refine op_pure (pv_move (v := .bool _) rfl) ?_
  by_cases hp : a.length = b.length ∧ a.take k = b.take k
  · have hb : decide (a.length = b.length ∧ a.take k = b.take k) = true := by simpa using hp
    refine guard_yes rfl hb ?_
    refine op_pure (pv_move (v := .int .i64 _) rfl) ?_
    refine guard_yes rfl hb ?_
    refine op_pure (pv_move (v := .slice _ _ _) rfl) ?_
    refine guard_yes rfl hb ?_
    refine op_pure (pv_len rfl rfl) ?_
    refine guard_yes rfl hb ?_
    refine op_pure (pv_of (v := .bool _) rfl) ?_
    refine op_pure (pv_pickT rfl hb (v := .bool _) rfl) ?_
    refine xp_cond rfl (fun ht => ?_) (fun ht => ?_)
    · skip
      have hlt : k < a.length := by simpa using ht
      have hlt2 : k < b.length := by omega
      obtain ⟨g, off, rfl, hc⟩ := (Ra.ext E).at (by omega) hlt
      obtain ⟨g2, off2, rfl, hc2⟩ := (Rb.ext E).at (by omega) hlt2
      refine xp_skip ?_
      refine xp_seq ?_
      refine xp_block ?_
      refine xp_dw [] rfl rfl rfl ?_
      refine dw_pure (i := 0) rfl (by decide +kernel) (pv_move (v := .slice _ _ _) rfl) ?_
      refine dw_pure (i := 1) rfl (by decide +kernel) (pv_move (v := .int .i64 _) rfl) ?_
      refine dw_pure (i := 2) rfl (by decide +kernel) (pv_index rfl rfl rfl rfl (by omega) (by omega)) ?_
      refine dw_load (i := 3) rfl (by decide +kernel) ?_
      refine op_load rfl rfl (hc 0 (.int .i64 a[k]) rfl) ?_
      refine dw_pure (i := 4) rfl (by decide +kernel) (pv_move (v := .slice _ _ _) rfl) ?_
      refine dw_pure (i := 5) rfl (by decide +kernel) (pv_move (v := .int .i64 _) rfl) ?_
      refine dw_pure (i := 6) rfl (by decide +kernel) (pv_index rfl rfl rfl rfl (by omega) (by omega)) ?_
      refine dw_load (i := 7) rfl (by decide +kernel) ?_
      refine op_load rfl rfl (hc2 0 (.int .i64 b[k]) rfl) ?_
      refine dw_pure (i := 8) rfl (by decide +kernel) (pv_of (v := .bool _) rfl) ?_
      refine dw_pure (i := 9) rfl (by decide +kernel) (pv_assign (v := .bool _) rfl) ?_
      refine dw_end rfl ?_
      refine xp_region rfl ?_
      refine op_pure (pv_move (v := .int .i64 _) rfl) ?_
      refine op_pure (pv_arith rfl (by omega)) ?_
      refine op_pure (pv_assign (v := .int .i64 _) rfl) ?_
      refine ⟨k + 1, ⟨?_, rfl, trivial⟩, fun h3 E3 => ⟨rfl, by omega, E.trans E3, rfl⟩, by omega, ?_⟩
      · refine boolI ?_
        have e1 := List.take_succ_eq_append_getElem hlt
        have e2 := List.take_succ_eq_append_getElem hlt2
        have e3 : (a.length = b.length ∧ b.take k ++ [a[k]] = b.take k ++ [b[k]]) ↔ a[k] = b[k] := ⟨fun e => by have := List.append_cancel_left e.2; injection this, fun e => ⟨hp.1, by rw [e]⟩⟩
        rw [e1, e2, hp.2, decide_eq_true_iff, e3]
        simp
      · repeat (first | exact off_base _ _ _ | refine off_upd (by decide) ?_ | refine off_updL rfl ?_ | refine off_mix rfl ?_)
    · skip
      refine xp_exit ?_
      refine xp_seq ?_
      refine xp_region rfl ?_
      refine op_pure (pv_move (v := .bool _) rfl) ?_
      refine op_pure (pv_assign (v := .bool _) rfl) ?_
      refine xp_ret ?_
      refine res_list (vs := [_]) Tryz.results23 ⟨resV_tmp rfl rfl, trivial⟩ fun V => ?_
      refine ⟨E.trans (ext_wl V), boolI ?_⟩
      have : k = a.length := by simp at ht; omega
      subst this
      have h2 := hp.2
      rw [hp.1, List.take_length, ← hp.1, List.take_length] at h2
      simp [h2]
  · have hb : decide (a.length = b.length ∧ a.take k = b.take k) = false := by simpa using hp
    refine guard_no rfl hb ?_
    refine guard_no rfl hb ?_
    refine guard_no rfl hb ?_
    refine guard_no rfl hb ?_
    refine op_pure (pv_pickF rfl hb (v := .bool _) rfl) ?_
    refine xp_cond rfl (fun ht => ?_) (fun ht => ?_)
    · cases ht
    · skip
      refine xp_exit ?_
      refine xp_seq ?_
      refine xp_region rfl ?_
      refine op_pure (pv_move (v := .bool _) rfl) ?_
      refine op_pure (pv_assign (v := .bool _) rfl) ?_
      refine xp_ret ?_
      refine res_list (vs := [_]) Tryz.results23 ⟨resV_tmp rfl rfl, trivial⟩ fun V => ?_
      refine ⟨E.trans (ext_wl V), boolI ?_⟩
      have : a ≠ b := fun e => hp (by rw [e]; exact ⟨rfl, rfl⟩)
      simp [this]
      exact fun x y => hp ⟨x, y⟩
end
end Go.Proofs.YtmpahfdiebhdbaaGreatDoor
/- Walks of package rod: all hands of a machine. Conditions: as each theorem states. -/
namespace Go.Proofs.YtmpahfdiebhdbaaGreatDoor
open Go Go.HL Go.Proofs Go.Wx Go.Rd
section
variable [Lvl]
set_option maxRecDepth 100000
def pairsM (ls bs : List (List Int)) : List HandP := ls.flatMap fun b => bs.map fun o => ⟨b, o⟩
/-- All hands of a machine, in order. -/
def handsM (m : MachP) : List HandP := pairsM (setsM m.buttons.length) (setsM m.regs.toNat)
theorem pairs_len (bs : List (List Int)) : ∀ ls : List (List Int), (pairsM ls bs).length = ls.length * bs.length
  | [] => by simp [pairsM]
  | a :: ls => by
    have := pairs_len bs ls
    unfold pairsM at this ⊢
    rw [List.flatMap_cons, List.length_append, this, List.length_map, List.length_cons, Nat.add_mul, Nat.one_mul, Nat.add_comm]
theorem pairs_at {bs : List (List Int)} {j : Nat} {b o : List Int} (h2 : bs[j]? = some o) : ∀ {ls : List (List Int)} {k : Nat}, ls[k]? = some b → (pairsM ls bs)[k * bs.length + j]? = some ⟨b, o⟩
  | [], k, h1 => by simp at h1
  | a :: ls, 0, h1 => by
    simp at h1
    subst h1
    have hj := (List.getElem?_eq_some_iff.1 h2).1
    unfold pairsM
    rw [List.flatMap_cons, List.getElem?_append_left (by simpa using hj)]
    simp [h2]
  | a :: ls, k + 1, h1 => by
    have := pairs_at h2 (ls := ls) (k := k) (by simpa using h1)
    unfold pairsM at this ⊢
    rw [List.flatMap_cons, List.getElem?_append_right (by simp [Nat.add_mul]; omega)]
    rw [show (k + 1) * bs.length + j - (bs.map fun o => (⟨a, o⟩ : HandP)).length = k * bs.length + j by simp [Nat.add_mul]; omega]
    exact this
/-- A hand, as a value. -/
def TA (h : AH) (a : HandP) (v : Value) : Prop := HandV h a v
set_option maxHeartbeats 4000000 in
theorem hands1_ok (m : MachP) (hb : m.buttons.length ≤ 30) (hr : 0 ≤ m.regs ∧ m.regs ≤ 30) (b1 : Nat) (AB AQ AL AW : Option Addr) (cB cQ cL cW : Nat) (h0 : AH)
    (CM : Cells h0 b1 0 [.int .i64 m.rods, .int .i64 m.levers, .int .i64 m.regs, .int .i64 m.travel, .int .i64 m.opn, .slice AB m.buttons.length cB, .slice AQ m.pins.length cQ, .slice AL m.links.length cL, .slice AW m.weights.length cW]) :
    IterS Tryz.prog (.func (.func 71) #[] #[.pointer (some ⟨b1, 0, none⟩)]) h0 (handsM m) TA := by
  intro fn fs cs I F hI hF Y h M E0 hi
  obtain ⟨R, hR⟩ : ∃ R, R = (setsM m.regs.toNat).length := ⟨_, rfl⟩
  refine fnM_body (caps := [.pointer (some ⟨b1, 0, none⟩)]) rfl rfl Tryz.func71 rfl Tryz.ntmps71 rfl ?_
  refine goes_front ?_
  refine goes_front ?_
  refine xp_seq ?_
  refine xp_region rfl ?_
  refine op_boxF 0 (v := _) (cs := [_]) rfl rfl rfl fun b2 hb2 => ?_
  refine wp_norm (_ :: _ :: _) rfl ?_
  refine xp_seq ?_
  refine xp_region rfl ?_
  refine op_pure (pv_fieldAddr rfl rfl rfl rfl _ rfl) ?_
  refine wp_pub 0 rfl rfl ?_
  intro h2 E2 p2
  refine wp_norm (_ :: _ :: _) rfl ?_
  have CM2 := CM.ext (E0.trans E2)
  refine op_load (v := .slice AB m.buttons.length cB) rfl rfl (CM2 5 _ rfl) ?_
  refine op_pure (pv_len rfl rfl) ?_
  refine op_fn (caps := []) (vs := [.int .i64 _]) rfl rfl rfl (choices_ok m.buttons.length hb _ rfl h2) ?_
  rintro y h4 E4 It
  refine xp_block ?_
  have p2' : ∀ {h'}, Ext h4 h' → h' b2 = some (.cells #[.func fn fs cs] 132 (0, 0)) := fun E => E _ _ (E4 _ _ p2)
  refine xp_rangeFuncF 0 rfl rfl ?_
  intro r l lp htm hpr has hbd V0
  refine CallV.mono (It (.yield l) #[] #[] (fun k h' M' => Ext h4 h' ∧ ∃ M2, M' = some (l, obL lp .ready none) :: none :: M2 ∧ I (k * R) h' M2) (fun h' M' => Ext h4 h' ∧ ∃ M2, M' = some (l, obL lp .done (some .ret)) :: none :: M2 ∧ F h' M2)
    (fun k h1 h2 M E I' => ⟨I'.1.trans E, I'.2.imp fun M2 ⟨e, i⟩ => ⟨e, hI _ _ _ _ E i⟩⟩) (fun h1 h2 M E I' => ⟨I'.1.trans E, I'.2.imp fun M2 ⟨e, i⟩ => ⟨e, hF _ _ _ E i⟩⟩) ?_ h4 _ (Ext.refl _) ⟨Ext.refl _, M, rfl, by rw [Nat.zero_mul]; exact hI _ _ _ _ (Ext.trans E2 E4) hi⟩ V0) ?_ (fun _ _ y => y)
  · rintro k x v hc M' hk hT ⟨E5, M2, rfl, i5⟩
    obtain ⟨BA, cBA, rfl, RB⟩ := hT
    intro V
    refine callV_yield (wl_get V (i := 0) rfl) hpr rfl htm has hbd ?_
    refine round_enter (i := 0) (r := lp) ?_ V
    refine goes_norm (_ :: _ :: _) rfl ?_
    refine xp_region rfl ?_
    refine op_allocF 1 (cs := [_]) rfl rfl rfl fun b3 hb3 => ?_
    refine wp_norm (_ :: _ :: _) rfl ?_
    refine op_storeP 1 (v := .slice _ _ _) (vs := [_]) (c' := [_]) rfl rfl rfl rfl rfl rfl rfl rfl rfl ?_
    refine wp_norm (_ :: _ :: _) rfl ?_
    refine ⟨rfl, none, rfl, ?_⟩
    refine goes_norm (_ :: _ :: _) rfl ?_
    refine xp_block ?_
    refine goes_pub 1 rfl ?_
    intro h6 E6 p6
    have CM6 := CM.ext (E0.trans (Ext.trans E2 (Ext.trans E4 (Ext.trans E5 E6))))
    refine xp_seq ?_
    refine xp_region rfl ?_
    refine op_pure (pv_fieldAddr rfl rfl rfl rfl _ rfl) ?_
    refine op_load (v := .int .i64 m.regs) rfl rfl (CM6 2 _ rfl) ?_
    refine op_fn (caps := []) (vs := [.int .i64 _]) rfl rfl rfl (choices_ok m.regs.toNat (by omega) _ (by omega) h6) ?_
    rintro y2 h7 E7 It2
    refine xp_block ?_
    have p27 : ∃ t, h7 b2 = some (.cells #[.func fn fs cs] t (0, 0)) := ⟨_, E7 _ _ (E6 _ _ (E5 _ _ (p2' (Ext.refl _))))⟩
    have p67 : ∃ t, h7 b3 = some (.cells #[.slice BA x.length cBA] t (0, 0)) := ⟨_, E7 _ _ p6⟩
    have RB7 := RB.ext (Ext.trans E6 E7)
    refine xp_rangeFuncRF 1 0 rfl rfl rfl ?_
    intro l2 lp2 htm2 hpr2 has2 hbd2 V1
    refine CallV.mono (It2 (.yield l2) #[] #[] (fun j h' M' => Ext h7 h' ∧ ∃ M2, M' = some (l, obL lp .busy none) :: some (l2, obL lp2 .ready none) :: M2 ∧ I (k * R + j) h' M2) (fun h' M' => Ext h7 h' ∧ ∃ M2, M' = some (l, obL lp .busy none) :: some (l2, obL lp2 .done (some .ret)) :: M2 ∧ F h' M2)
      (fun k h1 h2 M E I' => ⟨I'.1.trans E, I'.2.imp fun M2 ⟨e, i⟩ => ⟨e, hI _ _ _ _ E i⟩⟩) (fun h1 h2 M E I' => ⟨I'.1.trans E, I'.2.imp fun M2 ⟨e, i⟩ => ⟨e, hF _ _ _ E i⟩⟩) ?_ h7 _ (Ext.refl _) ⟨Ext.refl _, M2, rfl, hI _ _ _ _ (Ext.trans E6 E7) i5⟩ V1) ?_ (fun _ _ y => y)
    · rintro j z v hcc M' hj hT ⟨E8, M3, rfl, i8⟩
      obtain ⟨OA, cO, rfl, RO⟩ := hT
      obtain ⟨t2, p28⟩ := p27
      obtain ⟨t3, p68⟩ := p67
      intro V
      refine callV_yield (wl_get V (i := 1) rfl) hpr2 rfl htm2 has2 hbd2 ?_
      refine round_enter (i := 1) (r := lp2) ?_ V
      refine goes_norm (_ :: _ :: _) rfl ?_
      refine xp_region rfl ?_
      refine op_pure (pv_assign (v := .slice _ _ _) rfl) ?_
      refine ⟨rfl, none, rfl, ?_⟩
      refine goes_norm (_ :: _ :: _) rfl ?_
      refine xp_block ?_
      refine xp_seq ?_
      refine xp_region rfl ?_
      refine op_load (v := .func fn fs cs) rfl rfl (by simp only [cellA, E8 _ _ p28]; rfl) ?_
      refine op_load (v := .slice BA x.length cBA) rfl rfl (by simp only [cellA, E8 _ _ p68]; rfl) ?_
      refine op_pure (pv_move (v := .slice _ _ _) rfl) ?_
      refine op_pure (pv_build (zc := [_, _]) (vs := [(0, .slice _ _ _), (1, .slice _ _ _)]) (cs := [_, _]) rfl rfl rfl rfl rfl rfl) ?_
      refine op_fnM [_, _] _ (vs := [.agg #[_, _]]) rfl rfl rfl (Y (k * R + j) ⟨x, z⟩ _ hcc M3 (by rw [hR]; exact pairs_at hj hk) ⟨_, _, rfl, ⟨BA, cBA, rfl, RB7.ext E8⟩, ⟨OA, cO, rfl, RO⟩⟩ i8) ?_
      rintro r h9 M9 E9 hr
      rcases hr with ⟨rfl, i9⟩ | ⟨rfl, f9⟩
      · skip
        refine op_pure (pv_of (v := .bool _) rfl) ?_
        refine xp_condF rfl (rfl) ?_
        refine xp_skip ?_
        intro V2
        have V3 := valid_set (o' := obL lp2 .ready none) V2 (i := 1) rfl
        exact ⟨rfl, ⟨_, _, rfl⟩, _, _, rfl, V3, E9, .inl ⟨rfl, Ext.trans E8 E9, M9, rfl, i9⟩⟩
      · skip
        refine op_pure (pv_of (v := .bool _) rfl) ?_
        refine xp_condT rfl (rfl) ?_
        refine xp_ret ?_
        intro V2
        have V3 := valid_set (o' := obL lp2 .done (some .ret)) V2 (i := 1) rfl
        exact ⟨rfl, ⟨_, _, rfl⟩, _, _, rfl, V3, E9, .inr ⟨rfl, Ext.trans E8 E9, M9, rfl, f9⟩⟩
    · rintro v H ⟨h', M', rfl, V', E', ⟨E8, M3, rfl, i8⟩ | ⟨E8, M3, rfl, f8⟩⟩
      · refine ⟨h', _, .ready, none, rfl, V', rfl, by simp, fun h'' E'' => ?_⟩
        intro V2
        have V3 := valid_set (o' := obL lp .ready none) V2 (i := 0) rfl
        exact ⟨rfl, ⟨_, _, rfl⟩, _, _, rfl, V3, Ext.trans (Ext.trans E6 E7) (Ext.trans E' E''), .inl ⟨rfl, Ext.trans E5 (Ext.trans (Ext.trans E6 E7) (Ext.trans E' E'')), M3, rfl, by rw [Nat.add_mul, Nat.one_mul, hR]; rw [hR] at i8; exact hI _ _ _ _ E'' i8⟩⟩
      · refine ⟨h', _, .done, some .ret, rfl, V', rfl, by simp, fun h'' E'' => ?_⟩
        refine xp_ret ?_
        intro V2
        have V3 := valid_set (o' := obL lp .done (some .ret)) V2 (i := 0) rfl
        exact ⟨rfl, ⟨_, _, rfl⟩, _, _, rfl, V3, Ext.trans (Ext.trans E6 E7) (Ext.trans E' E''), .inr ⟨rfl, Ext.trans E5 (Ext.trans (Ext.trans E6 E7) (Ext.trans E' E'')), M3, rfl, hF _ _ _ E'' f8⟩⟩
  · rintro v H ⟨h', M', rfl, V', E', ⟨E8, M3, rfl, i8⟩ | ⟨E8, M3, rfl, f8⟩⟩
    · refine ⟨h', _, .ready, none, rfl, V', rfl, by simp, fun h'' E'' => ?_⟩
      refine res_listM (vs := []) rfl Tryz.results71 trivial fun hM EM V => ?_
      obtain ⟨h9, E9, e9, V9⟩ := wl_shed [_, _] _ V
      have EE : Ext h' h9 := Ext.trans E'' (Ext.trans EM E9)
      exact ⟨h9, M3, e9, V9, Ext.trans (Ext.trans E2 E4) (Ext.trans E' EE), .inl (hI _ _ _ _ EE (by unfold handsM; rw [pairs_len, ← hR]; exact i8))⟩
    · refine ⟨h', _, .done, some .ret, rfl, V', rfl, by simp, fun h'' E'' => ?_⟩
      refine xp_ret ?_
      refine res_listM (vs := []) rfl Tryz.results71 trivial fun hM EM V => ?_
      obtain ⟨h9, E9, e9, V9⟩ := wl_shed [_, _] _ V
      have EE : Ext h' h9 := Ext.trans E'' (Ext.trans EM E9)
      exact ⟨h9, M3, e9, V9, Ext.trans (Ext.trans E2 E4) (Ext.trans E' EE), .inr (hF _ _ _ EE f8)⟩
theorem hands_ok (m : MachP) (hb : m.buttons.length ≤ 30) (hr : 0 ≤ m.regs ∧ m.regs ≤ 30) (AB AQ AL AW : Option Addr) (cB cQ cL cW : Nat) (h : AH) :
    FnT Tryz.prog 50 #[machV AB AQ AL AW cB cQ cL cW m] h (fun v h' => IterS Tryz.prog v h' (handsM m) TA) := by
  refine call_body Tryz.func50 rfl Tryz.ntmps50 rfl ?_
  refine xp_seq ?_
  refine xp_region rfl ?_
  refine op_box (v := .agg #[.int .i64 _, .int .i64 _, .int .i64 _, .int .i64 _, .int .i64 _, .slice _ _ _, .slice _ _ _, .slice _ _ _, .slice _ _ _]) (cs := [_, _, _, _, _, _, _, _, _]) rfl rfl fun b1 hb1 => ?_
  refine wp_norm [_] rfl ?_
  refine op_pure (pv_assign (v := _) rfl) ?_
  refine xp_seq ?_
  refine xp_region rfl ?_
  refine op_pure (pv_makeFunc (vs := []) (ws := [_]) rfl rfl) ?_
  refine op_pure (pv_assign (v := _) rfl) ?_
  refine xp_ret ?_
  refine res_list (vs := [_]) Tryz.results50 ⟨resV_tmp rfl rfl, trivial⟩ fun V => ?_
  exact ⟨(ext_wl V), hands1_ok m hb hr b1 AB AQ AL AW cB cQ cL cW _ (cellsB (cs := [.int .i64 m.rods, .int .i64 m.levers, .int .i64 m.regs, .int .i64 m.travel, .int .i64 m.opn, .slice AB m.buttons.length cB, .slice AQ m.pins.length cQ, .slice AL m.links.length cL, .slice AW m.weights.length cW]) (wl_get V (i := 0) rfl))⟩
end
end Go.Proofs.YtmpahfdiebhdbaaGreatDoor
/- Walks of package rod: the next test. Conditions: as each theorem states. -/
namespace Go.Proofs.YtmpahfdiebhdbaaGreatDoor
open Go Go.HL Go.Proofs Go.Wx Go.Rd
section
variable [Lvl]
set_option maxRecDepth 100000
/-- The faults of a suspect. -/
def pickF (m : MachP) (n : Int) : List FaultP := if n < 0 then [] else ((faultsM m).drop n.toNat).take 1
def machL (m : MachP) (hs : List HeardP) : List (List FaultP) := (suspectsM m hs).map (pickF m)
def sndL (m : MachP) (ms : List (List FaultP)) (a : HandP) : List Nat := ms.map fun l => soundsB m l a
/-- The most that sound alike, of the first k. -/
def worstN (ss : List Nat) : Nat → Nat
  | 0 => 0
  | k + 1 => max (worstN ss k) ((ss.take (k + 1)).reverse.count (ss.getD k 0))
def bestS (m : MachP) (ms : List (List FaultP)) (q : HandP × Nat) (a : HandP) : HandP × Nat := if worstN (sndL m ms a) ms.length < q.2 then (a, worstN (sndL m ms a) ms.length) else q
def bestN (m : MachP) (ms : List (List FaultP)) (k : Nat) : HandP × Nat := ((handsM m).take k).foldl (bestS m ms) (⟨[], []⟩, ms.length)
def testM (m : MachP) (hs : List HeardP) : HandP × Nat := bestN m (machL m hs) (handsM m).length
def testE (m : MachP) (hs : List HeardP) : Int := if checkHeardM m hs ≠ 0 then checkHeardM m hs else if (suspectsM m hs).length = 0 then 11 else if (testM m hs).2 = (machL m hs).length then 11 else 0
def testA (m : MachP) (hs : List HeardP) : HandP := if testE m hs = 0 then (testM m hs).1 else ⟨[], []⟩
def testN (m : MachP) (hs : List HeardP) : Int := if testE m hs = 0 then (testM m hs).2 else 0
theorem hand_nil (h : AH) : HandV h ⟨[], []⟩ (.agg #[.slice none 0 0, .slice none 0 0]) := ⟨_, _, rfl, ⟨none, 0, rfl, row_nil _ _⟩, ⟨none, 0, rfl, row_nil _ _⟩⟩
theorem susp_bd (m : MachP) (hs : List HeardP) : ∀ k, k ≤ (faultsM m).length → ∀ x ∈ suspN m hs k, -1 ≤ x ∧ x < k ∧ x < (faultsM m).length
  | 0, _, x, h => by
    unfold suspN at h
    split at h
    · simp at h; subst h; omega
    · exact absurd h List.not_mem_nil
  | k + 1, hk, x, h => by
    have ih := susp_bd m hs k (by omega)
    unfold suspN at h
    rw [List.getElem?_eq_getElem (by omega : k < (faultsM m).length)] at h
    simp only at h
    split at h
    · rcases List.mem_append.1 h with h | h
      · have := ih x h; omega
      · simp at h; omega
    · have := ih x h; omega
theorem pick_fok {m : MachP} (M : MOK m) (n : Int) : ∀ f ∈ pickF m n, FOK m f := by
  intro f hf
  unfold pickF at hf
  split at hf
  · exact absurd hf List.not_mem_nil
  · exact faults_fok M (List.mem_of_mem_drop (List.mem_of_mem_take hf))
/-- Machines with faults, as elements. -/
def TB (m : MachP) (h : AH) (l : List FaultP) (c : List Value) : Prop := ∃ y, c = [y] ∧ BrkV h m l y
theorem TB.mono (m : MachP) : Mono (TB m) := fun h h' l c e ⟨y, hc, r⟩ => ⟨y, hc, r.ext e⟩
theorem tb_of {m : MachP} {h : AH} {l l' : List FaultP} (e : l' = l) {z1 z2 z3 z4 : Nat} (B : BrkP h m l z1 z2 z3 z4) : TB m h l' [brkY z1 z2 z3 z4] := by
  subst e
  exact ⟨_, rfl, _, _, _, _, rfl, B⟩
/-- One element of a row, as a row. -/
theorem row_part {α : Type} {enc : α → List Value} {h : AH} {A : Option Addr} {l : List α} {m q : Nat} (R : Row h m enc A l) (hq : q < l.length) : Row h m enc (A.map (·.add (q * m))) [l[q]] := by
  refine ⟨fun x hx => R.1 x (by simp at hx; subst hx; exact List.getElem_mem hq), fun hne => ?_⟩
  have hm : 0 < m := by
    rcases Nat.eq_zero_or_pos m with h0 | h0
    · exact absurd (by simp; exact List.length_eq_zero_iff.1 (by rw [R.1 _ (List.getElem_mem hq), h0])) hne
    · exact h0
  obtain ⟨g, off, rfl, c⟩ := R.at hm hq
  exact ⟨g, off + q * m, by rw [Option.map_some, add_none], by simpa using c⟩
theorem row_fnil (h : AH) (A : Option Addr) : Row h 1 faultC A ([] : List FaultP) := ⟨fun _ hx => absurd hx List.not_mem_nil, Rd.nil _ _⟩
/-- Sets of levers as keys of a map. -/
abbrev lvV (x : Nat) : Value := .int .i64 x
theorem lvBeq (a b : Nat) : ((a : Int) == (b : Int)) = decide (a = b) := by
  by_cases h : a = b
  · subst h; simp
  · rw [decide_eq_false h, beq_eq_false_iff_ne]
    omega
theorem lvK : KeyT Tryz.prog 93 lvV := by
  refine ⟨fun e a => chk_int rfl, fun a b => ?_, fun td ht a b => ?_, ⟨_, rfl⟩, fun a => by simp [Instr.sameBits]⟩
  · refine (eq_int (P := Tryz.prog) (t := 93) (d := 9999) rfl a b).trans ?_
    rw [lvBeq]
  · cases ht
    right
    show some ((a : Int) == (b : Int)) = _
    rw [lvBeq]
theorem worst_le (ss : List Nat) : ∀ k, worstN ss k ≤ k
  | 0 => Nat.le_refl 0
  | k + 1 => by
    have := worst_le ss k
    have h2 : (ss.take (k + 1)).reverse.count (ss.getD k 0) ≤ k + 1 := Nat.le_trans List.count_le_length (by simp; omega)
    unfold worstN
    omega
theorem hands_hok {m : MachP} (rg : 0 ≤ m.regs ∧ m.regs ≤ 2) {k : Nat} {x : HandP} (h : (handsM m)[k]? = some x) : HOK m x := by
  have hm := List.mem_of_getElem? h
  unfold handsM pairsM at hm
  obtain ⟨b, hb, hm⟩ := List.mem_flatMap.1 hm
  obtain ⟨o, ho, rfl⟩ := List.mem_map.1 hm
  have s := setsM_set ho
  rw [Int.toNat_of_nonneg rg.1] at s
  exact ⟨setsM_set hb, s⟩
/-- What holds between the hands. -/
def TestI (m : MachP) (ms : List (List FaultP)) (p2 p10 : Nat × Obj) (b4 b5 l : Nat) (r : Loop) (h0 : AH) (k : Nat) (h : AH) (M : Pv) : Prop :=
  Ext h0 h ∧ ∃ (HA OA : Option Addr) (cH cO : Nat), HandR h HA OA (bestN m ms k).1 ∧
    M = [some p2, some (b4, .cells #[.slice HA (bestN m ms k).1.buttons.length cH, .slice OA (bestN m ms k).1.on.length cO] 29 (0, 0)), some (b5, .cells #[.int .i64 ((bestN m ms k).2 : Nat)] 3 (0, 0)), some p10, none, some (l, obL r .ready none)]
theorem TestI.ext {m : MachP} {ms : List (List FaultP)} {p2 p10 : Nat × Obj} {b4 b5 l : Nat} {r : Loop} {h0 : AH} {k : Nat} {h h' : AH} {M : Pv} (I : TestI m ms p2 p10 b4 b5 l r h0 k h M) (E : Ext h h') : TestI m ms p2 p10 b4 b5 l r h0 k h' M := by
  obtain ⟨E0, HA, OA, cH, cO, RH, e⟩ := I
  exact ⟨E0.trans E, HA, OA, cH, cO, RH.ext E, e⟩
theorem bestN_succ {m : MachP} {ms : List (List FaultP)} {k : Nat} {a : HandP} (h : (handsM m)[k]? = some a) : bestN m ms (k + 1) = bestS m ms (bestN m ms k) a := by
  unfold bestN
  rw [List.take_add_one, h, Option.toList_some, List.foldl_append]
  rfl
set_option maxHeartbeats 8000000 in
theorem Test_ok (hph : Lvl.ph = true) (m : MachP) (hs : List HeardP) (HN : HLen hs) (AB AQ AL AW UA : Option Addr) (cB cQ cL cW cU : Nat) (cs : List (List Value)) (h : AH) (RM : MachR h AB AQ AL AW m) (h0 : m.weights.length < 2 ^ 40) (R : Row h 3 id UA cs) (EL : Els h TU hs cs) :
    FnT Tryz.prog 22 #[machV AB AQ AL AW cB cQ cL cW m, .slice UA hs.length cU] h (fun v h' => ∃ H, v = .tuple #[H, .int .i64 (testN m hs), .int .i64 (testE m hs)] ∧ HandV h' (testA m hs) H) := by
  refine call_body Tryz.func22 rfl Tryz.ntmps22 rfl ?_
  refine xp_seq ?_
  refine xp_region rfl ?_
  refine op_box (v := .agg #[.int .i64 _, .int .i64 _, .int .i64 _, .int .i64 _, .int .i64 _, .slice _ _ _, .slice _ _ _, .slice _ _ _, .slice _ _ _]) (cs := [_, _, _, _, _, _, _, _, _]) rfl rfl fun b2 hb2 => ?_
  refine wp_norm [_] rfl ?_
  refine op_alloc (cs := [_, _]) rfl rfl fun b4 hb4 => ?_
  refine wp_norm [_, _] rfl ?_
  refine op_alloc (cs := [_]) rfl rfl fun b5 hb5 => ?_
  refine wp_norm [_, _, _] rfl ?_
  refine op_pure (pv_assign (v := .int .i64 _) rfl) ?_
  refine xp_seq ?_
  refine xp_seq ?_
  refine xp_region rfl ?_
  refine op_loadPA 0 (vs := [.int .i64 _, .int .i64 _, .int .i64 _, .int .i64 _, .int .i64 _, .slice _ _ _, .slice _ _ _, .slice _ _ _, .slice _ _ _]) rfl rfl rfl rfl rfl ?_
  refine op_pure (pv_move (v := .slice _ _ _) rfl) ?_
  refine op_fn (caps := []) (vs := [.agg #[.int .i64 _, .int .i64 _, .int .i64 _, .int .i64 _, .int .i64 _, .slice _ _ _, .slice _ _ _, .slice _ _ _, .slice _ _ _], .slice _ _ _]) rfl rfl rfl (checkHeard_ok m hs HN AB AQ AL AW UA cB cQ cL cW cU cs h (RM.ext (Ext.refl _)) h0 (R.ext (Ext.refl _)) (EL.ext TU.mono (Ext.refl _))) ?_
  rintro _ h3 E3 rfl
  refine op_pure (pv_assign (v := .int .i64 _) rfl) ?_
  refine xp_seq ?_
  refine xp_region rfl ?_
  refine op_pure (pv_move (v := .int .i64 _) rfl) ?_
  refine op_pure (pv_of (v := .bool _) rfl) ?_
  refine xp_cond rfl (fun hc => ?_) (fun hc => ?_)
  · skip
    have hc' : checkHeardM m hs ≠ 0 := by simpa using hc
    have e : testE m hs = checkHeardM m hs := by rw [testE, if_pos hc']
    refine xp_seq ?_
    refine xp_region rfl ?_
    refine op_pure (pv_build (zc := [_, _]) (vs := []) (cs := [_, _]) rfl rfl rfl rfl rfl rfl) ?_
    refine op_pure (pv_move (v := .int .i64 _) rfl) ?_
    refine op_storeP 1 (v := .agg #[.slice _ _ _, .slice _ _ _]) (vs := [_, _]) (c' := [_, _]) rfl rfl rfl rfl rfl rfl rfl rfl rfl ?_
    refine wp_norm [_, _, _] rfl ?_
    refine op_storeP 2 (v := .int .i64 _) (vs := [_]) (c' := [_]) rfl rfl rfl rfl rfl rfl rfl rfl rfl ?_
    refine wp_norm [_, _, _] rfl ?_
    refine op_pure (pv_assign (v := .int .i64 _) rfl) ?_
    refine xp_ret ?_
    refine res_list (vs := [_, _, _]) Tryz.results22 ⟨resV_agg 1 rfl rfl rfl rfl rfl (vs := [.slice _ _ _, .slice _ _ _]) rfl, resV_one 2 rfl rfl rfl rfl (v := .int .i64 _) rfl, resV_tmp rfl rfl, trivial⟩ fun V => ?_
    refine ⟨(Ext.trans E3 (ext_wl V)), .agg #[.slice none 0 0, .slice none 0 0], by rw [testN, e, if_neg hc']; rfl, ?_⟩
    rw [testA, e, if_neg hc']
    exact hand_nil _
  · skip
    have hc' : checkHeardM m hs = 0 := by simpa using hc
    obtain ⟨M, hl5, X⟩ := checkHeard_zero hc'
    have lv := M.levers
    have pl := M.pl
    have ll := M.ll
    have bl := M.bl
    have rg := M.regs
    have fl := faults_len m
    refine xp_skip ?_
    refine xp_seq ?_
    refine xp_region rfl ?_
    refine op_loadPA 0 (vs := [.int .i64 _, .int .i64 _, .int .i64 _, .int .i64 _, .int .i64 _, .slice _ _ _, .slice _ _ _, .slice _ _ _, .slice _ _ _]) rfl rfl rfl rfl rfl ?_
    refine op_pure (pv_move (v := .slice _ _ _) rfl) ?_
    refine op_fn (caps := []) (vs := [.agg #[.int .i64 _, .int .i64 _, .int .i64 _, .int .i64 _, .int .i64 _, .slice _ _ _, .slice _ _ _, .slice _ _ _, .slice _ _ _], .slice _ _ _]) rfl rfl rfl (suspects_ok hph m M hs X HN.1 AB AQ AL AW UA cB cQ cL cW cU cs h3 (RM.ext E3) (R.ext E3) (EL.ext TU.mono E3)) ?_
    rintro _ h4 E4 ⟨SA, cS, rfl, RS⟩
    refine op_pure (pv_assign (v := .slice _ _ _) rfl) ?_
    refine xp_seq ?_
    refine xp_seq ?_
    refine xp_region rfl ?_
    refine op_pure (pv_move (v := .slice _ _ _) rfl) ?_
    refine op_pure (pv_len rfl rfl) ?_
    refine op_pure (pv_of (v := .bool _) rfl) ?_
    refine xp_cond rfl (fun hz => ?_) (fun hz => ?_)
    · skip
      have hz' : (suspectsM m hs).length = 0 := by simpa using hz
      have e : testE m hs = 11 := by rw [testE, if_neg (by simp [hc']), if_pos hz']
      refine xp_seq ?_
      refine xp_region rfl ?_
      refine op_pure (pv_build (zc := [_, _]) (vs := []) (cs := [_, _]) rfl rfl rfl rfl rfl rfl) ?_
      refine op_storeP 1 (v := .agg #[.slice _ _ _, .slice _ _ _]) (vs := [_, _]) (c' := [_, _]) rfl rfl rfl rfl rfl rfl rfl rfl rfl ?_
      refine wp_norm [_, _, _] rfl ?_
      refine op_storeP 2 (v := .int .i64 _) (vs := [_]) (c' := [_]) rfl rfl rfl rfl rfl rfl rfl rfl rfl ?_
      refine wp_norm [_, _, _] rfl ?_
      refine op_pure (pv_assign (v := .int .i64 _) rfl) ?_
      refine xp_ret ?_
      refine res_list (vs := [_, _, _]) Tryz.results22 ⟨resV_agg 1 rfl rfl rfl rfl rfl (vs := [.slice _ _ _, .slice _ _ _]) rfl, resV_one 2 rfl rfl rfl rfl (v := .int .i64 _) rfl, resV_tmp rfl rfl, trivial⟩ fun V => ?_
      refine ⟨(Ext.trans (Ext.trans E3 E4) (ext_wl V)), .agg #[.slice none 0 0, .slice none 0 0], by rw [testN, e, if_neg (by decide)]; rfl, ?_⟩
      rw [testA, e, if_neg (by decide)]
      exact hand_nil _
    · skip
      have hz' : ¬ (suspectsM m hs).length = 0 := by simpa using hz
      obtain ⟨ns, hns⟩ : ∃ ns, ns = suspectsM m hs := ⟨_, rfl⟩
      have hnb : ∀ x ∈ ns, -1 ≤ x ∧ x < (faultsM m).length := fun x hx => by rw [hns] at hx; have := susp_bd m hs _ (Nat.le_refl _) x hx; omega
      have hnl : ns.length ≤ (faultsM m).length + 1 := by rw [hns]; exact suspN_len m hs _
      have eE : testE m hs = if (testM m hs).2 = (machL m hs).length then 11 else 0 := by rw [testE, if_neg (by simp [hc']), if_neg hz']
      rw [← hns] at RS hz' ⊢
      refine xp_skip ?_
      refine xp_seq ?_
      refine xp_region rfl ?_
      refine op_loadPA 0 (vs := [.int .i64 _, .int .i64 _, .int .i64 _, .int .i64 _, .int .i64 _, .slice _ _ _, .slice _ _ _, .slice _ _ _, .slice _ _ _]) rfl rfl rfl rfl rfl ?_
      refine op_fn (caps := []) (vs := [.agg #[.int .i64 _, .int .i64 _, .int .i64 _, .int .i64 _, .int .i64 _, .slice _ _ _, .slice _ _ _, .slice _ _ _, .slice _ _ _]]) rfl rfl rfl (faults_okC m (by omega) (by omega) (by omega) AB AQ AL AW cB cQ cL cW h4) ?_
      rintro _ h5 E5 ⟨⟨FA, cF, rfl, RF⟩, hcF⟩
      have hcF : (faultsM m).length ≤ cF := hcF
      refine op_pure (pv_assign (v := .slice _ _ _) rfl) ?_
      refine xp_seq ?_
      refine xp_region rfl ?_
      refine op_alloc (cs := [_]) rfl rfl fun b10 hb10 => ?_
      refine wp_norm [_, _, _, _] rfl ?_
      refine xp_seq ?_
      refine xp_seq ?_
      refine xp_region rfl ?_
      refine op_pure (pv_move (v := .slice _ _ _) rfl) ?_
      refine op_pure (pv_len rfl rfl) ?_
      refine op_pure (pv_move (v := .int .i64 _) rfl) ?_
      refine xp_block ?_
      refine goes_more ?_
      refine goes_norm [_, _, _, _, _] rfl ?_
      obtain ⟨T1, hT1⟩ : ∃ x : TypeId, x = 102 := ⟨_, rfl⟩
      refine xp_loopL [12, 37, 38, 39, 40, 41, 42, 43, 44, 45, 46, 47, 48, 49, 50, 51, 52, 53, 54, 55, 56, 57, 58] 5 (α := Nat × Acc × List (List Value)) (fun ⟨k, a, gs⟩ => [(37, .int .i64 k)]) (fun ⟨k, a, gs⟩ L => (L.set 3 (some (b10, .cells #[.slice a.A a.n a.c] 101 (0, 0)))).set 4 (a.p)) (fun ⟨k, a, gs⟩ h_k => k ≤ ns.length ∧ AccR 102 1 (gs.flatMap id) a ∧ Els h_k (TB m) ((ns.take k).map (pickF m)) gs ∧ ∀ x ∈ gs, x.length = 1) (fun ⟨k, a, gs⟩ => ns.length - k) ((0, acc0, [])) ⟨rfl, trivial⟩ (rfl) (⟨Nat.zero_le _, accR0, Els.nil _ _, fun _ hx => absurd hx List.not_mem_nil⟩) ?_
      rintro ⟨k, a, gs⟩ T1 h_k E_k J_k
      refine goes_norm [_, _, _, _, _] rfl ?_
      obtain ⟨K1, K2, K3, K4⟩ := J_k
      refine xp_seq ?_
      refine xp_region rfl ?_
      refine op_pure (pv_of (v := .bool _) rfl) ?_
      refine xp_seq ?_
      refine xp_cond rfl (fun hk => ?_) (fun hk => ?_)
      · skip
        have hkl : k < ns.length := ltI hk
        have hnk := hnb _ (List.getElem_mem hkl)
        have hgl : (gs.flatMap id).length = k := by rw [flat_len (enc := id) (m := 1) K4, K3.1]; simp; omega
        have htk : (ns.take (k + 1)).map (pickF m) = (ns.take k).map (pickF m) ++ [pickF m ns[k]] := by rw [take_snoc hkl, List.map_append]; rfl
        obtain ⟨g, off, hA, hc⟩ := (RS.ext (Ext.trans E5 E_k)).at (by omega) hkl
        refine xp_skip ?_
        refine xp_seq ?_
        refine xp_block ?_
        refine xp_seq ?_
        refine xp_region rfl ?_
        refine op_pure (pv_indexE rfl hA rfl rfl rfl (by omega) (by omega)) ?_
        refine op_load (v := .int .i64 _) rfl rfl ((hc) 0 _ rfl) ?_
        refine op_pure (pv_assign (v := .int .i64 _) rfl) ?_
        refine xp_seq ?_
        refine xp_seq ?_
        refine xp_region rfl ?_
        refine op_pure (pv_move (v := .int .i64 _) rfl) ?_
        refine op_pure (pv_of (v := .bool _) rfl) ?_
        refine xp_cond rfl (fun hneg => ?_) (fun hneg => ?_)
        · skip
          have hneg' : ns[k] < 0 := by simpa using hneg
          have hpk : pickF m ns[k] = [] := by rw [pickF, if_pos hneg']
          refine xp_seq ?_
          refine xp_dw [] rfl rfl rfl ?_
          refine dw_load (i := 0) rfl (by decide +kernel) ?_
          refine op_loadP 3 (v := .slice _ _ _) rfl rfl rfl rfl ?_
          refine dw_load (i := 1) rfl (by decide +kernel) ?_
          refine op_loadPA 0 (vs := [.int .i64 _, .int .i64 _, .int .i64 _, .int .i64 _, .int .i64 _, .slice _ _ _, .slice _ _ _, .slice _ _ _, .slice _ _ _]) rfl rfl rfl rfl rfl ?_
          refine dw_eff (i := 2) rfl (by decide +kernel) ?_
          refine op_fn (caps := []) (vs := [.agg #[.int .i64 _, .int .i64 _, .int .i64 _, .int .i64 _, .int .i64 _, .slice _ _ _, .slice _ _ _, .slice _ _ _, .slice _ _ _], .slice _ _ _]) rfl rfl rfl (broken_ok m M [] (fun f hf => absurd hf List.not_mem_nil) (by decide) AB AQ AL AW none cB cQ cL cW 0 h_k (RM.ext (Ext.trans (Ext.trans (Ext.trans E3 E4) E5) E_k)) (row_fnil _ _)) ?_
          rintro _ h6 E6 ⟨z1, z2, z3, z4, rfl, BB⟩
          refine ⟨ext_wlm E6 _, ?_⟩
          refine dw_eff (i := 3) rfl (by decide +kernel) ?_
          refine op_buildSlice (zc := [_]) (vs := [(0, _)]) (cs := [_]) rfl rfl rfl rfl rfl rfl rfl fun b46 hb46 => ?_
          refine ⟨ext_new hb46 _, ?_⟩
          refine dw_norm [_, _, _, _, _, _] rfl ?_
          refine dw_last (i := 4) rfl (by decide +kernel) (by decide +kernel) ?_
          refine op_appendR 4 K2 rfl rfl rfl (fun V => rdP V (i := 5) rfl) rfl rfl rfl rfl rfl rfl rfl rfl rfl (by omega) rfl (by rw [hgl]; simp; omega) fun a2 h2a E2a ha2 => ?_
          refine dw_norm [_, _, _, _, _, _] rfl ?_
          refine dw_last (i := 5) rfl (by decide +kernel) (by decide +kernel) ?_
          refine op_storeP 3 (v := .slice _ _ _) (vs := [_]) (c' := [_]) rfl rfl rfl rfl rfl rfl rfl rfl rfl ?_
          refine dw_norm [_, _, _, _, _, _] rfl ?_
          refine dw_end rfl ?_
          refine xp_exit ?_
          refine xp_region rfl ?_
          refine op_pure (pv_arith rfl (by omega)) ?_
          refine op_pure (pv_move (v := .int .i64 _) rfl) ?_
          refine ⟨(k + 1, a2, gs ++ [[brkY z1 z2 z3 z4]]), ⟨rfl, trivial⟩, rfl, rfl, (Ext.trans (Ext.trans E_k E6) E2a), fun h3 E3 => ⟨hkl, by rw [List.flatMap_append]; exact ha2, by rw [htk]; exact (Els.snoc (K3.ext (TB.mono m) (Ext.trans E6 E2a)) (tb_of hpk (BB.ext E2a))).ext (TB.mono m) E3, one_len K4 rfl⟩, by first | omega | (dsimp only; omega), ?_⟩
          repeat (first | exact off_base _ _ _ | refine off_upd (by decide) ?_ | refine off_updL rfl ?_ | refine off_mix rfl ?_)
        · skip
          have hneg' : ¬ ns[k] < 0 := by simpa using hneg
          obtain ⟨q, hq⟩ : ∃ q : Nat, ns[k] = q := ⟨ns[k].toNat, by omega⟩
          have hqf : q < (faultsM m).length := by omega
          have hpk : pickF m ns[k] = [(faultsM m)[q]] := by rw [pickF, if_neg hneg', hq]; rw [Int.toNat_natCast, List.drop_eq_getElem_cons hqf]; rfl
          have hfq : ∀ f ∈ [(faultsM m)[q]], FOK m f := fun f hf => pick_fok M ns[k] f (by rw [hpk]; exact hf)
          have RF1 : Row h_k 1 faultC (FA.map (·.add (q * 1))) [(faultsM m)[q]] := row_part (RF.ext E_k) hqf
          refine xp_skip ?_
          refine xp_dw [] rfl rfl rfl ?_
          refine dw_load (i := 0) rfl (by decide +kernel) ?_
          refine op_loadP 3 (v := .slice _ _ _) rfl rfl rfl rfl ?_
          refine dw_load (i := 1) rfl (by decide +kernel) ?_
          refine op_loadPA 0 (vs := [.int .i64 _, .int .i64 _, .int .i64 _, .int .i64 _, .int .i64 _, .slice _ _ _, .slice _ _ _, .slice _ _ _, .slice _ _ _]) rfl rfl rfl rfl rfl ?_
          refine dw_pure (i := 2) rfl (by decide +kernel) (pv_move (v := .slice _ _ _) rfl) ?_
          refine dw_pure (i := 3) rfl (by decide +kernel) (pv_move (v := .int .i64 _) rfl) ?_
          refine dw_pure (i := 4) rfl (by decide +kernel) (pv_move (v := .int .i64 _) rfl) ?_
          refine dw_pure (i := 5) rfl (by decide +kernel) (pv_arith rfl (by omega)) ?_
          refine dw_pure (i := 6) rfl (by decide +kernel) (pv_sliceS q (q + 1) rfl rfl rfl (by omega) (by omega) rfl rfl (by omega) (by omega) (A' := FA.map (·.add (q * 1))) (l' := 1) (c' := cF - q) (by rw [if_neg (by omega)]; rfl) (by omega) rfl) ?_
          refine dw_eff (i := 7) rfl (by decide +kernel) ?_
          refine op_fn (caps := []) (vs := [_, .slice _ _ _]) rfl rfl rfl (broken_ok m M [(faultsM m)[q]] hfq (by show 1 < 2 ^ 20; decide) AB AQ AL AW _ cB cQ cL cW (cF - q) h_k (RM.ext (Ext.trans (Ext.trans (Ext.trans E3 E4) E5) E_k)) RF1) ?_
          rintro _ h6 E6 ⟨z1, z2, z3, z4, rfl, BB⟩
          refine ⟨ext_wlm E6 _, ?_⟩
          refine dw_eff (i := 8) rfl (by decide +kernel) ?_
          refine op_buildSlice (zc := [_]) (vs := [(0, _)]) (cs := [_]) rfl rfl rfl rfl rfl rfl rfl fun b56 hb56 => ?_
          refine ⟨ext_new hb56 _, ?_⟩
          refine dw_norm [_, _, _, _, _, _] rfl ?_
          refine dw_last (i := 9) rfl (by decide +kernel) (by decide +kernel) ?_
          refine op_appendR 4 K2 rfl rfl rfl (fun V => rdP V (i := 5) rfl) rfl rfl rfl rfl rfl rfl rfl rfl rfl (by omega) rfl (by rw [hgl]; simp; omega) fun a2 h3a E3a ha2 => ?_
          refine dw_norm [_, _, _, _, _, _] rfl ?_
          refine dw_last (i := 10) rfl (by decide +kernel) (by decide +kernel) ?_
          refine op_storeP 3 (v := .slice _ _ _) (vs := [_]) (c' := [_]) rfl rfl rfl rfl rfl rfl rfl rfl rfl ?_
          refine dw_norm [_, _, _, _, _, _] rfl ?_
          refine dw_end rfl ?_
          refine xp_region rfl ?_
          refine op_pure (pv_arith rfl (by omega)) ?_
          refine op_pure (pv_move (v := .int .i64 _) rfl) ?_
          refine ⟨(k + 1, a2, gs ++ [[brkY z1 z2 z3 z4]]), ⟨rfl, trivial⟩, rfl, rfl, (Ext.trans (Ext.trans E_k E6) E3a), fun h3 E3 => ⟨hkl, by rw [List.flatMap_append]; exact ha2, by rw [htk]; exact (Els.snoc (K3.ext (TB.mono m) (Ext.trans E6 E3a)) (tb_of hpk (BB.ext E3a))).ext (TB.mono m) E3, one_len K4 rfl⟩, by first | omega | (dsimp only; omega), ?_⟩
          repeat (first | exact off_base _ _ _ | refine off_upd (by decide) ?_ | refine off_updL rfl ?_ | refine off_mix rfl ?_)
      · skip
        have hke : k = ns.length := by have := geI hk; omega
        subst hke
        rw [List.take_length] at K3
        obtain ⟨ms, hms⟩ : ∃ ms, ms = ns.map (pickF m) := ⟨_, rfl⟩
        have hmh : machL m hs = ms := by rw [machL, ← hns, hms]
        have hml : ms.length = ns.length := by rw [hms, List.length_map]
        have hfm : ∀ l ∈ ms, ∀ f ∈ l, FOK m f := fun l hl f hf => by
          rw [hms] at hl
          obtain ⟨x, _, rfl⟩ := List.mem_map.1 hl
          exact pick_fok M x f hf
        rw [← hms] at K3
        have K3l := K3.1
        refine xp_exit ?_
        obtain ⟨p7, A7, n7, c7⟩ := a
        obtain rfl : n7 = ms.length := by have := AccR.len K2; rw [flat_len (enc := id) (m := 1) K4] at this; dsimp only at this; omega
        dsimp only
        refine goes_pubO 4 rfl ?_
        intro g1 G1 P1
        refine goes_norm [_, _, _, _, _] rfl ?_
        have RB : Row g1 1 id A7 gs := ⟨K4, AccR.rd K2 P1⟩
        have EB : Els g1 (TB m) ms gs := K3.ext (TB.mono m) G1
        refine xp_seq ?_
        refine xp_region rfl ?_
        refine op_loadP 3 (v := .slice _ _ _) rfl rfl rfl rfl ?_
        refine op_pure (pv_len rfl rfl) ?_
        refine op_storeP 2 (v := .int .i64 _) (vs := [_]) (c' := [_]) rfl rfl rfl rfl rfl rfl rfl rfl rfl ?_
        refine wp_norm [_, _, _, _, _] rfl ?_
        refine xp_seq ?_
        refine xp_seq ?_
        refine xp_region rfl ?_
        refine op_loadPA 0 (vs := [.int .i64 _, .int .i64 _, .int .i64 _, .int .i64 _, .int .i64 _, .slice _ _ _, .slice _ _ _, .slice _ _ _, .slice _ _ _]) rfl rfl rfl rfl rfl ?_
        refine op_fn (caps := []) (vs := [.agg #[.int .i64 _, .int .i64 _, .int .i64 _, .int .i64 _, .int .i64 _, .slice _ _ _, .slice _ _ _, .slice _ _ _, .slice _ _ _]]) rfl rfl rfl (hands_ok m (by omega) (by omega) AB AQ AL AW cB cQ cL cW g1) ?_
        rintro y h6 E6 It
        refine xp_block ?_
        refine xp_rangeFunc rfl ?_
        intro r l lp htm hpr has hbd V0
        refine CallV.mono (It (.yield l) #[] #[] (TestI m ms _ _ b4 b5 l lp h6) (fun _ _ => False) (fun k h1 h2 M E I => I.ext E) (fun _ _ _ _ f => f) ?_ h6 _ (Ext.refl _) ⟨Ext.refl _, none, none, 0, 0, ⟨row_nil _ _, row_nil _ _⟩, rfl⟩ V0) ?_ (fun _ _ y => y)
        · rintro k x v hc M' hk hT ⟨E7, HA, OA, cH, cO, RH, rfl⟩
          obtain ⟨HB, OB, cHB, cOB, rfl, RX⟩ := HandV.open hT
          intro V
          refine callV_yield (wl_get V (i := 5) rfl) hpr rfl htm has hbd ?_
          refine round_enter (i := 5) (r := lp) ?_ V
          refine goes_norm [_, _, _, _, _, _] rfl ?_
          refine xp_region rfl ?_
          refine op_alloc (cs := [_, _]) rfl rfl fun b13 hb13 => ?_
          refine wp_norm [_, _, _, _, _, _, _] rfl ?_
          refine op_storeP 6 (v := .agg #[.slice _ _ _, .slice _ _ _]) (vs := [_, _]) (c' := [_, _]) rfl rfl rfl rfl rfl rfl rfl rfl rfl ?_
          refine wp_norm [_, _, _, _, _, _, _] rfl ?_
          refine ⟨rfl, none, rfl, ?_⟩
          refine goes_norm [_, _, _, _, _, _, _] rfl ?_
          refine xp_block ?_
          refine xp_seq ?_
          refine xp_region rfl ?_
          refine op_makeMap fun b64 hb64 => ?_
          refine wp_norm [_, _, _, _, _, _, _, _] rfl ?_
          refine op_pure (pv_assign (v := .map _) rfl) ?_
          refine xp_seq ?_
          refine xp_region rfl ?_
          refine op_pure (pv_assign (v := .int .i64 _) rfl) ?_
          refine xp_seq ?_
          refine xp_seq ?_
          refine xp_region rfl ?_
          refine op_loadP 3 (v := .slice _ _ _) rfl rfl rfl rfl ?_
          refine op_pure (pv_len rfl rfl) ?_
          refine op_pure (pv_move (v := .int .i64 _) rfl) ?_
          refine xp_block ?_
          have HX : HOK m x := hands_hok rg hk
          obtain ⟨ss, hss⟩ : ∃ ss, ss = sndL m ms x := ⟨_, rfl⟩
          have hsl : ss.length = ms.length := by rw [hss, sndL, List.length_map]
          have hwl := worst_le ss
          refine xp_loopL [15, 17, 18, 67, 68, 69, 70, 71, 72, 73, 74, 75, 76, 77, 78, 79, 80, 81, 82, 83] 8 (α := Nat) (fun j => [(67, .int .i64 j), (15, .int .i64 (worstN ss j : Nat))]) (fun j L => L.set 7 (some (b64, mapO (encs lvV (cntL (ss.take j).reverse))))) (fun j h_j => j ≤ ms.length) (fun j => ms.length - j) (0) ⟨rfl, rfl, trivial⟩ (rfl) (Nat.zero_le _) ?_
          rintro j T4 h_j E_j J_j
          refine goes_norm [_, _, _, _, _, _, _, _] rfl ?_
          refine xp_seq ?_
          refine xp_region rfl ?_
          refine op_pure (pv_of (v := .bool _) rfl) ?_
          refine xp_seq ?_
          refine xp_cond rfl (fun hj => ?_) (fun hj => ?_)
          · skip
            have hjl : j < ms.length := ltI hj
            have hsj : ss[j]'(by omega) = soundsB m ms[j] x := by simp [hss, sndL]
            have hsd : ss.getD j 0 = soundsB m ms[j] x := by rw [List.getD_eq_getElem?_getD, List.getElem?_eq_getElem (by omega)]; exact hsj
            have hrv : (ss.take (j + 1)).reverse = soundsB m ms[j] x :: (ss.take j).reverse := by rw [take_snoc (by omega : j < ss.length), List.reverse_append, hsj]; rfl
            have hct : (ss.take j).reverse.count (soundsB m ms[j] x) ≤ j := Nat.le_trans List.count_le_length (by simp; omega)
            obtain ⟨hjc, y0, e0, z1, z2, z3, z4, rfl, BB⟩ := (EB.ext (TB.mono m) (Ext.trans E6 (Ext.trans E7 E_j))).at hjl
            obtain ⟨g, off, hA, hcc⟩ := (RB.ext (Ext.trans E6 (Ext.trans E7 E_j))).at (by omega) hjc
            have hcc : Cells h_j g (off + j * 1) [brkY z1 z2 z3 z4] := by rw [← e0]; exact hcc
            refine xp_skip ?_
            refine xp_seq ?_
            refine xp_block ?_
            refine xp_seq ?_
            refine xp_region rfl ?_
            refine op_pure (pv_indexE rfl hA rfl rfl rfl (by omega) (by omega)) ?_
            refine op_load (v := .func _ _ _) rfl rfl (hcc 0 _ rfl) ?_
            refine op_pure (pv_assign (v := _) rfl) ?_
            refine xp_seq ?_
            refine xp_region rfl ?_
            refine op_pure (pv_move (v := _) rfl) ?_
            refine op_loadPA 6 (vs := [.slice _ _ _, .slice _ _ _]) rfl rfl rfl rfl rfl ?_
            refine op_fn  (vs := _) rfl rfl rfl (brk_ok hph m M ms[j] (hfm _ (List.getElem_mem hjl)) x HX z1 z2 z3 z4 HB OB cHB cOB h_j BB (RX.ext E_j)) ?_
            rintro _ h8 E8 rfl
            obtain ⟨s, hs'⟩ : ∃ s, s = soundsB m ms[j] x := ⟨_, rfl⟩
            rw [← hs'] at hrv hct hsd ⊢
            refine op_pure (pv_assign (v := .int .i64 _) rfl) ?_
            refine xp_seq ?_
            refine xp_region rfl ?_
            refine op_pure (pv_move (v := .map _) rfl) ?_
            refine op_pure (pv_move (v := .int .i64 _) rfl) ?_
            refine op_lookup 7 (a := s) (z := .int .i64 0) lvK rfl rfl rfl rfl rfl (cnt_find s (ss.take j).reverse) ?_
            refine op_pure (pv_arith rfl (by omega)) ?_
            refine op_mapUpdate 7 (a := s) lvK rfl rfl rfl rfl rfl ?_
            refine wp_norm [_, _, _, _, _, _, _, _] rfl ?_
            refine xp_region rfl ?_
            refine op_pure (pv_move (v := .int .i64 _) rfl) ?_
            refine op_pure (pv_move (v := .map _) rfl) ?_
            refine op_pure (pv_move (v := .int .i64 _) rfl) ?_
            refine op_lookup 7 (a := s) (z := .int .i64 0) (l := cntL (s :: (ss.take j).reverse)) lvK rfl rfl rfl rfl rfl (cnt_find s (s :: (ss.take j).reverse)) ?_
            refine op_pure (pv_max rfl rfl) ?_
            refine op_pure (pv_assign (v := .int .i64 _) rfl) ?_
            refine xp_region rfl ?_
            refine op_pure (pv_arith rfl (by omega)) ?_
            refine op_pure (pv_move (v := .int .i64 _) rfl) ?_
            refine ⟨j + 1, ⟨rfl, intE (by rw [worstN, hsd, hrv]; omega), trivial⟩, rfl, by rw [hrv]; rfl, (Ext.trans E_j E8), fun h3 E3 => hjl, by first | omega | (dsimp only; omega), ?_⟩
            repeat (first | exact off_base _ _ _ | refine off_upd (by decide) ?_ | refine off_updL rfl ?_ | refine off_mix rfl ?_)
          · skip
            have hje : j = ms.length := by have := geI hj; omega
            subst hje
            have hb1 := bestN_succ hk (ms := ms)
            refine xp_exit ?_
            refine xp_seq ?_
            refine xp_region rfl ?_
            refine op_pure (pv_move (v := .int .i64 _) rfl) ?_
            refine op_loadP 2 (v := .int .i64 _) rfl rfl rfl rfl ?_
            refine op_pure (pv_of (v := .bool _) rfl) ?_
            refine xp_cond rfl (fun hw => ?_) (fun hw => ?_)
            · skip
              have hw' : worstN (sndL m ms x) ms.length < (bestN m ms k).2 := by rw [← hss]; have := of_decide_eq_true hw; omega
              rw [bestS, if_pos hw'] at hb1
              refine xp_region rfl ?_
              refine op_loadPA 6 (vs := [.slice _ _ _, .slice _ _ _]) rfl rfl rfl rfl rfl ?_
              refine op_pure (pv_move (v := .int .i64 _) rfl) ?_
              refine op_storeP 1 (v := .agg #[.slice _ _ _, .slice _ _ _]) (vs := [_, _]) (c' := [_, _]) rfl rfl rfl rfl rfl rfl rfl rfl rfl ?_
              refine wp_norm [_, _, _, _, _, _, _, _] rfl ?_
              refine op_storeP 2 (v := .int .i64 _) (vs := [_]) (c' := [_]) rfl rfl rfl rfl rfl rfl rfl rfl rfl ?_
              refine wp_norm [_, _, _, _, _, _, _, _] rfl ?_
              intro V2
              have V3 := valid_set (o' := obL lp .ready none) V2 (i := 5) rfl
              obtain ⟨h9, E9, e9, V9⟩ := wl_drop [_, _] [_, _, _, _, _, _] V3
              refine ⟨rfl, ⟨_, _, rfl⟩, h9, _, e9, V9, Ext.trans E_j E9, .inl ⟨rfl, Ext.trans E7 (Ext.trans E_j E9), HB, OB, cHB, cOB, ?_, ?_⟩⟩
              · rw [hb1]; exact RX.ext (Ext.trans E_j E9)
              · rw [hb1, ← hss]
            · skip
              have hw' : ¬ worstN (sndL m ms x) ms.length < (bestN m ms k).2 := by rw [← hss]; have := of_decide_eq_false hw; omega
              rw [bestS, if_neg hw'] at hb1
              refine xp_skip ?_
              intro V2
              have V3 := valid_set (o' := obL lp .ready none) V2 (i := 5) rfl
              obtain ⟨h9, E9, e9, V9⟩ := wl_drop [_, _] [_, _, _, _, _, _] V3
              refine ⟨rfl, ⟨_, _, rfl⟩, h9, _, e9, V9, Ext.trans E_j E9, .inl ⟨rfl, Ext.trans E7 (Ext.trans E_j E9), HA, OA, cH, cO, ?_, ?_⟩⟩
              · rw [hb1]; exact RH.ext (Ext.trans E_j E9)
              · rw [hb1]
        · rintro v H ⟨h', M', rfl, V', E', ⟨E7, HA, OA, cH, cO, RH, rfl⟩ | f⟩
          · refine ⟨h', [_, _, _, _, _], .ready, none, rfl, V', by simp, fun h'' E'' => ?_⟩
            refine goes_norm [_, _, _, _, _] rfl ?_
            refine xp_seq ?_
            refine xp_seq ?_
            refine xp_region rfl ?_
            refine op_loadP 2 (v := .int .i64 _) rfl rfl rfl rfl ?_
            refine op_loadP 3 (v := .slice _ _ _) rfl rfl rfl rfl ?_
            refine op_pure (pv_len rfl rfl) ?_
            refine op_pure (pv_of (v := .bool _) rfl) ?_
            have eT : testM m hs = bestN m ms (handsM m).length := by rw [testM, hmh]
            rw [hmh, eT] at eE
            refine xp_cond rfl (fun hq => ?_) (fun hq => ?_)
            · skip
              have hq' : (bestN m ms (handsM m).length).2 = ms.length := by simp at hq; omega
              rw [if_pos hq'] at eE
              refine xp_seq ?_
              refine xp_region rfl ?_
              refine op_pure (pv_build (zc := [_, _]) (vs := []) (cs := [_, _]) rfl rfl rfl rfl rfl rfl) ?_
              refine op_storeP 1 (v := .agg #[.slice _ _ _, .slice _ _ _]) (vs := [_, _]) (c' := [_, _]) rfl rfl rfl rfl rfl rfl rfl rfl rfl ?_
              refine wp_norm [_, _, _, _, _] rfl ?_
              refine op_storeP 2 (v := .int .i64 _) (vs := [_]) (c' := [_]) rfl rfl rfl rfl rfl rfl rfl rfl rfl ?_
              refine wp_norm [_, _, _, _, _] rfl ?_
              refine op_pure (pv_assign (v := .int .i64 _) rfl) ?_
              refine xp_ret ?_
              refine res_listM (vs := [_, _, _]) rfl Tryz.results22 ⟨resV_agg 1 rfl rfl rfl rfl rfl (vs := [.slice _ _ _, .slice _ _ _]) rfl, resV_one 2 rfl rfl rfl rfl (v := .int .i64 _) rfl, resV_tmp rfl rfl, trivial⟩ fun hM EM V => ?_
              refine ⟨Ext.trans (Ext.trans (Ext.trans (Ext.trans (Ext.trans (Ext.trans (Ext.trans (Ext.trans E3 E4) E5) E_k) G1) E6) E') E'') (Ext.trans EM (ext_wl V)), .agg #[.slice none 0 0, .slice none 0 0], by rw [testN, eE, if_neg (by decide)]; rfl, ?_⟩
              rw [testA, eE, if_neg (by decide)]
              exact hand_nil _
            · skip
              have hq' : ¬ (bestN m ms (handsM m).length).2 = ms.length := by simp at hq; omega
              rw [if_neg hq'] at eE
              refine xp_skip ?_
              refine xp_seq ?_
              refine xp_dw [] rfl rfl rfl ?_
              refine dw_load (i := 0) rfl (by decide +kernel) ?_
              refine op_loadPA 1 (vs := [.slice _ _ _, .slice _ _ _]) rfl rfl rfl rfl rfl ?_
              refine dw_load (i := 1) rfl (by decide +kernel) ?_
              refine op_loadP 2 (v := .int .i64 _) rfl rfl rfl rfl ?_
              refine dw_eff (i := 2) rfl (by decide +kernel) ?_
              refine op_storeP 1 (v := .agg #[.slice _ _ _, .slice _ _ _]) (vs := [_, _]) (c' := [_, _]) rfl rfl rfl rfl rfl rfl rfl rfl rfl ?_
              refine ⟨Ext.refl _, ?_⟩
              refine dw_norm [_, _, _, _, _] rfl ?_
              refine dw_last (i := 3) rfl (by decide +kernel) (by decide +kernel) ?_
              refine op_storeP 2 (v := .int .i64 _) (vs := [_]) (c' := [_]) rfl rfl rfl rfl rfl rfl rfl rfl rfl ?_
              refine dw_norm [_, _, _, _, _] rfl ?_
              refine dw_pure (i := 4) rfl (by decide +kernel) (pv_assign (v := .int .i64 _) rfl) ?_
              refine dw_end rfl ?_
              refine xp_ret ?_
              refine res_listM (vs := [_, _, _]) rfl Tryz.results22 ⟨resV_agg 1 rfl rfl rfl rfl rfl (vs := [.slice _ _ _, .slice _ _ _]) rfl, resV_one 2 rfl rfl rfl rfl (v := .int .i64 _) rfl, resV_tmp rfl rfl, trivial⟩ fun hM EM V => ?_
              refine ⟨Ext.trans (Ext.trans (Ext.trans (Ext.trans (Ext.trans (Ext.trans (Ext.trans (Ext.trans E3 E4) E5) E_k) G1) E6) E') E'') (Ext.trans EM (ext_wl V)), handV HA OA cH cO (bestN m ms (handsM m).length).1, by rw [testN, eE, if_pos rfl, eT]; rfl, ?_⟩
              rw [testA, eE, if_pos rfl, eT]
              exact (RH.ext (Ext.trans E'' (Ext.trans EM (ext_wl V)))).close
          · exact f.elim
end
end Go.Proofs.YtmpahfdiebhdbaaGreatDoor
/- Walks of the laws of rod: the chapter's machine; equal lists and hands. Conditions: as each theorem states. -/
namespace Go.Proofs.YtmpahfdiebhdbaaGreatDoor
open Go Go.HL Go.Proofs Go.Wx Go.Rd
section
variable [Lvl]
set_option maxRecDepth 100000
/-- The machine of the chapter's examples. -/
def mach0 : MachP := ⟨3, 4, 1, 6, 2, [0, 1], [⟨0, 0, 2⟩, ⟨0, 1, 4⟩, ⟨1, 1, 3⟩, ⟨2, 2, 1⟩], [⟨0, 2, 0, 2⟩, ⟨1, 2, -1, 4⟩], [1, 2, 3, 4]⟩
theorem machine_ok (h : AH) : FnT Tryz.prog 16 #[] h (fun v h' => ∃ AB AQ AL AW cB cQ cL cW, v = machV AB AQ AL AW cB cQ cL cW mach0 ∧ MachR h' AB AQ AL AW mach0) := by
  refine call_body Tryz.func16 rfl Tryz.ntmps16 rfl ?_
  refine xp_seq ?_
  refine xp_region rfl ?_
  refine op_alloc (cs := [_, _, _, _, _, _, _, _, _]) rfl rfl fun b0 hb0 => ?_
  refine wp_norm [_] rfl ?_
  refine xp_seq ?_
  refine xp_region rfl ?_
  refine op_buildSlice (zc := [_]) (vs := [(0, .int .i64 _), (1, .int .i64 _)]) (cs := [_, _]) rfl rfl rfl rfl rfl rfl rfl fun b1 hb1 => ?_
  refine wp_norm [_, _] rfl ?_
  refine op_pure (pv_build (zc := [_, _, _]) (vs := [(2, .int .i64 _)]) (cs := [_, _, _]) rfl rfl rfl rfl rfl rfl) ?_
  refine op_pure (pv_build (zc := [_, _, _]) (vs := [(1, .int .i64 _), (2, .int .i64 _)]) (cs := [_, _, _]) rfl rfl rfl rfl rfl rfl) ?_
  refine op_pure (pv_build (zc := [_, _, _]) (vs := [(0, .int .i64 _), (1, .int .i64 _), (2, .int .i64 _)]) (cs := [_, _, _]) rfl rfl rfl rfl rfl rfl) ?_
  refine op_pure (pv_build (zc := [_, _, _]) (vs := [(0, .int .i64 _), (1, .int .i64 _), (2, .int .i64 _)]) (cs := [_, _, _]) rfl rfl rfl rfl rfl rfl) ?_
  refine op_buildSlice (zc := [_, _, _]) (vs := [(0, .agg #[.int .i64 _, .int .i64 _, .int .i64 _]), (1, .agg #[.int .i64 _, .int .i64 _, .int .i64 _]), (2, .agg #[.int .i64 _, .int .i64 _, .int .i64 _]), (3, .agg #[.int .i64 _, .int .i64 _, .int .i64 _])]) (cs := [_, _, _, _, _, _, _, _, _, _, _, _]) rfl rfl rfl rfl rfl rfl rfl fun b6 hb6 => ?_
  refine wp_norm [_, _, _] rfl ?_
  refine op_pure (pv_build (zc := [_, _, _, _]) (vs := [(1, .int .i64 _), (3, .int .i64 _)]) (cs := [_, _, _, _]) rfl rfl rfl rfl rfl rfl) ?_
  refine op_pure (pv_build (zc := [_, _, _, _]) (vs := [(0, .int .i64 _), (1, .int .i64 _), (2, .int .i64 _), (3, .int .i64 _)]) (cs := [_, _, _, _]) rfl rfl rfl rfl rfl rfl) ?_
  refine op_buildSlice (zc := [_, _, _, _]) (vs := [(0, .agg #[.int .i64 _, .int .i64 _, .int .i64 _, .int .i64 _]), (1, .agg #[.int .i64 _, .int .i64 _, .int .i64 _, .int .i64 _])]) (cs := [_, _, _, _, _, _, _, _]) rfl rfl rfl rfl rfl rfl rfl fun b9 hb9 => ?_
  refine wp_norm [_, _, _, _] rfl ?_
  refine op_buildSlice (zc := [_]) (vs := [(0, .int .i64 _), (1, .int .i64 _), (2, .int .i64 _), (3, .int .i64 _)]) (cs := [_, _, _, _]) rfl rfl rfl rfl rfl rfl rfl fun b10 hb10 => ?_
  refine wp_norm [_, _, _, _, _] rfl ?_
  refine op_pure (pv_build (zc := [_, _, _, _, _, _, _, _, _]) (vs := [(0, .int .i64 _), (1, .int .i64 _), (2, .int .i64 _), (3, .int .i64 _), (4, .int .i64 _), (5, .slice _ _ _), (6, .slice _ _ _), (7, .slice _ _ _), (8, .slice _ _ _)]) (cs := [_, _, _, _, _, _, _, _, _]) rfl rfl rfl rfl rfl rfl) ?_
  refine op_storeP 0 (v := .agg #[.int .i64 _, .int .i64 _, .int .i64 _, .int .i64 _, .int .i64 _, .slice _ _ _, .slice _ _ _, .slice _ _ _, .slice _ _ _]) (vs := [_, _, _, _, _, _, _, _, _]) (c' := [_, _, _, _, _, _, _, _, _]) rfl rfl rfl rfl rfl rfl rfl rfl rfl ?_
  refine wp_norm [_, _, _, _, _] rfl ?_
  refine xp_ret ?_
  refine res_list (vs := [_]) Tryz.results16 ⟨resV_agg 0 rfl rfl rfl rfl rfl (vs := [.int .i64 _, .int .i64 _, .int .i64 _, .int .i64 _, .int .i64 _, .slice _ _ _, .slice _ _ _, .slice _ _ _, .slice _ _ _]) rfl, trivial⟩ fun V => ?_
  exact ⟨(ext_wl V), some ⟨b1, 0, none⟩, some ⟨b6, 0, none⟩, some ⟨b9, 0, none⟩, some ⟨b10, 0, none⟩, 2, 4, 2, 4, rfl, row_of_block (enc := intC) (m := 1) (l := mach0.buttons) (fun _ _ => rfl) (wl_get V (i := 1) rfl), row_of_block (enc := pinC) (m := 3) (l := mach0.pins) (fun _ _ => rfl) (wl_get V (i := 2) rfl), row_of_block (enc := linkC) (m := 4) (l := mach0.links) (fun _ _ => rfl) (wl_get V (i := 3) rfl), row_of_block (enc := intC) (m := 1) (l := mach0.weights) (fun _ _ => rfl) (wl_get V (i := 4) rfl)⟩
theorem pressed_ok (l : List Int) (A : Option Addr) (c : Nat) (h : AH) : FnT Tryz.prog 17 #[.slice A l.length c] h (fun v _ => v = handV A none c 0 ⟨l, []⟩) := by
  refine call_body Tryz.func17 rfl Tryz.ntmps17 rfl ?_
  refine xp_seq ?_
  refine xp_region rfl ?_
  refine op_alloc (cs := [_, _]) rfl rfl fun b2 hb2 => ?_
  refine wp_norm [_] rfl ?_
  refine xp_seq ?_
  refine xp_region rfl ?_
  refine op_pure (pv_move (v := .slice _ _ _) rfl) ?_
  refine op_pure (pv_build (zc := [_, _]) (vs := [(0, .slice _ _ _)]) (cs := [_, _]) rfl rfl rfl rfl rfl rfl) ?_
  refine op_storeP 0 (v := .agg #[.slice _ _ _, .slice _ _ _]) (vs := [_, _]) (c' := [_, _]) rfl rfl rfl rfl rfl rfl rfl rfl rfl ?_
  refine wp_norm [_] rfl ?_
  refine xp_ret ?_
  refine res_list (vs := [_]) Tryz.results17 ⟨resV_agg 0 rfl rfl rfl rfl rfl (vs := [.slice _ _ _, .slice _ _ _]) rfl, trivial⟩ fun V => ?_
  exact ⟨(ext_wl V), rfl⟩
def heard0 (l : List Int) : List HeardP := [⟨⟨[0], []⟩, l⟩]
theorem sounded_ok (l : List Int) (A : Option Addr) (c : Nat) (h : AH) (R : Row h 1 intC A l) : FnT Tryz.prog 21 #[.slice A l.length c] h (fun v h' => ∃ UA cU cs, v = .slice UA (heard0 l).length cU ∧ Row h' 3 id UA cs ∧ Els h' TU (heard0 l) cs) := by
  refine call_body Tryz.func21 rfl Tryz.ntmps21 rfl ?_
  refine xp_seq ?_
  refine xp_region rfl ?_
  refine op_pure (pv_assign (v := .slice _ _ _) rfl) ?_
  refine xp_seq ?_
  refine xp_region rfl ?_
  refine op_buildSlice (zc := [_]) (vs := [(0, .int .i64 _)]) (cs := [_]) rfl rfl rfl rfl rfl rfl rfl fun b3 hb3 => ?_
  refine wp_norm [_] rfl ?_
  refine op_fn (caps := []) (vs := [.slice _ _ _]) rfl rfl rfl (pressed_ok [0] _ _ h) ?_
  rintro _ h3 E3 rfl
  refine op_pure (pv_move (v := .slice _ _ _) rfl) ?_
  refine op_pure (pv_build (zc := [_, _, _]) (vs := [(0, .agg #[.slice _ _ _, .slice _ _ _]), (1, .slice _ _ _)]) (cs := [_, _, _]) rfl rfl rfl rfl rfl rfl) ?_
  refine op_buildSlice (zc := [_, _, _]) (vs := [(0, .agg #[.slice _ _ _, .slice _ _ _, .slice _ _ _])]) (cs := [_, _, _]) rfl rfl rfl rfl rfl rfl rfl fun b7 hb7 => ?_
  refine wp_norm [_, _] rfl ?_
  refine op_pure (pv_assign (v := .slice _ _ _) rfl) ?_
  refine xp_ret ?_
  refine res_list (vs := [_]) Tryz.results21 ⟨resV_tmp rfl rfl, trivial⟩ fun V => ?_
  refine ⟨(Ext.trans E3 (ext_wl V)), some ⟨b7, 0, none⟩, 1, [[.slice (some ⟨b3, 0, none⟩) 1 1, .slice none 0 0, .slice A l.length c]], rfl, row_of_block (enc := id) (m := 3) (l := [[.slice (some ⟨b3, 0, none⟩) 1 1, .slice none 0 0, .slice A l.length c]]) (fun x hx => by simp at hx; subst hx; rfl) (wl_get V (i := 1) rfl), rfl, ?_⟩
  intro i x cc h1 h2
  match i, h1, h2 with
  | 0, h1, h2 =>
    cases h1; cases h2
    exact ⟨_, _, _, rfl, ⟨some ⟨b3, 0, none⟩, 1, rfl, row_of_block (enc := intC) (m := 1) (l := [0]) (fun _ _ => rfl) (wl_get V (i := 0) rfl)⟩, ⟨none, 0, rfl, row_nil _ _⟩, ⟨A, c, rfl, R.ext (Ext.trans E3 (ext_wl V))⟩⟩
  | i + 1, h1, h2 => simp [heard0] at h1
theorem sameHands_ok (a b : HandP) (HA OA HB OB : Option Addr) (cA oA cB oB : Nat) (h : AH) (Ra : HandR h HA OA a) (Rb : HandR h HB OB b) (h1 : a.buttons.length < 2 ^ 40) (h2 : a.on.length < 2 ^ 40) :
    FnT Tryz.prog 25 #[handV HA OA cA oA a, handV HB OB cB oB b] h (fun v _ => v = .bool (decide (a.buttons = b.buttons) && decide (a.on = b.on))) := by
  refine call_body Tryz.func25 rfl Tryz.ntmps25 rfl ?_
  refine xp_seq ?_
  refine xp_region rfl ?_
  refine op_box (v := .agg #[.slice _ _ _, .slice _ _ _]) (cs := [_, _]) rfl rfl fun b2 hb2 => ?_
  refine wp_norm [_] rfl ?_
  refine op_box (v := .agg #[.slice _ _ _, .slice _ _ _]) (cs := [_, _]) rfl rfl fun b3 hb3 => ?_
  refine wp_norm [_, _] rfl ?_
  refine op_pure (pv_assign (v := .bool _) rfl) ?_
  refine xp_seq ?_
  refine xp_region rfl ?_
  refine op_pure (pv_fieldAddr rfl rfl rfl rfl 0 rfl) ?_
  refine op_loadP 0 (v := .slice _ _ _) rfl rfl rfl rfl ?_
  refine op_pure (pv_fieldAddr rfl rfl rfl rfl 0 rfl) ?_
  refine op_loadP 1 (v := .slice _ _ _) rfl rfl rfl rfl ?_
  refine op_fn (caps := []) (vs := [.slice _ _ _, .slice _ _ _]) rfl rfl rfl (sameInts_ok a.buttons b.buttons _ _ _ _ h (Ra.b.ext (Ext.refl _)) (Rb.b.ext (Ext.refl _)) h1) ?_
  rintro _ h3 E3 rfl
  refine op_pure (pv_move (v := .bool _) rfl) ?_
  by_cases hp : a.buttons = b.buttons
  · have hb : decide (a.buttons = b.buttons) = true := by simpa using hp
    refine guard_yes rfl hb ?_
    refine op_pure (pv_fieldAddr rfl rfl rfl rfl 1 rfl) ?_
    refine guard_yes rfl hb ?_
    refine op_loadP 0 (v := .slice _ _ _) rfl rfl rfl rfl ?_
    refine guard_yes rfl hb ?_
    refine op_pure (pv_fieldAddr rfl rfl rfl rfl 1 rfl) ?_
    refine guard_yes rfl hb ?_
    refine op_loadP 1 (v := .slice _ _ _) rfl rfl rfl rfl ?_
    refine guard_yes rfl hb ?_
    refine op_fn (caps := []) (vs := [.slice _ _ _, .slice _ _ _]) rfl rfl rfl (sameInts_ok a.on b.on _ _ _ _ h3 (Ra.o.ext E3) (Rb.o.ext E3) h2) ?_
    rintro _ h4 E4 rfl
    refine op_pure (pv_pickT rfl hb (v := .bool _) rfl) ?_
    refine op_pure (pv_assign (v := .bool _) rfl) ?_
    refine xp_ret ?_
    refine res_list (vs := [_]) Tryz.results25 ⟨resV_tmp rfl rfl, trivial⟩ fun V => ?_
    exact ⟨(Ext.trans (Ext.trans E3 E4) (ext_wl V)), by rw [hb]; rfl⟩
  · have hb : decide (a.buttons = b.buttons) = false := by simpa using hp
    refine guard_no rfl hb ?_
    refine guard_no rfl hb ?_
    refine guard_no rfl hb ?_
    refine guard_no rfl hb ?_
    refine guard_no rfl hb ?_
    refine op_pure (pv_pickF rfl hb (v := .bool _) rfl) ?_
    refine op_pure (pv_assign (v := .bool _) rfl) ?_
    refine xp_ret ?_
    refine res_list (vs := [_]) Tryz.results25 ⟨resV_tmp rfl rfl, trivial⟩ fun V => ?_
    exact ⟨(Ext.trans E3 (ext_wl V)), by rw [hb]; rfl⟩
theorem take_eq {α : Type} {a b : List α} {k : Nat} (ha : k < a.length) (hb : k < b.length) (hl : a.length = b.length) (h : a.take k = b.take k) : (a.length = b.length ∧ a.take (k + 1) = b.take (k + 1)) ↔ a[k] = b[k] := by
  rw [List.take_succ_eq_append_getElem ha, List.take_succ_eq_append_getElem hb, h]
  exact ⟨fun e => by have := List.append_cancel_left e.2; injection this, fun e => ⟨hl, by rw [e]⟩⟩
theorem sameLists_ok (a b : List (List Int)) (A B : Option Addr) (ca cb : Nat) (cs ds : List (List Value)) (h : AH) (Ra : Row h 1 id A cs) (Ea : Els h TL a cs) (Rb : Row h 1 id B ds) (Eb : Els h TL b ds) (ha : a.length < 2 ^ 40) (hx : ∀ x ∈ a, x.length < 2 ^ 40) :
    FnT Tryz.prog 24 #[.slice A a.length ca, .slice B b.length cb] h (fun v _ => v = .bool (decide (a = b))) := by
  refine call_body Tryz.func24 rfl Tryz.ntmps24 rfl ?_
  refine xp_seq ?_
  refine xp_region rfl ?_
  refine op_pure (pv_assign (v := .bool _) rfl) ?_
  refine xp_seq ?_
  refine xp_region rfl ?_
  refine op_pure (pv_move (v := .slice _ _ _) rfl) ?_
  refine op_pure (pv_len rfl rfl) ?_
  refine op_pure (pv_move (v := .slice _ _ _) rfl) ?_
  refine op_pure (pv_len rfl rfl) ?_
  refine op_pure (pv_of (v := .bool _) rfl) ?_
  refine op_pure (pv_assign (v := .bool _) rfl) ?_
  refine xp_seq ?_
  refine xp_seq ?_
  refine xp_region rfl ?_
  refine op_pure (pv_assign (v := .int .i64 _) rfl) ?_
  refine xp_block ?_
  refine xp_loopB [5, 6, 12, 13, 14, 15, 16, 17, 18, 19, 20, 21, 22, 23, 24, 25, 26, 27, 28, 29] 0 (α := Nat) (fun k => [(5, .bool (decide (a.length = b.length ∧ a.take k = b.take k))), (6, .int .i64 k)]) (fun k => _) (fun k h_k => k ≤ a.length) (fun k => a.length - k) (0) ⟨by refine boolI ?_; simp; omega, rfl, trivial⟩ (rfl) (Nat.zero_le _) ?_
  rintro k T1 h_k E_k J_k
  refine goes_norm [] rfl ?_
  refine xp_seq ?_
  refine xp_seq ?_
  refine xp_region rfl ?_
  refine op_pure (pv_move (v := .bool _) rfl) ?_
  refine op_pure (pv_move (v := .bool _) rfl) ?_
  by_cases hp : a.length = b.length ∧ a.take k = b.take k
  · have hb : decide (a.length = b.length ∧ a.take k = b.take k) = true := by simpa using hp
    refine guard_yes rfl hb ?_
    refine op_pure (pv_move (v := .int .i64 _) rfl) ?_
    refine guard_yes rfl hb ?_
    refine op_pure (pv_move (v := .slice _ _ _) rfl) ?_
    refine guard_yes rfl hb ?_
    refine op_pure (pv_len rfl rfl) ?_
    refine guard_yes rfl hb ?_
    refine op_pure (pv_of (v := .bool _) rfl) ?_
    refine op_pure (pv_pickT rfl hb (v := .bool _) rfl) ?_
    refine xp_cond rfl (fun ht => ?_) (fun ht => ?_)
    · skip
      have hlt : k < a.length := by simpa using ht
      have hlt2 : k < b.length := by omega
      obtain ⟨hka, v1, e1, ⟨X1, c1, rfl, r1⟩⟩ := (Ea.ext TL.mono E_k).at hlt
      obtain ⟨hkb, v2, e2, ⟨X2, c2, rfl, r2⟩⟩ := (Eb.ext TL.mono E_k).at hlt2
      obtain ⟨g, off, hA, hc⟩ := (Ra.ext E_k).at (by omega) hka
      obtain ⟨g2, off2, hB, hd⟩ := (Rb.ext E_k).at (by omega) hkb
      have hc : Cells h_k g (off + k * 1) [.slice X1 a[k].length c1] := by rw [← e1]; exact hc
      have hd : Cells h_k g2 (off2 + k * 1) [.slice X2 b[k].length c2] := by rw [← e2]; exact hd
      refine xp_skip ?_
      refine xp_seq ?_
      refine xp_block ?_
      refine xp_dw [] rfl rfl rfl ?_
      refine dw_pure (i := 0) rfl (by decide +kernel) (pv_move (v := .slice _ _ _) rfl) ?_
      refine dw_pure (i := 1) rfl (by decide +kernel) (pv_move (v := .int .i64 _) rfl) ?_
      refine dw_pure (i := 2) rfl (by decide +kernel) (pv_indexE rfl hA rfl rfl rfl (by omega) (by omega)) ?_
      refine dw_load (i := 3) rfl (by decide +kernel) ?_
      refine op_load (v := .slice _ _ _) rfl rfl ((hc) 0 _ rfl) ?_
      refine dw_pure (i := 4) rfl (by decide +kernel) (pv_move (v := .slice _ _ _) rfl) ?_
      refine dw_pure (i := 5) rfl (by decide +kernel) (pv_move (v := .int .i64 _) rfl) ?_
      refine dw_pure (i := 6) rfl (by decide +kernel) (pv_indexE rfl hB rfl rfl rfl (by omega) (by omega)) ?_
      refine dw_load (i := 7) rfl (by decide +kernel) ?_
      refine op_load (v := .slice _ _ _) rfl rfl ((hd) 0 _ rfl) ?_
      refine dw_last (i := 8) rfl (by decide +kernel) (by decide +kernel) ?_
      refine op_fn (caps := []) (vs := [.slice _ _ _, .slice _ _ _]) rfl rfl rfl (sameInts_ok a[k] b[k] _ _ _ _ h_k r1 r2 (hx _ (List.getElem_mem hlt))) ?_
      rintro _ h4 E4 rfl
      refine dw_pure (i := 9) rfl (by decide +kernel) (pv_assign (v := .bool _) rfl) ?_
      refine dw_end rfl ?_
      refine xp_region rfl ?_
      refine op_pure (pv_move (v := .int .i64 _) rfl) ?_
      refine op_pure (pv_arith rfl (by omega)) ?_
      refine op_pure (pv_assign (v := .int .i64 _) rfl) ?_
      refine ⟨k + 1, ⟨boolI (by rw [decide_eq_true_iff, decide_eq_true_iff, take_eq hlt hlt2 hp.1 hp.2]), rfl, trivial⟩, rfl, rfl, (Ext.trans E_k E4), fun h3 E3 => hlt, by first | omega | (dsimp only; omega), ?_⟩
      repeat (first | exact off_base _ _ _ | refine off_upd (by decide) ?_ | refine off_updL rfl ?_ | refine off_mix rfl ?_)
    · skip
      refine xp_exit ?_
      refine xp_seq ?_
      refine xp_region rfl ?_
      refine op_pure (pv_move (v := .bool _) rfl) ?_
      refine op_pure (pv_assign (v := .bool _) rfl) ?_
      refine xp_ret ?_
      refine res_list (vs := [_]) Tryz.results24 ⟨resV_tmp rfl rfl, trivial⟩ fun V => ?_
      refine ⟨(Ext.trans E_k (ext_wl V)), boolI ?_⟩
      have : k = a.length := by simp at ht; omega
      subst this
      have h2 := hp.2
      rw [hp.1, List.take_length, ← hp.1, List.take_length] at h2
      simp [h2]
  · have hb : decide (a.length = b.length ∧ a.take k = b.take k) = false := by simpa using hp
    refine guard_no rfl hb ?_
    refine guard_no rfl hb ?_
    refine guard_no rfl hb ?_
    refine guard_no rfl hb ?_
    refine op_pure (pv_pickF rfl hb (v := .bool _) rfl) ?_
    refine xp_cond rfl (fun ht => ?_) (fun ht => ?_)
    · cases ht
    · skip
      refine xp_exit ?_
      refine xp_seq ?_
      refine xp_region rfl ?_
      refine op_pure (pv_move (v := .bool _) rfl) ?_
      refine op_pure (pv_assign (v := .bool _) rfl) ?_
      refine xp_ret ?_
      refine res_list (vs := [_]) Tryz.results24 ⟨resV_tmp rfl rfl, trivial⟩ fun V => ?_
      refine ⟨(Ext.trans E_k (ext_wl V)), boolI ?_⟩
      have : a ≠ b := fun e => hp (by rw [e]; exact ⟨rfl, rfl⟩)
      simp [this]
      exact fun x y => hp ⟨x, y⟩
end
end Go.Proofs.YtmpahfdiebhdbaaGreatDoor
/- The own logic, part GP: drawn regions where guarded operations that only make a block may come in any order. Conditions: none. -/
namespace Go.HL
open Go
variable [Lvl]
section
variable {P : Program} {n : Nat} {ops : Array Oper}
theorem T1_fin {o : Oper} {S : Sl} {H : AH} {X : Sl → AH → Prop} (t : T1 P n ops o X S H) (f : Fin H) : T1 P n ops o (fun S' H' => Fin H' ∧ X S' H') S H := by
  unfold T1 at t ⊢
  split
  · rename_i hg
    rw [hg] at t
    exact opW_fin t f
  · rename_i j w hg
    rw [hg] at t
    obtain ⟨b, h1, h2, h3⟩ := t
    exact ⟨b, h1, fun e => opW_fin (h2 e) f, fun e => ⟨f, h3 e⟩⟩
theorem T1_guard {o : Oper} {j : Nat} {w : Bool} (hg : o.guard = some (j, w)) {S : Sl} {H : AH} {X : Sl → AH → Prop} :
    T1 P n ops o X S H ↔ (gval (ev n S (.tmp (((ops[j]?).bind (·.dst)).getD n))) = some w → T1 P n ops { o with guard := none } X S H) ∧ (gval (ev n S (.tmp (((ops[j]?).bind (·.dst)).getD n))) ≠ some w → X (put S o.dst undef) H) := by
  obtain ⟨d, op, ty, ps, af, gd⟩ := o
  simp only at hg
  subst hg
  constructor
  · rintro ⟨b, h1, h2, h3⟩
    subst h1
    exact ⟨fun e => h2 e, fun e => h3 e⟩
  · rintro ⟨h2, h3⟩
    exact ⟨_, rfl, fun e => h2 e, fun e => h3 e⟩
theorem el_left {d : Nat} : ∀ {a b : List Nat}, el d (a ++ b) = false → el d a = false
  | [], _, _ => rfl
  | x :: a, b, h => by
    rw [List.cons_append, el_cons, Bool.or_eq_false_iff] at h
    rw [el_cons, h.1, el_left h.2]
    rfl
theorem apart_bare {oi oj : Oper} (h : apart (ops := ops) oi oj = true) : apart (ops := ops) oi { oj with guard := none } = true := by
  unfold apart at h ⊢
  rw [Bool.and_eq_true] at h ⊢
  refine ⟨?_, h.2⟩
  have h1 := h.1
  cases hd : oi.dst with
  | none => rfl
  | some d =>
    rw [hd] at h1
    simp only [Bool.and_eq_true, Bool.not_eq_true'] at h1 ⊢
    refine ⟨?_, h1.2⟩
    have : reads ops { oj with guard := none } = opTmps oj.op ++ [] := rfl
    rw [this, List.append_nil]
    exact el_left h1.1
theorem guard_same {oi oj : Oper} {j : Nat} {w : Bool} (hg : oj.guard = some (j, w)) (hap : apart (ops := ops) oi oj = true) (S : Sl) (v : Value) :
    ev n (put S oi.dst v) (.tmp (((ops[j]?).bind (·.dst)).getD n)) = ev n S (.tmp (((ops[j]?).bind (·.dst)).getD n)) := by
  cases hd : (ops[j]?).bind (·.dst) with
  | none => simp [ev]
  | some d =>
    have := put_agree hap S v d (List.mem_append_right _ (by simp [guardT, hg, hd]))
    simp only [Option.getD_some, ev]
    rw [this]
/-- An operation that only makes a block, or hands a value on, may come first: guarded or not. -/
theorem swap_freeG {oi oj : Oper} {S : Sl} {H : AH} {Y : Sl → AH → Prop} (hf : freeOp oj.op = true) (hap : apart (ops := ops) oi oj = true) (fH : Fin H)
    (t : T1 P n ops oi (fun S' H' => T1 P n ops oj Y S' H') S H) : T1 P n ops oj (fun S' H' => Ext H H' ∧ T1 P n ops oi Y S' H') S H := by
  cases hg : oj.guard with
  | none => exact swap_free hf hg hap fH t
  | some jw =>
    obtain ⟨j, w⟩ := jw
    rw [T1_guard hg]
    constructor
    · intro hv
      refine swap_free (oj := { oj with guard := none }) hf rfl (apart_bare hap) fH ?_
      refine T1_mono' (fun v H' y => ?_) t
      exact ((T1_guard hg).1 y).1 (by rw [guard_same hg hap]; exact hv)
    · intro hv
      refine ⟨Ext.refl H, ?_⟩
      have t2 : T1 P n ops oi (fun S' H' => Y (put S' oj.dst undef) H') S H := T1_mono' (fun v H' y => ((T1_guard hg).1 y).2 (by rw [guard_same hg hap]; exact hv)) t
      refine T1_agree (X := fun S' H' => Y (put S' oj.dst undef) H') (fun x hx => (put_agree (apart_symm hap) S undef x hx).symm) ?_ t2
      intro v H' y
      rw [put_swap hap S v undef] at y
      exact y
/-- An operation is taken first where only operations that make a block or hand a value on could come ahead of it. -/
theorem take_anyG {X : Sl → AH → Prop} {i : Nat} {oi : Oper} (hoi : ops[i]? = some oi) :
    ∀ (m : Nat) (dn ac : List Nat) (G : Gh) (S : Sl) (H : AH), Fin H → (left ops dn).length = m + 1 → ready ops dn i = true → (∀ k, el k (blk ops i) = true → el k dn = false) → GT ops ac G H →
      (∀ g ∈ G, ∀ H1 H2, Ext H1 H2 → g.2 H1 → g.2 H2) →
      (∀ j oj, ops[j]? = some oj → j ≠ i → el j dn = false → el j (blk ops i) = false → freeOp oj.op = true ∧ apart (ops := ops) oi oj = true) →
      T1 P n ops oi (fun S' H' => GT ops (i :: ac) G H' ∧ WG P n ops m (i :: dn) (i :: ac) G X S' H') S H → WG P n ops (m + 1) dn ac G X S H := by
  intro m
  induction m with
  | zero =>
    intro dn ac G S H fH hl hr hal hgt hmo _ w j oj hoj hrj
    obtain ⟨hi, hdi⟩ := ready_lt hr
    obtain ⟨hj, hdj⟩ := ready_lt hrj
    by_cases hji : j = i
    · subst hji
      rw [hoi] at hoj
      obtain rfl := Option.some.inj hoj
      exact w
    · exact (left_two hi hj hdi hdj hji hl).elim
  | succ m ih =>
    intro dn ac G S H fH hl hr hal hgt hmo hfr w j oj hoj hrj
    obtain ⟨hi, hdi⟩ := ready_lt hr
    obtain ⟨hj, hdj⟩ := ready_lt hrj
    by_cases hji : j = i
    · subst hji
      rw [hoi] at hoj
      obtain rfl := Option.some.inj hoj
      exact w
    · have hnb := not_blk hrj hdi hal
      obtain ⟨hf, hap⟩ := hfr j oj hoj hji hdj hnb
      have w1 : T1 P n ops oi (fun S' H' => T1 P n ops oj (fun S2 H2 => GT ops (j :: i :: ac) G H2 ∧ WG P n ops m (j :: i :: dn) (j :: i :: ac) G X S2 H2) S' H') S H :=
        T1_mono (fun S' H' y => y.2 j oj hoj (ready_more hrj hji)) w
      have w2 := swap_freeG hf hap fH w1
      have w3 : T1 P n ops oj (fun S' H' => Fin H' ∧ Ext H H' ∧ T1 P n ops oi (fun S2 H2 => GT ops (j :: i :: ac) G H2 ∧ WG P n ops m (j :: i :: dn) (j :: i :: ac) G X S2 H2) S' H') S H := by
        exact T1_mono (fun S' H' y => ⟨y.1, y.2.1, y.2.2⟩) (T1_fin w2 fH)
      refine T1_mono ?_ w3
      rintro S' H' ⟨f', hE, y⟩
      have hpd : ∀ k, el k (j :: i :: dn) = el k (i :: j :: dn) := fun k => by simp only [el_cons]; cases (k == j) <;> cases (k == i) <;> rfl
      have hpa : ∀ k, el k (j :: i :: ac) = true → el k (i :: j :: ac) = true := fun k => by
        simp only [el_cons, Bool.or_eq_true]
        rintro (h | h | h)
        · exact .inr (.inl h)
        · exact .inl h
        · exact .inr (.inr h)
      have hal' : ∀ k, el k (blk ops i) = true → el k (j :: dn) = false := fun k hk => by
        simp only [el_cons, hal k hk, Bool.or_false]
        cases hkj : (k == j) with
        | false => rfl
        | true => rw [beq_iff_eq] at hkj; subst hkj; rw [hk] at hnb; cases hnb
      have hgt' : GT ops (j :: ac) G H' := fun g hg2 a => hmo g hg2 H H' hE (hgt g hg2 (alive_less (fun k hk => by simp [el_cons, hk]) a))
      refine ⟨hgt', ?_⟩
      refine ih (j :: dn) (j :: ac) G S' H' f' (left_cons hj hdj hl) (ready_more hr (fun e => hji e.symm)) hal' hgt' hmo ?_ (T1_mono (fun S2 H2 z => ⟨GT_more hpa z.1, WG_perm m _ _ _ _ hpd hpa _ _ z.2⟩) y)
      intro k ok hok hki hdk hbk
      exact hfr k ok hok hki (by simp only [el_cons, Bool.or_eq_false_iff] at hdk; exact hdk.2) hbk
def okH (ops : Array Oper) (dn : List Nat) (i : Nat) : Bool :=
  ready ops dn i && (blk ops i).all (fun k => !el k dn) &&
  match ops[i]? with
  | some oi => (List.range ops.size).all fun j => j == i || el j dn || el j (blk ops i) || (match ops[j]? with | some oj => freeOp oj.op && apart (ops := ops) oi oj | none => true)
  | none => false
end
section
variable {P : Program} {n : Nat} {ops : Array Oper} {i : Nat} {d : Option Tmp} {op : Op} {ty : TypeId} {ps : String} {af : Array Edge} {S : Sl} {L : Pv} {h : AH} {mask : List Bool} {X : Sl → AH → Prop} {dn ac : List Nat}
theorem dw_effH {j : Nat} {want t : Bool} (hoi : ops[i]? = some ⟨d, op, ty, ps, af, some (j, want)⟩) (hok : okH ops dn i = true)
    (ht : ev n S (.tmp (((ops[j]?).bind (·.dst)).getD n)) = .bool t) (hb : t = want) (w : wpL P n ops [⟨d, op, ty, ps, af, none⟩] (fun S' L' h' => Ext (wl h (rmM mask L)) (wl h' (rmM mask L')) ∧ Dw P n ops mask X (i :: dn) (i :: ac) S' L' h') (fun _ _ _ _ => False) S L h) : Dw P n ops mask X dn ac S L h := by
  intro V G hG
  unfold okH at hok
  rw [hoi] at hok
  simp only [Bool.and_eq_true] at hok
  obtain ⟨⟨hr, hbl⟩, hap⟩ := hok
  obtain ⟨m, hm⟩ := left_pos hr
  obtain ⟨hi, hdi⟩ := ready_lt hr
  rw [hm]
  refine take_anyG hoi m dn ac G S (wl h L) (fin_wl V) hm hr ?_ ?_ (fun g hg => (hG g hg).2.1) ?_ ?_
  · intro x hx
    have := List.all_eq_true.1 hbl x ((el_mem _ _).1 hx)
    simpa using this
  · intro g hg _
    exact (hG g hg).2.1 _ _ (ext_rm V) (hG g hg).2.2
  · intro j oj hoj hji hdj hbj
    have hjl : j < ops.size := (Array.getElem?_eq_some_iff.1 hoj).1
    have := List.all_eq_true.1 hap j (by simpa using hjl)
    rw [hoj, hdj, hbj] at this
    simp only [Bool.or_false, Bool.or_eq_true, beq_iff_eq, Bool.and_eq_true] at this
    exact this.resolve_left hji
  · refine ⟨some t, by rw [ht]; rfl, fun _ => ?_, fun hn => absurd (congrArg some hb) hn⟩
    show opW P n ⟨d, op, ty, ps, af, none⟩ S (wl h L) _ noE
    refine opW_mono ?_ ?_ (w V)
    · rintro v H ⟨L', h', rfl, V', hE, hD⟩
      have hG' : ∀ g ∈ G, ((∀ H, g.2 H) ∨ (isLd ops g.1 = true ∧ el g.1 (i :: dn) = true)) ∧ (∀ H1 H2, Ext H1 H2 → g.2 H1 → g.2 H2) ∧ g.2 (wl h' (rmM mask L')) := by
        intro g hg
        obtain ⟨h1, h2, h3⟩ := hG g hg
        exact ⟨h1.imp id (fun e => ⟨e.1, by simp [el_cons, e.2]⟩), h2, h2 _ _ hE h3⟩
      refine ⟨fun g hg _ => (hG' g hg).2.1 _ _ (ext_rm V') (hG' g hg).2.2, ?_⟩
      have := hD V' G hG'
      rw [left_cons hi hdi hm] at this
      exact this
    · rintro v H ⟨L', h', rfl, V', y⟩; exact y
theorem dw_lastH {j : Nat} {want t : Bool} (hoi : ops[i]? = some ⟨d, op, ty, ps, af, some (j, want)⟩) (hok : okH ops dn i = true) (hl : okL ops dn i = true)
    (ht : ev n S (.tmp (((ops[j]?).bind (·.dst)).getD n)) = .bool t) (hb : t = want) (w : wpL P n ops [⟨d, op, ty, ps, af, none⟩] (fun S' L' h' => Dw P n ops mask X (i :: dn) (i :: ac) S' L' h') (fun _ _ _ _ => False) S L h) : Dw P n ops mask X dn ac S L h := by
  intro V G hG
  unfold okH at hok
  rw [hoi] at hok
  simp only [Bool.and_eq_true] at hok
  obtain ⟨⟨hr, hbl⟩, hap⟩ := hok
  obtain ⟨m, hm⟩ := left_pos hr
  obtain ⟨hi, hdi⟩ := ready_lt hr
  rw [hm]
  refine take_anyG hoi m dn ac G S (wl h L) (fin_wl V) hm hr ?_ ?_ (fun g hg => (hG g hg).2.1) ?_ ?_
  · intro x hx
    have := List.all_eq_true.1 hbl x ((el_mem _ _).1 hx)
    simpa using this
  · intro g hg _
    exact (hG g hg).2.1 _ _ (ext_rm V) (hG g hg).2.2
  · intro j oj hoj hji hdj hbj
    have hjl : j < ops.size := (Array.getElem?_eq_some_iff.1 hoj).1
    have := List.all_eq_true.1 hap j (by simpa using hjl)
    rw [hoj, hdj, hbj] at this
    simp only [Bool.or_false, Bool.or_eq_true, beq_iff_eq, Bool.and_eq_true] at this
    exact this.resolve_left hji
  · refine ⟨some t, by rw [ht]; rfl, fun _ => ?_, fun hn => absurd (congrArg some hb) hn⟩
    show opW P n ⟨d, op, ty, ps, af, none⟩ S (wl h L) _ noE
    refine opW_mono ?_ ?_ (w V)
    · rintro v H ⟨L', h', rfl, V', hD⟩
      -- the facts that are still asked hold everywhere
      have hdead : ∀ g ∈ G, (∀ H, g.2 H) ∨ ¬ alive ops (i :: ac) g.1 := by
        intro g hg
        rcases (hG g hg).1 with h1 | ⟨h1, h2⟩
        · exact .inl h1
        · right
          intro a
          have := List.all_eq_true.1 hl g.1 ((el_mem _ _).1 h2)
          rw [h1] at this
          simp only [Bool.not_true, Bool.false_or] at this
          have := a i this
          simp [el_cons] at this
      refine ⟨fun g hg a => ((hdead g hg).resolve_right (fun n => n a)) _, ?_⟩
      have hall : ∀ (m : Nat) (dn' ac' : List Nat) (S' : Sl) (H' : AH), (∀ k, el k (i :: ac) = true → el k ac' = true) → WG P n ops m dn' ac' [] X S' H' → WG P n ops m dn' ac' G X S' H' := by
        intro m
        induction m with
        | zero => intro dn' ac' S' H' _ w; exact w
        | succ m ih =>
          intro dn' ac' S' H' hsub w j oj hoj hrj
          refine T1_mono (fun S2 H2 y => ⟨fun g hg a => ?_, ih _ _ _ _ (fun k hk => by simp [el_cons, hsub k hk]) y.2⟩) (w j oj hoj hrj)
          exact ((hdead g hg).resolve_right (fun n => n (alive_less (fun k hk => by simp [el_cons, hsub k hk]) a))) _
      have := hD V' [] (fun g hg => by cases hg)
      rw [left_cons hi hdi hm] at this
      exact hall m _ _ _ _ (fun _ h => h) this
    · rintro v H ⟨L', h', rfl, V', y⟩; exact y
end
end Go.HL
/- Walks of the laws of rod: the chapter's examples hold. Conditions: as each theorem states. -/
namespace Go.Proofs.YtmpahfdiebhdbaaGreatDoor
open Go Go.HL Go.Proofs Go.Wx Go.Rd
section
variable [Lvl]
set_option maxRecDepth 100000
theorem m0_hand : checkHandM mach0 ⟨[0, 1], []⟩ = 0 := by decide +kernel
theorem m0_lifts : liftsL mach0 ⟨[0, 1], []⟩ = [4, 3, 1, 0] := by decide +kernel
theorem m0_force : forceV mach0 ⟨[0, 1], []⟩ = 9 := by decide +kernel
theorem m0_hand2 : checkHandM mach0 ⟨[], [0]⟩ = 0 := by decide +kernel
theorem m0_chart : chartL mach0 [0] = [[0, 1, 2], [1]] := by decide +kernel
theorem m0_suspE : suspE mach0 (heard0 [0]) = 0 := by decide +kernel
theorem m0_suspL : suspL mach0 (heard0 [0]) = [1, 9] := by decide +kernel
theorem m0_testE : testE mach0 (heard0 [0]) = 0 := by decide +kernel
theorem m0_testN : testN mach0 (heard0 [0]) = 1 := by decide +kernel
theorem m0_testB : (testA mach0 (heard0 [0])).buttons = [1] := by decide +kernel
theorem m0_testO : (testA mach0 (heard0 [0])).on = [] := by decide +kernel
theorem m0_test : testA mach0 (heard0 [0]) = ⟨[1], []⟩ := by
  have h1 := m0_testB
  have h2 := m0_testO
  cases h : testA mach0 (heard0 [0]) with
  | mk b o => rw [h] at h1 h2; simp only at h1 h2; rw [h1, h2]
theorem hlen0 (l : List Int) (h : l.length < 2 ^ 40) : HLen (heard0 l) := ⟨by show 1 < 2 ^ 40; decide, fun x hx => by simp [heard0] at hx; subst hx; exact ⟨by show 1 < 2 ^ 40; decide, by show 0 < 2 ^ 40; decide, h⟩⟩
theorem rod_sounding (hph : Lvl.ph = true) (h : AH) : FnT Tryz.prog 6 #[] h (fun v _ => v = .bool true) := by
  have w0 : mach0.weights.length < 2 ^ 40 := by decide
  refine call_body Tryz.func6 rfl Tryz.ntmps6 rfl ?_
  refine xp_seq ?_
  refine xp_region rfl ?_
  refine op_pure (pv_assign (v := .bool _) rfl) ?_
  refine xp_seq ?_
  refine xp_region rfl ?_
  refine op_fn (caps := []) (vs := []) rfl rfl rfl (machine_ok h) ?_
  rintro _ h1 E1 ⟨AB1, AQ1, AL1, AW1, cB1, cQ1, cL1, cW1, rfl, M1⟩
  refine op_buildSlice (zc := [_]) (vs := [(0, .int .i64 _), (1, .int .i64 _)]) (cs := [_, _]) rfl rfl rfl rfl rfl rfl rfl fun b14 hb14 => ?_
  refine wp_norm [_] rfl ?_
  refine wp_pub 0 rfl rfl ?_
  intro h2 E2 p2
  refine wp_norm [_] rfl ?_
  refine op_fn (caps := []) (vs := [.slice _ _ _]) rfl rfl rfl (pressed_ok [0, 1] _ _ h2) ?_
  rintro _ h3 E3 rfl
  have R2 : Row h2 1 intC (some ⟨b14, 0, none⟩) [0, 1] := row_of_block (enc := intC) (m := 1) (l := [0, 1]) (fun _ _ => rfl) p2
  have H1 := Lifts_ok hph mach0 ⟨[0, 1], []⟩ AB1 AQ1 AL1 AW1 (some ⟨b14, 0, none⟩) none cB1 cQ1 cL1 cW1 2 0 h3 (M1.ext (Ext.trans E2 E3)) ⟨R2.ext E3, row_nil _ _⟩ w0 (by decide) (by decide)
  rw [m0_hand, m0_lifts] at H1
  refine op_fn (caps := []) (vs := [.agg #[.int .i64 _, .int .i64 _, .int .i64 _, .int .i64 _, .int .i64 _, .slice _ _ _, .slice _ _ _, .slice _ _ _, .slice _ _ _], .agg #[.slice _ _ _, .slice _ _ _]]) rfl rfl rfl (H1) ?_
  rintro _ h4 E4 ⟨_, rfl, A4, c4, rfl, S4⟩
  refine op_pure (pv_move (v := .tuple #[.slice _ _ _, .int .i64 _]) rfl) ?_
  refine op_pure (pv_of (v := .slice _ _ _) rfl) ?_
  refine op_pure (pv_of (v := .int .i64 _) rfl) ?_
  refine op_pure (pv_assign (v := .slice _ _ _) rfl) ?_
  refine op_pure (pv_assign (v := .int .i64 _) rfl) ?_
  refine xp_seq ?_
  refine xp_region rfl ?_
  refine op_fn (caps := []) (vs := []) rfl rfl rfl (machine_ok h4) ?_
  rintro _ h5 E5 ⟨AB2, AQ2, AL2, AW2, cB2, cQ2, cL2, cW2, rfl, M2⟩
  refine op_buildSlice (zc := [_]) (vs := [(0, .int .i64 _), (1, .int .i64 _)]) (cs := [_, _]) rfl rfl rfl rfl rfl rfl rfl fun b21 hb21 => ?_
  refine wp_norm [_, _] rfl ?_
  refine wp_pub 1 rfl rfl ?_
  intro h6 E6 p6
  refine wp_norm [_, _] rfl ?_
  refine op_fn (caps := []) (vs := [.slice _ _ _]) rfl rfl rfl (pressed_ok [0, 1] _ _ h6) ?_
  rintro _ h7 E7 rfl
  have R6 : Row h6 1 intC (some ⟨b21, 0, none⟩) [0, 1] := row_of_block (enc := intC) (m := 1) (l := [0, 1]) (fun _ _ => rfl) p6
  have H2 := Force_ok hph mach0 ⟨[0, 1], []⟩ AB2 AQ2 AL2 AW2 (some ⟨b21, 0, none⟩) none cB2 cQ2 cL2 cW2 2 0 h7 (M2.ext (Ext.trans E6 E7)) ⟨R6.ext E7, row_nil _ _⟩ w0 (by decide) (by decide)
  rw [m0_hand, m0_force] at H2
  refine op_fn (caps := []) (vs := [.agg #[.int .i64 _, .int .i64 _, .int .i64 _, .int .i64 _, .int .i64 _, .slice _ _ _, .slice _ _ _, .slice _ _ _, .slice _ _ _], .agg #[.slice _ _ _, .slice _ _ _]]) rfl rfl rfl (H2) ?_
  rintro _ h8 E8 rfl
  refine op_pure (pv_move (v := .tuple #[.int .i64 _, .int .i64 _]) rfl) ?_
  refine op_pure (pv_of (v := .int .i64 _) rfl) ?_
  refine op_pure (pv_of (v := .int .i64 _) rfl) ?_
  refine op_pure (pv_assign (v := .int .i64 _) rfl) ?_
  refine op_pure (pv_assign (v := .int .i64 _) rfl) ?_
  refine xp_seq ?_
  refine xp_region rfl ?_
  refine op_fn (caps := []) (vs := []) rfl rfl rfl (machine_ok h8) ?_
  rintro _ h9 E9 ⟨AB3, AQ3, AL3, AW3, cB3, cQ3, cL3, cW3, rfl, M3⟩
  refine op_buildSlice (zc := [_]) (vs := [(0, .int .i64 _)]) (cs := [_]) rfl rfl rfl rfl rfl rfl rfl fun b28 hb28 => ?_
  refine wp_norm [_, _, _] rfl ?_
  refine wp_pub 2 rfl rfl ?_
  intro h10 E10 p10
  refine wp_norm [_, _, _] rfl ?_
  have R10 : Row h10 1 intC (some ⟨b28, 0, none⟩) [0] := row_of_block (enc := intC) (m := 1) (l := [0]) (fun _ _ => rfl) p10
  have H3 := Chart_ok hph mach0 [0] AB3 AQ3 AL3 AW3 (some ⟨b28, 0, none⟩) cB3 cQ3 cL3 cW3 1 h10 (M3.ext E10) R10 w0 (by decide)
  rw [m0_hand2, m0_chart] at H3
  refine op_fn (caps := []) (vs := [.agg #[.int .i64 _, .int .i64 _, .int .i64 _, .int .i64 _, .int .i64 _, .slice _ _ _, .slice _ _ _, .slice _ _ _, .slice _ _ _], .slice _ _ _]) rfl rfl rfl (H3) ?_
  rintro _ h11 E11 ⟨_, rfl, S11⟩
  obtain ⟨cs11, A11, c11, rfl, R11, L11⟩ := SlX.els S11
  refine op_pure (pv_move (v := .tuple #[.slice _ _ _, .int .i64 _]) rfl) ?_
  refine op_pure (pv_of (v := .slice _ _ _) rfl) ?_
  refine op_pure (pv_of (v := .int .i64 _) rfl) ?_
  refine op_pure (pv_assign (v := .slice _ _ _) rfl) ?_
  refine op_pure (pv_assign (v := .int .i64 _) rfl) ?_
  refine xp_seq ?_
  refine xp_region rfl ?_
  refine op_fn (caps := []) (vs := []) rfl rfl rfl (machine_ok h11) ?_
  rintro _ h12 E12 ⟨AB4, AQ4, AL4, AW4, cB4, cQ4, cL4, cW4, rfl, M4⟩
  refine op_buildSlice (zc := [_]) (vs := [(0, .int .i64 _)]) (cs := [_]) rfl rfl rfl rfl rfl rfl rfl fun b34 hb34 => ?_
  refine wp_norm [_, _, _, _] rfl ?_
  refine wp_pub 3 rfl rfl ?_
  intro h13 E13 p13
  refine wp_norm [_, _, _, _] rfl ?_
  have R13 : Row h13 1 intC (some ⟨b34, 0, none⟩) [0] := row_of_block (enc := intC) (m := 1) (l := [0]) (fun _ _ => rfl) p13
  refine op_fn (caps := []) (vs := [.slice _ _ _]) rfl rfl rfl (sounded_ok [0] _ _ h13 R13) ?_
  rintro _ h14 E14 ⟨UA4, cU4, cs4, rfl, RU4, EU4⟩
  have H4 := Suspects_ok hph mach0 (heard0 [0]) (hlen0 _ (by decide)) AB4 AQ4 AL4 AW4 UA4 cB4 cQ4 cL4 cW4 cU4 cs4 h14 (M4.ext (Ext.trans E13 E14)) w0 RU4 EU4
  rw [m0_suspE, m0_suspL] at H4
  refine op_fn (caps := []) (vs := [.agg #[.int .i64 _, .int .i64 _, .int .i64 _, .int .i64 _, .int .i64 _, .slice _ _ _, .slice _ _ _, .slice _ _ _, .slice _ _ _], .slice _ _ _]) rfl rfl rfl (H4) ?_
  rintro _ h15 E15 ⟨_, rfl, A15, c15, rfl, S15⟩
  refine op_pure (pv_move (v := .tuple #[.slice _ _ _, .int .i64 _]) rfl) ?_
  refine op_pure (pv_of (v := .slice _ _ _) rfl) ?_
  refine op_pure (pv_of (v := .int .i64 _) rfl) ?_
  refine op_pure (pv_assign (v := .slice _ _ _) rfl) ?_
  refine op_pure (pv_assign (v := .int .i64 _) rfl) ?_
  refine xp_seq ?_
  refine xp_region rfl ?_
  refine op_fn (caps := []) (vs := []) rfl rfl rfl (machine_ok h15) ?_
  rintro _ h16 E16 ⟨AB5, AQ5, AL5, AW5, cB5, cQ5, cL5, cW5, rfl, M5⟩
  refine op_buildSlice (zc := [_]) (vs := [(0, .int .i64 _)]) (cs := [_]) rfl rfl rfl rfl rfl rfl rfl fun b41 hb41 => ?_
  refine wp_norm [_, _, _, _, _] rfl ?_
  refine wp_pub 4 rfl rfl ?_
  intro h17 E17 p17
  refine wp_norm [_, _, _, _, _] rfl ?_
  have R17 : Row h17 1 intC (some ⟨b41, 0, none⟩) [0] := row_of_block (enc := intC) (m := 1) (l := [0]) (fun _ _ => rfl) p17
  refine op_fn (caps := []) (vs := [.slice _ _ _]) rfl rfl rfl (sounded_ok [0] _ _ h17 R17) ?_
  rintro _ h18 E18 ⟨UA5, cU5, cs5, rfl, RU5, EU5⟩
  have H5 := Test_ok hph mach0 (heard0 [0]) (hlen0 _ (by decide)) AB5 AQ5 AL5 AW5 UA5 cB5 cQ5 cL5 cW5 cU5 cs5 h18 (M5.ext (Ext.trans E17 E18)) w0 RU5 EU5
  rw [m0_testE, m0_testN, m0_test] at H5
  refine op_fn (caps := []) (vs := [.agg #[.int .i64 _, .int .i64 _, .int .i64 _, .int .i64 _, .int .i64 _, .slice _ _ _, .slice _ _ _, .slice _ _ _, .slice _ _ _], .slice _ _ _]) rfl rfl rfl (H5) ?_
  rintro _ h19 E19 ⟨_, rfl, V19⟩
  obtain ⟨HA, OA, cH, cO, rfl, RH⟩ := HandV.open V19
  refine op_pure (pv_move (v := .tuple #[.agg #[.slice _ _ _, .slice _ _ _], .int .i64 _, .int .i64 _]) rfl) ?_
  refine op_pure (pv_of (v := .agg #[.slice _ _ _, .slice _ _ _]) rfl) ?_
  refine op_pure (pv_of (v := .int .i64 _) rfl) ?_
  refine op_pure (pv_of (v := .int .i64 _) rfl) ?_
  refine op_alloc (cs := [_, _]) rfl rfl fun b9 hb9 => ?_
  refine wp_norm [_, _, _, _, _, _] rfl ?_
  refine op_storeP 5 (v := .agg #[.slice _ _ _, .slice _ _ _]) (vs := [_, _]) (c' := [_, _]) rfl rfl rfl rfl rfl rfl rfl rfl rfl ?_
  refine wp_norm [_, _, _, _, _, _] rfl ?_
  refine op_pure (pv_assign (v := .int .i64 _) rfl) ?_
  refine op_pure (pv_assign (v := .int .i64 _) rfl) ?_
  refine xp_seq ?_
  refine xp_dw [] rfl rfl rfl ?_
  refine dw_pure (i := 0) rfl (by decide +kernel) (pv_move (v := .int .i64 _) rfl) ?_
  refine dw_pure (i := 1) rfl (by decide +kernel) (pv_of (v := .bool _) rfl) ?_
  refine dw_pure (i := 2) rfl (by decide +kernel) (pv_move (v := .bool _) rfl) ?_
  refine dw_pureG (i := 3) rfl (by decide +kernel) rfl rfl (pv_move (v := .int .i64 _) rfl) ?_
  refine dw_pureG (i := 4) rfl (by decide +kernel) rfl rfl (pv_of (v := .bool _) rfl) ?_
  refine dw_pure (i := 5) rfl (by decide +kernel) (pv_pickT rfl rfl (v := .bool _) rfl) ?_
  refine dw_pure (i := 6) rfl (by decide +kernel) (pv_move (v := .bool _) rfl) ?_
  refine dw_pureG (i := 7) rfl (by decide +kernel) rfl rfl (pv_move (v := .int .i64 _) rfl) ?_
  refine dw_pureG (i := 8) rfl (by decide +kernel) rfl rfl (pv_of (v := .bool _) rfl) ?_
  refine dw_pure (i := 9) rfl (by decide +kernel) (pv_pickT rfl rfl (v := .bool _) rfl) ?_
  refine dw_pure (i := 10) rfl (by decide +kernel) (pv_move (v := .bool _) rfl) ?_
  refine dw_pureG (i := 11) rfl (by decide +kernel) rfl rfl (pv_move (v := .int .i64 _) rfl) ?_
  refine dw_pureG (i := 12) rfl (by decide +kernel) rfl rfl (pv_of (v := .bool _) rfl) ?_
  refine dw_pure (i := 13) rfl (by decide +kernel) (pv_pickT rfl rfl (v := .bool _) rfl) ?_
  refine dw_pure (i := 14) rfl (by decide +kernel) (pv_move (v := .bool _) rfl) ?_
  refine dw_pureG (i := 15) rfl (by decide +kernel) rfl rfl (pv_move (v := .int .i64 _) rfl) ?_
  refine dw_pureG (i := 16) rfl (by decide +kernel) rfl rfl (pv_of (v := .bool _) rfl) ?_
  refine dw_pure (i := 17) rfl (by decide +kernel) (pv_pickT rfl rfl (v := .bool _) rfl) ?_
  refine dw_pure (i := 18) rfl (by decide +kernel) (pv_move (v := .bool _) rfl) ?_
  refine dw_pureG (i := 19) rfl (by decide +kernel) rfl rfl (pv_move (v := .int .i64 _) rfl) ?_
  refine dw_pureG (i := 20) rfl (by decide +kernel) rfl rfl (pv_of (v := .bool _) rfl) ?_
  refine dw_pure (i := 21) rfl (by decide +kernel) (pv_pickT rfl rfl (v := .bool _) rfl) ?_
  refine dw_pure (i := 22) rfl (by decide +kernel) (pv_move (v := .bool _) rfl) ?_
  refine dw_pureG (i := 23) rfl (by decide +kernel) rfl rfl (pv_move (v := .int .i64 _) rfl) ?_
  refine dw_pureG (i := 24) rfl (by decide +kernel) rfl rfl (pv_of (v := .bool _) rfl) ?_
  refine dw_pure (i := 25) rfl (by decide +kernel) (pv_pickT rfl rfl (v := .bool _) rfl) ?_
  refine dw_pure (i := 26) rfl (by decide +kernel) (pv_move (v := .bool _) rfl) ?_
  refine dw_pureG (i := 27) rfl (by decide +kernel) rfl rfl (pv_move (v := .slice _ _ _) rfl) ?_
  refine dw_lastH (i := 28) rfl (by decide +kernel) (by decide +kernel) rfl rfl ?_
  refine op_buildSlice (zc := [_]) (vs := [(0, .int .i64 _), (1, .int .i64 _), (2, .int .i64 _), (3, .int .i64 _)]) (cs := [_, _, _, _]) rfl rfl rfl rfl rfl rfl rfl fun b75 hb75 => ?_
  refine dw_norm [_, _, _, _, _, _, _] rfl ?_
  refine dw_pub 6 rfl ?_
  intro g1 F1 q1
  refine dw_norm [_, _, _, _, _, _, _] rfl ?_
  refine dw_lastH (i := 29) rfl (by decide +kernel) (by decide +kernel) rfl rfl ?_
  refine op_fn (caps := []) (vs := [.slice _ _ _, .slice _ _ _]) rfl rfl rfl (sameInts_ok [4, 3, 1, 0] [4, 3, 1, 0] _ _ _ _ g1 (S4.ext (Ext.trans (Ext.trans (Ext.trans (Ext.trans (Ext.trans (Ext.trans (Ext.trans (Ext.trans (Ext.trans (Ext.trans (Ext.trans (Ext.trans (Ext.trans (Ext.trans (Ext.trans E5 E6) E7) E8) E9) E10) E11) E12) E13) E14) E15) E16) E17) E18) E19) F1)) (row_of_block (enc := intC) (m := 1) (l := [4, 3, 1, 0]) (fun _ _ => rfl) q1) (by decide)) ?_
  rintro _ g2 F2 rfl
  refine dw_pure (i := 30) rfl (by decide +kernel) (pv_pickT rfl rfl (v := .bool _) rfl) ?_
  refine dw_pure (i := 31) rfl (by decide +kernel) (pv_move (v := .bool _) rfl) ?_
  refine dw_pureG (i := 32) rfl (by decide +kernel) rfl rfl (pv_move (v := .slice _ _ _) rfl) ?_
  refine dw_lastH (i := 33) rfl (by decide +kernel) (by decide +kernel) rfl rfl ?_
  refine op_buildSlice (zc := [_]) (vs := [(0, .int .i64 _), (1, .int .i64 _), (2, .int .i64 _)]) (cs := [_, _, _]) rfl rfl rfl rfl rfl rfl rfl fun b80 hb80 => ?_
  refine dw_norm [_, _, _, _, _, _, _, _] rfl ?_
  refine dw_lastH (i := 34) rfl (by decide +kernel) (by decide +kernel) rfl rfl ?_
  refine op_buildSlice (zc := [_]) (vs := [(0, .int .i64 _)]) (cs := [_]) rfl rfl rfl rfl rfl rfl rfl fun b81 hb81 => ?_
  refine dw_norm [_, _, _, _, _, _, _, _, _] rfl ?_
  refine dw_lastH (i := 35) rfl (by decide +kernel) (by decide +kernel) rfl rfl ?_
  refine op_buildSlice (zc := [_]) (vs := [(0, .slice _ _ _), (1, .slice _ _ _)]) (cs := [_, _]) rfl rfl rfl rfl rfl rfl rfl fun b82 hb82 => ?_
  refine dw_norm [_, _, _, _, _, _, _, _, _, _] rfl ?_
  refine dw_pub 7 rfl ?_
  intro g3 F3 q3
  refine dw_norm [_, _, _, _, _, _, _, _, _, _] rfl ?_
  refine dw_pub 8 rfl ?_
  intro g4 F4 q4
  refine dw_norm [_, _, _, _, _, _, _, _, _, _] rfl ?_
  refine dw_pub 9 rfl ?_
  intro g5 F5 q5
  refine dw_norm [_, _, _, _, _, _, _, _, _, _] rfl ?_
  have RL : Row g5 1 id (some ⟨b82, 0, none⟩) [[.slice (some ⟨b80, 0, none⟩) 3 3], [.slice (some ⟨b81, 0, none⟩) 1 1]] := row_of_block (enc := id) (m := 1) (l := [[.slice (some ⟨b80, 0, none⟩) 3 3], [.slice (some ⟨b81, 0, none⟩) 1 1]]) (fun x hx => by simp at hx; rcases hx with rfl | rfl <;> rfl) q5
  have EL : Els g5 TL [[0, 1, 2], [1]] [[.slice (some ⟨b80, 0, none⟩) 3 3], [.slice (some ⟨b81, 0, none⟩) 1 1]] := by
    refine ⟨rfl, fun i x c h1 h2 => ?_⟩
    match i, h1, h2 with
    | 0, h1, h2 => cases h1; cases h2; exact ⟨_, rfl, some ⟨b80, 0, none⟩, 3, rfl, (row_of_block (enc := intC) (m := 1) (l := [0, 1, 2]) (fun _ _ => rfl) q3).ext (Ext.trans F4 F5)⟩
    | 1, h1, h2 => cases h1; cases h2; exact ⟨_, rfl, some ⟨b81, 0, none⟩, 1, rfl, (row_of_block (enc := intC) (m := 1) (l := [1]) (fun _ _ => rfl) q4).ext F5⟩
    | i + 2, h1, h2 => simp at h1
  refine dw_lastH (i := 36) rfl (by decide +kernel) (by decide +kernel) rfl rfl ?_
  refine op_fn (caps := []) (vs := [.slice _ _ _, .slice _ _ _]) rfl rfl rfl (sameLists_ok [[0, 1, 2], [1]] [[0, 1, 2], [1]] _ _ _ _ cs11 _ g5 (R11.ext (Ext.trans (Ext.trans (Ext.trans (Ext.trans (Ext.trans (Ext.trans (Ext.trans (Ext.trans (Ext.trans (Ext.trans (Ext.trans (Ext.trans E12 E13) E14) E15) E16) E17) E18) E19) F1) F2) F3) F4) F5)) (L11.ext TL.mono (Ext.trans (Ext.trans (Ext.trans (Ext.trans (Ext.trans (Ext.trans (Ext.trans (Ext.trans (Ext.trans (Ext.trans (Ext.trans (Ext.trans E12 E13) E14) E15) E16) E17) E18) E19) F1) F2) F3) F4) F5)) RL EL (by decide) (by decide)) ?_
  rintro _ g6 F6 rfl
  refine dw_pure (i := 37) rfl (by decide +kernel) (pv_pickT rfl rfl (v := .bool _) rfl) ?_
  refine dw_pure (i := 38) rfl (by decide +kernel) (pv_move (v := .bool _) rfl) ?_
  refine dw_pureG (i := 39) rfl (by decide +kernel) rfl rfl (pv_move (v := .slice _ _ _) rfl) ?_
  refine dw_lastH (i := 40) rfl (by decide +kernel) (by decide +kernel) rfl rfl ?_
  refine op_buildSlice (zc := [_]) (vs := [(0, .int .i64 _), (1, .int .i64 _)]) (cs := [_, _]) rfl rfl rfl rfl rfl rfl rfl fun b87 hb87 => ?_
  refine dw_norm [_, _, _, _, _, _, _, _, _, _, _] rfl ?_
  refine dw_pub 10 rfl ?_
  intro g7 F7 q7
  refine dw_norm [_, _, _, _, _, _, _, _, _, _, _] rfl ?_
  refine dw_lastH (i := 41) rfl (by decide +kernel) (by decide +kernel) rfl rfl ?_
  refine op_fn (caps := []) (vs := [.slice _ _ _, .slice _ _ _]) rfl rfl rfl (sameInts_ok [1, 9] [1, 9] _ _ _ _ g7 (S15.ext (Ext.trans (Ext.trans (Ext.trans (Ext.trans (Ext.trans (Ext.trans (Ext.trans (Ext.trans (Ext.trans (Ext.trans E16 E17) E18) E19) F1) F2) F3) F4) F5) F6) F7)) (row_of_block (enc := intC) (m := 1) (l := [1, 9]) (fun _ _ => rfl) q7) (by decide)) ?_
  rintro _ g8 F8 rfl
  refine dw_pure (i := 42) rfl (by decide +kernel) (pv_pickT rfl rfl (v := .bool _) rfl) ?_
  refine dw_pure (i := 43) rfl (by decide +kernel) (pv_move (v := .bool _) rfl) ?_
  refine dw_loadG (i := 44) rfl (by decide +kernel) rfl rfl ?_
  refine op_loadPA 5 (vs := [.slice _ _ _, .slice _ _ _]) rfl rfl rfl rfl rfl ?_
  refine dw_effH (i := 45) rfl (by decide +kernel) rfl rfl ?_
  refine op_buildSlice (zc := [_]) (vs := [(0, .int .i64 _)]) (cs := [_]) rfl rfl rfl rfl rfl rfl rfl fun b92 hb92 => ?_
  refine ⟨ext_new hb92 _, ?_⟩
  refine dw_norm [_, _, _, _, _, _, _, _, _, _, _, _] rfl ?_
  refine dw_pub 11 rfl ?_
  intro g9 F9 q9
  refine dw_norm [_, _, _, _, _, _, _, _, _, _, _, _] rfl ?_
  refine dw_effH (i := 46) rfl (by decide +kernel) rfl rfl ?_
  refine op_fn (caps := []) (vs := [.slice _ _ _]) rfl rfl rfl (pressed_ok [1] _ _ g9) ?_
  rintro _ g10 F10 rfl
  refine ⟨ext_wlm F10 _, ?_⟩
  refine dw_lastH (i := 47) rfl (by decide +kernel) (by decide +kernel) rfl rfl ?_
  refine op_fn (caps := []) (vs := [.agg _, .agg _]) rfl rfl rfl (sameHands_ok ⟨[1], []⟩ ⟨[1], []⟩ _ _ _ _ _ _ _ _ g10 (RH.ext (Ext.trans (Ext.trans (Ext.trans (Ext.trans (Ext.trans (Ext.trans (Ext.trans (Ext.trans (Ext.trans F1 F2) F3) F4) F5) F6) F7) F8) F9) F10)) ⟨(row_of_block (enc := intC) (m := 1) (l := [1]) (fun _ _ => rfl) q9).ext F10, row_nil _ _⟩ (by decide) (by decide)) ?_
  rintro _ g11 F11 rfl
  refine dw_pure (i := 48) rfl (by decide +kernel) (pv_pickT rfl rfl (v := .bool _) rfl) ?_
  refine dw_pure (i := 49) rfl (by decide +kernel) (pv_assign (v := .bool _) rfl) ?_
  refine dw_end rfl ?_
  refine xp_ret ?_
  refine res_list (vs := [_]) Tryz.results6 ⟨resV_tmp rfl rfl, trivial⟩ fun V => ?_
  exact ⟨(Ext.trans (Ext.trans (Ext.trans (Ext.trans (Ext.trans (Ext.trans (Ext.trans (Ext.trans (Ext.trans (Ext.trans (Ext.trans (Ext.trans (Ext.trans (Ext.trans (Ext.trans (Ext.trans (Ext.trans (Ext.trans (Ext.trans (Ext.trans (Ext.trans (Ext.trans (Ext.trans (Ext.trans (Ext.trans (Ext.trans (Ext.trans (Ext.trans (Ext.trans (Ext.trans E1 E2) E3) E4) E5) E6) E7) E8) E9) E10) E11) E12) E13) E14) E15) E16) E17) E18) E19) F1) F2) F3) F4) F5) F6) F7) F8) F9) F10) F11) (ext_wl V)), rfl⟩
end
end Go.Proofs.YtmpahfdiebhdbaaGreatDoor
/- Plain: other numbers of rods and levers, another order of pins. Conditions: none. -/
namespace Go.Rd
open Go Go.HL Go.Wx
variable [Lvl]
/-- Rods renamed by s. -/
def renL (s : Int → Int) (l : LinkP) : LinkP := ⟨s l.frm, s l.to, l.reg, l.lag⟩
structure RenR (s : Int → Int) (m m' : MachP) : Prop where
  rods : m'.rods = m.rods
  bd : ∀ r, 0 ≤ r → r < m.rods → 0 ≤ s r ∧ s r < m.rods
  btn : m'.buttons = m.buttons.map s
  links : m'.links = m.links.map (renL s)
/-- Renamed, and back. -/
structure Inv (s t : Int → Int) (n : Int) : Prop where
  sb : ∀ r, 0 ≤ r → r < n → 0 ≤ s r ∧ s r < n
  tb : ∀ r, 0 ≤ r → r < n → 0 ≤ t r ∧ t r < n
  ts : ∀ r, 0 ≤ r → r < n → t (s r) = r
  st : ∀ r, 0 ≤ r → r < n → s (t r) = r
end Go.Rd
/- Plain: sums in any order; rods that nothing turns. Conditions: none. -/
namespace Go.Rd
open Go Go.HL Go.Wx
variable [Lvl]
end Go.Rd
/- Plain: buttons that are pressed down less deep. Conditions: none. -/
namespace Go.Rd
open Go Go.HL Go.Wx
variable [Lvl]
end Go.Rd
/- Walks: machines and hands that are made of numbers, copies. Conditions: as each theorem states. -/
namespace Go.Proofs.YtmpahfdiebhdbaaGreatDoor
open Go Go.HL Go.Proofs Go.Wx Go.Rd
section
variable [Lvl]
set_option maxRecDepth 100000
theorem tmod_gt (x : Int) {n : Int} (hn : 0 < n) : -n < x.tmod n := by
  by_cases h : 0 ≤ x
  · have := Int.tmod_nonneg n h; omega
  · obtain ⟨y, rfl⟩ : ∃ y, x = -y := ⟨-x, by omega⟩
    rw [Int.neg_tmod]
    have := Int.tmod_lt_of_pos y hn
    omega
def turnI (x n : Int) : Int := if n < 2 then 0 else (x.tmod n + n).tmod n
theorem turnI_bd (x n : Int) : 0 ≤ turnI x n ∧ (1 ≤ n → turnI x n < n) := by
  unfold turnI
  split
  · omega
  · rename_i h
    have h1 : -n < x.tmod n := tmod_gt x (by omega)
    have h2 : 0 ≤ x.tmod n + n := by omega
    exact ⟨Int.tmod_nonneg n h2, fun _ => Int.tmod_lt_of_pos _ (by omega)⟩
theorem turnI_ne {f d n : Int} (hn : 2 ≤ n) (h0 : 0 ≤ f ∧ f < n) (hd : 1 ≤ d ∧ d < n) : turnI (f + d) n ≠ f := by
  unfold turnI
  rw [if_neg (by omega)]
  rw [Int.tmod_eq_emod_of_nonneg (by omega : 0 ≤ f + d), Int.tmod_eq_emod_of_nonneg (by have := Int.emod_nonneg (f + d) (by omega : n ≠ 0); omega)]
  rw [Int.add_emod_right, Int.emod_emod]
  intro e
  by_cases h : f + d < n
  · rw [Int.emod_eq_of_lt (by omega) h] at e; omega
  · have : (f + d) % n = f + d - n := by
      rw [← Int.sub_emod_right (f + d) n, Int.emod_eq_of_lt (by omega) (by omega)]
    omega
theorem Turn_ok (x n : Int) (hn : n ≤ 2 ^ 40) (h : AH) : FnT Tryz.prog 28 #[.int .i64 x, .int .i64 n] h (fun v _ => v = .int .i64 (turnI x n)) := by
  refine call_body Tryz.func28 rfl Tryz.ntmps28 rfl ?_
  refine xp_seq ?_
  refine xp_region rfl ?_
  refine op_pure (pv_assign (v := .int .i64 _) rfl) ?_
  refine xp_seq ?_
  refine xp_seq ?_
  refine xp_region rfl ?_
  refine op_pure (pv_move (v := .int .i64 _) rfl) ?_
  refine op_pure (pv_of (v := .bool _) rfl) ?_
  refine xp_cond rfl (fun ht => ?_) (fun ht => ?_)
  · skip
    have ht' : n < 2 := of_decide_eq_true ht
    refine xp_seq ?_
    refine xp_region rfl ?_
    refine op_pure (pv_assign (v := .int .i64 _) rfl) ?_
    refine xp_ret ?_
    refine res_list (vs := [_]) Tryz.results28 ⟨resV_tmp rfl rfl, trivial⟩ fun V => ?_
    exact ⟨(ext_wl V), intE (by rw [turnI, if_pos ht'])⟩
  · skip
    have ht' : ¬ n < 2 := of_decide_eq_false ht
    have h1 : -n < x.tmod n := tmod_gt x (by omega)
    have h2 : x.tmod n < n := Int.tmod_lt_of_pos _ (by omega)
    refine xp_skip ?_
    refine xp_seq ?_
    refine xp_region rfl ?_
    refine op_pure (pv_move (v := .int .i64 _) rfl) ?_
    refine op_pure (pv_move (v := .int .i64 _) rfl) ?_
    refine op_pure (pv_remT rfl rfl (by omega)) ?_
    refine op_pure (pv_move (v := .int .i64 _) rfl) ?_
    refine op_pure (pv_arith rfl (by omega)) ?_
    refine op_pure (pv_move (v := .int .i64 _) rfl) ?_
    refine op_pure (pv_remT rfl rfl (by omega)) ?_
    refine op_pure (pv_assign (v := .int .i64 _) rfl) ?_
    refine xp_ret ?_
    refine res_list (vs := [_]) Tryz.results28 ⟨resV_tmp rfl rfl, trivial⟩ fun V => ?_
    exact ⟨(ext_wl V), intE (by rw [turnI, if_neg ht'])⟩
/-- A machine that is made of numbers. -/
structure Made (size pins links : Int) (m : MachP) : Prop where
  ok : MOK m
  rs : m.rods ≤ size
  ls : m.levers ≤ size
  bl : m.buttons.length ≤ 3
  pl : (m.pins.length : Int) ≤ pins
  ll : (m.links.length : Int) ≤ links
theorem mem_one {α : Type} {P : α → Prop} {l : List α} {z : α} (h : ∀ x ∈ l, P x) (hz : P z) : ∀ x ∈ l ++ [z], P x := fun x hx => by
  rcases List.mem_append.1 hx with hx | hx
  · exact h x hx
  · simp at hx; subst hx; exact hz
/-- A machine's pins and links have room. -/
def CapM (v : Value) : Prop := ∀ AB AQ AL AW cB cQ cL cW m, v = machV AB AQ AL AW cB cQ cL cW m → m.pins.length ≤ cQ ∧ m.links.length ≤ cL
theorem capM_of {z1 z2 z3 z4 z5 zB zW : Value} {A A' : Option Addr} {n n' c c' : Nat} (h : n ≤ c) (h' : n' ≤ c') : CapM (.agg #[z1, z2, z3, z4, z5, zB, .slice A n c, .slice A' n' c', zW]) := by
  intro AB AQ AL AW cB cQ cL cW m e
  simp only [machV, Value.agg.injEq, Array.mk.injEq, List.cons.injEq, Value.slice.injEq] at e
  obtain ⟨_, _, _, _, _, _, ⟨_, e1, e2⟩, ⟨_, e3, e4⟩, _⟩ := e
  omega
set_option maxHeartbeats 8000000 in
theorem MachineOf_okC (b x : Nat) (size pins links : Int) (hs : 1 ≤ size ∧ size ≤ 6) (hp : 0 ≤ pins ∧ pins ≤ 8) (hl : 0 ≤ links ∧ links ≤ 4) (h : AH) :
    FnM Tryz.prog (.func (.func 7) #[] ([] : List Value).toArray) [.pointer (some ⟨b, 0, none⟩), .int .i64 size, .int .i64 pins, .int .i64 links] h [some (b, .cells #[.int .u64 (x : Int)] 70 (0, 0))]
    (fun v h' M' => ∃ (x' : Nat) (m : MachP), M' = [some (b, .cells #[.int .u64 (x' : Int)] 70 (0, 0))] ∧ MachV h' m v ∧ Made size pins links m ∧ CapM v) := by
  refine fnM_body rfl rfl Tryz.func7 rfl Tryz.ntmps7 rfl ?_
  refine xp_seq ?_
  refine xp_region rfl ?_
  refine op_alloc (cs := [_, _, _, _, _, _, _, _, _]) rfl rfl fun b8 hb8 => ?_
  refine wp_norm [_, _] rfl ?_
  refine xp_seq ?_
  refine xp_region rfl ?_
  refine op_pure (pv_move (v := .pointer (some ⟨b, 0, none⟩)) rfl) ?_
  refine op_pure (pv_move (v := .int .i64 _) rfl) ?_
  refine op_pure (pv_min rfl rfl) ?_
  refine op_fnMM [] [_] [_] (vs := [.pointer _, .int .i64 _, .int .i64 _]) rfl rfl rfl ((Within_ok b x 1 (min size 6) (by omega) (by omega) (by omega) h)) ?_
  rintro _ h1 _ E1 ⟨x1, r, rfl, rfl, r1, r2⟩
  refine wp_norm [_, _] rfl ?_
  refine op_pure (pv_move (v := .pointer (some ⟨b, 0, none⟩)) rfl) ?_
  refine op_pure (pv_move (v := .int .i64 _) rfl) ?_
  refine op_pure (pv_min rfl rfl) ?_
  refine op_fnMM [] [_] [_] (vs := [.pointer _, .int .i64 _, .int .i64 _]) rfl rfl rfl ((Within_ok b x1 1 (min size 6) (by omega) (by omega) (by omega) h1)) ?_
  rintro _ h2 _ E2 ⟨x2, v, rfl, rfl, v1, v2⟩
  refine wp_norm [_, _] rfl ?_
  refine op_pure (pv_move (v := .pointer (some ⟨b, 0, none⟩)) rfl) ?_
  refine op_fnMM [] [_] [_] (vs := [.pointer _, .int .i64 _]) rfl rfl rfl ((Upto_ok b x2 2 (by omega) h2)) ?_
  rintro _ h3 _ E3 ⟨x3, g, rfl, rfl, g1, g2⟩
  refine wp_norm [_, _] rfl ?_
  refine op_pure (pv_move (v := .pointer (some ⟨b, 0, none⟩)) rfl) ?_
  refine op_fnMM [] [_] [_] (vs := [.pointer _, .int .i64 _, .int .i64 _]) rfl rfl rfl ((Within_ok b x3 2 12 (by omega) (by omega) (by omega) h3)) ?_
  rintro _ h4 _ E4 ⟨x4, t, rfl, rfl, t1, t2⟩
  refine wp_norm [_, _] rfl ?_
  refine op_pure (pv_build (zc := [_, _, _, _, _, _, _, _, _]) (vs := [(0, .int .i64 _), (1, .int .i64 _), (2, .int .i64 _), (3, .int .i64 _)]) (cs := [_, _, _, _, _, _, _, _, _]) rfl rfl rfl rfl rfl rfl) ?_
  refine op_alloc (cs := [_, _, _, _, _, _, _, _, _]) rfl rfl fun b9 hb9 => ?_
  refine wp_norm [_, _, _] rfl ?_
  refine op_storeP 2 (v := .agg #[.int .i64 _, .int .i64 _, .int .i64 _, .int .i64 _, .int .i64 _, .slice _ _ _, .slice _ _ _, .slice _ _ _, .slice _ _ _]) (vs := [_, _, _, _, _, _, _, _, _]) (c' := [_, _, _, _, _, _, _, _, _]) rfl rfl rfl rfl rfl rfl rfl rfl rfl ?_
  refine wp_norm [_, _, _] rfl ?_
  refine xp_seq ?_
  refine xp_region rfl ?_
  refine op_pure (pv_move (v := .pointer (some ⟨b, 0, none⟩)) rfl) ?_
  refine op_pure (pv_fieldAddr rfl rfl rfl rfl 3 rfl) ?_
  refine op_loadP 2 (v := .int .i64 _) rfl rfl rfl rfl ?_
  refine op_pure (pv_quoT (c := t / 3) rfl rfl (by omega) (Int.tdiv_eq_ediv_of_nonneg (by omega)) (by omega)) ?_
  refine op_pure (pv_max rfl rfl) ?_
  refine op_fnMM [] [_] [_, _] (vs := [.pointer _, .int .i64 _, .int .i64 _]) rfl rfl rfl ((Within_ok b x4 1 (max 1 (t / 3)) (by omega) (by omega) (by omega) h4)) ?_
  rintro _ h5 _ E5 ⟨x5, o, rfl, rfl, o1, o2⟩
  refine wp_norm [_, _, _] rfl ?_
  refine op_pure (pv_fieldAddr rfl rfl rfl rfl 4 rfl) ?_
  refine op_storeP 2 (v := .int .i64 _) (vs := [_]) (c' := [_, _, _, _, _, _, _, _, _]) rfl rfl rfl rfl rfl rfl rfl rfl rfl ?_
  refine wp_norm [_, _, _] rfl ?_
  refine goes_more ?_
  refine goes_norm [_, _, _, _] rfl ?_
  refine goes_more ?_
  refine goes_norm [_, _, _, _, _] rfl ?_
  refine goes_more ?_
  refine goes_norm [_, _, _, _, _, _] rfl ?_
  refine goes_more ?_
  refine goes_norm [_, _, _, _, _, _, _] rfl ?_
  refine xp_seq ?_
  refine xp_seq ?_
  refine xp_region rfl ?_
  refine op_pure (pv_move (v := .pointer (some ⟨b, 0, none⟩)) rfl) ?_
  refine op_fnMM [] [_] [_, _, _, _, _, _] (vs := [.pointer _, .int .i64 _]) rfl rfl rfl ((Upto_ok b x5 3 (by omega) h5)) ?_
  rintro _ h6 _ E6 ⟨x6, i0, rfl, rfl, i01, i02⟩
  refine wp_norm [_, _, _, _, _, _, _] rfl ?_
  refine op_pure (pv_assign (v := .int .i64 _) rfl) ?_
  refine xp_block ?_
  refine xp_loopL [10, 37, 38, 39, 40, 41, 42, 43, 44, 45, 46, 47, 48, 49, 50] 7 (α := Int × Nat × List Int × Acc) (fun ⟨i, y, bs, a⟩ => [(10, .int .i64 i)]) (fun ⟨i, y, bs, a⟩ L => ((L.set 0 (some (b, .cells #[.int .u64 (y : Int)] 70 (0, 0)))).set 2 (some (b9, .cells #[.int .i64 r, .int .i64 v, .int .i64 g, .int .i64 t, .int .i64 o, .slice a.A a.n a.c, .slice none 0 0, .slice none 0 0, .slice none 0 0] 26 (0, 0)))).set 3 (a.p)) (fun ⟨i, y, bs, a⟩ h_i => (0 ≤ i ∧ i + bs.length ≤ 3) ∧ (∀ z ∈ bs, 0 ≤ z ∧ z < r) ∧ AccR 3 1 (bs.flatMap intC) a) (fun ⟨i, y, bs, a⟩ => i.toNat) ((i0, x6, [], acc0)) ⟨rfl, trivial⟩ (rfl) (⟨⟨by omega, by simp; omega⟩, fun _ hz => absurd hz List.not_mem_nil, accR0⟩) ?_
  rintro ⟨i, y, bs, a⟩ T1 h_i E_i J_i
  refine goes_norm [_, _, _, _, _, _, _] rfl ?_
  obtain ⟨⟨K1, K2⟩, K3, KA⟩ := J_i
  refine xp_seq ?_
  refine xp_seq ?_
  refine xp_region rfl ?_
  refine op_pure (pv_move (v := .int .i64 _) rfl) ?_
  refine op_pure (pv_of (v := .bool _) rfl) ?_
  refine xp_cond rfl (fun ht => ?_) (fun ht => ?_)
  · skip
    have hi : 0 < i := of_decide_eq_true ht
    refine xp_skip ?_
    refine xp_seq ?_
    refine xp_block ?_
    refine xp_dw [true, false, false, false, false, false, false] rfl rfl rfl ?_
    refine dw_pure (i := 0) rfl (by decide +kernel) (pv_fieldAddr rfl rfl rfl rfl 5 rfl) ?_
    refine dw_load (i := 1) rfl (by decide +kernel) ?_
    refine op_loadP 2 (v := .slice _ _ _) rfl rfl rfl rfl ?_
    refine dw_pure (i := 2) rfl (by decide +kernel) (pv_move (v := .pointer (some ⟨b, 0, none⟩)) rfl) ?_
    refine dw_pure (i := 3) rfl (by decide +kernel) (pv_fieldAddr rfl rfl rfl rfl 0 rfl) ?_
    refine dw_load (i := 4) rfl (by decide +kernel) ?_
    refine op_loadP 2 (v := .int .i64 _) rfl rfl rfl rfl ?_
    refine dw_pure (i := 5) rfl (by decide +kernel) (pv_arith rfl (by omega)) ?_
    refine dw_eff (i := 6) rfl (by decide +kernel) ?_
    refine op_fnMM [] [_] [_, _, _, _, _, _] (vs := [.pointer _, .int .i64 _]) rfl rfl rfl ((Upto_ok b y (r - 1) (by omega) h_i)) ?_
    rintro _ h7 _ E7 ⟨y2, z, rfl, rfl, z1, z2⟩
    refine ⟨ext_wlm E7 _, ?_⟩
    refine dw_norm [_, _, _, _, _, _, _] rfl ?_
    refine dw_eff (i := 7) rfl (by decide +kernel) ?_
    refine op_buildSlice (zc := [_]) (vs := [(0, .int .i64 _)]) (cs := [_]) rfl rfl rfl rfl rfl rfl rfl fun b48 hb48 => ?_
    refine ⟨ext_newM hb48 _, ?_⟩
    refine dw_norm [_, _, _, _, _, _, _, _] rfl ?_
    refine dw_last (i := 8) rfl (by decide +kernel) (by decide +kernel) ?_
    refine op_appendR 3 KA rfl rfl rfl (fun V => rdP V (i := 7) rfl) rfl rfl rfl rfl rfl rfl rfl rfl rfl (by omega) rfl (by rw [flat_len (m := 1) (fun _ _ => rfl)]; simp; omega) fun a2 h2a E2a ha2 => ?_
    refine dw_norm [_, _, _, _, _, _, _, _] rfl ?_
    refine dw_pure (i := 9) rfl (by decide +kernel) (pv_fieldAddr rfl rfl rfl rfl 5 rfl) ?_
    refine dw_last (i := 10) rfl (by decide +kernel) (by decide +kernel) ?_
    refine op_storeP 2 (v := .slice _ _ _) (vs := [_]) (c' := [_, _, _, _, _, _, _, _, _]) rfl rfl rfl rfl rfl rfl rfl rfl rfl ?_
    refine dw_norm [_, _, _, _, _, _, _, _] rfl ?_
    refine dw_end rfl ?_
    refine xp_region rfl ?_
    refine op_pure (pv_move (v := .int .i64 _) rfl) ?_
    refine op_pure (pv_arith rfl (by omega)) ?_
    refine op_pure (pv_assign (v := .int .i64 _) rfl) ?_
    refine ⟨(i - 1, y2, bs ++ [z], a2), ⟨rfl, trivial⟩, rfl, rfl, (Ext.trans (Ext.trans E_i E7) E2a), fun h3 E3 => ⟨⟨by omega, by simp; omega⟩, mem_one K3 ⟨z1, by omega⟩, by rw [List.flatMap_append]; exact ha2⟩, by first | omega | (dsimp only; omega), ?_⟩
    repeat (first | exact off_base _ _ _ | refine off_upd (by decide) ?_ | refine off_updL rfl ?_ | refine off_mix rfl ?_)
  · skip
    have hi0 : i = 0 := by have := of_decide_eq_false ht; omega
    obtain ⟨pB, AB, nB, cB⟩ := a
    obtain rfl : nB = bs.length := by have := AccR.len KA; rw [flat_len (m := 1) (fun _ _ => rfl)] at this; dsimp only at this; omega
    dsimp only at *
    refine goes_pubO 3 rfl ?_
    intro gB GB PB
    refine goes_norm [_, _, _, _, _, _, _] rfl ?_
    have RB : Row gB 1 intC AB bs := ⟨fun _ _ => rfl, AccR.rd KA PB⟩
    refine xp_exit ?_
    refine xp_seq ?_
    refine xp_seq ?_
    refine xp_region rfl ?_
    refine op_pure (pv_move (v := .pointer (some ⟨b, 0, none⟩)) rfl) ?_
    refine op_pure (pv_move (v := .int .i64 _) rfl) ?_
    refine op_fnMM [] [_] [_, _, _, _, _, _] (vs := [.pointer _, .int .i64 _]) rfl rfl rfl ((Upto_ok b y pins (by omega) gB)) ?_
    rintro _ h8 _ E8 ⟨x8, j0, rfl, rfl, j01, j02⟩
    refine wp_norm [_, _, _, _, _, _, _] rfl ?_
    refine op_pure (pv_assign (v := .int .i64 _) rfl) ?_
    refine xp_block ?_
    refine xp_loopL [11, 54, 55, 56, 57, 58, 59, 60, 61, 62, 63, 64, 65, 66, 67, 68, 69, 70, 71, 72, 73, 74, 75, 76, 77, 78] 7 (α := Int × Nat × List PinP × Acc) (fun ⟨j, y, qs, a⟩ => [(11, .int .i64 j)]) (fun ⟨j, y, qs, a⟩ L => ((L.set 0 (some (b, .cells #[.int .u64 (y : Int)] 70 (0, 0)))).set 2 (some (b9, .cells #[.int .i64 r, .int .i64 v, .int .i64 g, .int .i64 t, .int .i64 o, .slice AB bs.length cB, .slice a.A a.n a.c, .slice none 0 0, .slice none 0 0] 26 (0, 0)))).set 4 (a.p)) (fun ⟨j, y, qs, a⟩ h_j => (0 ≤ j ∧ j + qs.length ≤ pins) ∧ (∀ p ∈ qs, (0 ≤ p.rod ∧ p.rod < r) ∧ (0 ≤ p.lever ∧ p.lever < v) ∧ (0 ≤ p.lag ∧ p.lag ≤ t)) ∧ AccR 65 3 (qs.flatMap pinC) a) (fun ⟨j, y, qs, a⟩ => j.toNat) ((j0, x8, [], acc0)) ⟨rfl, trivial⟩ (rfl) (⟨⟨by omega, by simp; omega⟩, fun _ hz => absurd hz List.not_mem_nil, accR0⟩) ?_
    rintro ⟨j, y, qs, a⟩ T3 h_j E_j J_j
    refine goes_norm [_, _, _, _, _, _, _] rfl ?_
    obtain ⟨⟨L1, L2⟩, L3, KA⟩ := J_j
    refine xp_seq ?_
    refine xp_seq ?_
    refine xp_region rfl ?_
    refine op_pure (pv_move (v := .int .i64 _) rfl) ?_
    refine op_pure (pv_of (v := .bool _) rfl) ?_
    refine xp_cond rfl (fun hu => ?_) (fun hu => ?_)
    · skip
      have hj : 0 < j := of_decide_eq_true hu
      refine xp_skip ?_
      refine xp_seq ?_
      refine xp_block ?_
      refine xp_dw [true, false, false, false, false, false, false] rfl rfl rfl ?_
      refine dw_pure (i := 0) rfl (by decide +kernel) (pv_fieldAddr rfl rfl rfl rfl 6 rfl) ?_
      refine dw_load (i := 1) rfl (by decide +kernel) ?_
      refine op_loadP 2 (v := .slice _ _ _) rfl rfl rfl rfl ?_
      refine dw_pure (i := 2) rfl (by decide +kernel) (pv_move (v := .pointer (some ⟨b, 0, none⟩)) rfl) ?_
      refine dw_pure (i := 3) rfl (by decide +kernel) (pv_fieldAddr rfl rfl rfl rfl 0 rfl) ?_
      refine dw_load (i := 4) rfl (by decide +kernel) ?_
      refine op_loadP 2 (v := .int .i64 _) rfl rfl rfl rfl ?_
      refine dw_pure (i := 5) rfl (by decide +kernel) (pv_arith rfl (by omega)) ?_
      refine dw_pure (i := 7) rfl (by decide +kernel) (pv_move (v := .pointer (some ⟨b, 0, none⟩)) rfl) ?_
      refine dw_pure (i := 8) rfl (by decide +kernel) (pv_fieldAddr rfl rfl rfl rfl 1 rfl) ?_
      refine dw_load (i := 9) rfl (by decide +kernel) ?_
      refine op_loadP 2 (v := .int .i64 _) rfl rfl rfl rfl ?_
      refine dw_pure (i := 10) rfl (by decide +kernel) (pv_arith rfl (by omega)) ?_
      refine dw_pure (i := 12) rfl (by decide +kernel) (pv_move (v := .pointer (some ⟨b, 0, none⟩)) rfl) ?_
      refine dw_pure (i := 13) rfl (by decide +kernel) (pv_fieldAddr rfl rfl rfl rfl 3 rfl) ?_
      refine dw_load (i := 14) rfl (by decide +kernel) ?_
      refine op_loadP 2 (v := .int .i64 _) rfl rfl rfl rfl ?_
      refine dw_pure (i := 15) rfl (by decide +kernel) (pv_quoT (c := t / 2) rfl rfl (by omega) (Int.tdiv_eq_ediv_of_nonneg (by omega)) (by omega)) ?_
      refine dw_eff (i := 6) rfl (by decide +kernel) ?_
      refine op_fnMM [] [_] [_, _, _, _, _, _] (vs := [.pointer _, .int .i64 _]) rfl rfl rfl ((Upto_ok b y (r - 1) (by omega) h_j)) ?_
      rintro _ h9 _ E9 ⟨y2, z, rfl, rfl, z1, z2⟩
      refine ⟨ext_wlm E9 _, ?_⟩
      refine dw_norm [_, _, _, _, _, _, _] rfl ?_
      refine dw_eff (i := 11) rfl (by decide +kernel) ?_
      refine op_fnMM [] [_] [_, _, _, _, _, _] (vs := [.pointer _, .int .i64 _]) rfl rfl rfl ((Upto_ok b y2 (v - 1) (by omega) h9)) ?_
      rintro _ h10 _ E10 ⟨y3, w, rfl, rfl, w1, w2⟩
      refine ⟨ext_wlm E10 _, ?_⟩
      refine dw_norm [_, _, _, _, _, _, _] rfl ?_
      refine dw_eff (i := 16) rfl (by decide +kernel) ?_
      refine op_fnMM [] [_] [_, _, _, _, _, _] (vs := [.pointer _, .int .i64 _]) rfl rfl rfl ((Upto_ok b y3 (t / 2) (by omega) h10)) ?_
      rintro _ h11 _ E11 ⟨y4, e, rfl, rfl, e1, e2⟩
      refine ⟨ext_wlm E11 _, ?_⟩
      refine dw_norm [_, _, _, _, _, _, _] rfl ?_
      refine dw_pure (i := 17) rfl (by decide +kernel) (pv_build (zc := [_, _, _]) (vs := [(0, .int .i64 _), (1, .int .i64 _), (2, .int .i64 _)]) (cs := [_, _, _]) rfl rfl rfl rfl rfl rfl) ?_
      refine dw_eff (i := 18) rfl (by decide +kernel) ?_
      refine op_buildSlice (zc := [_, _, _]) (vs := [(0, .agg #[.int .i64 _, .int .i64 _, .int .i64 _])]) (cs := [_, _, _]) rfl rfl rfl rfl rfl rfl rfl fun b76 hb76 => ?_
      refine ⟨ext_newM hb76 _, ?_⟩
      refine dw_norm [_, _, _, _, _, _, _, _] rfl ?_
      refine dw_last (i := 19) rfl (by decide +kernel) (by decide +kernel) ?_
      refine op_appendR 4 KA rfl rfl rfl (fun V => rdP V (i := 7) rfl) rfl rfl rfl rfl rfl rfl rfl rfl rfl (by omega) rfl (by rw [flat_len (m := 3) (fun _ _ => rfl)]; simp; omega) fun a2 h4a E4a ha2 => ?_
      refine dw_norm [_, _, _, _, _, _, _, _] rfl ?_
      refine dw_pure (i := 20) rfl (by decide +kernel) (pv_fieldAddr rfl rfl rfl rfl 6 rfl) ?_
      refine dw_last (i := 21) rfl (by decide +kernel) (by decide +kernel) ?_
      refine op_storeP 2 (v := .slice _ _ _) (vs := [_]) (c' := [_, _, _, _, _, _, _, _, _]) rfl rfl rfl rfl rfl rfl rfl rfl rfl ?_
      refine dw_norm [_, _, _, _, _, _, _, _] rfl ?_
      refine dw_end rfl ?_
      refine xp_region rfl ?_
      refine op_pure (pv_move (v := .int .i64 _) rfl) ?_
      refine op_pure (pv_arith rfl (by omega)) ?_
      refine op_pure (pv_assign (v := .int .i64 _) rfl) ?_
      refine ⟨(j - 1, y4, qs ++ [⟨z, w, e⟩], a2), ⟨rfl, trivial⟩, rfl, rfl, (Ext.trans (Ext.trans (Ext.trans (Ext.trans E_j E9) E10) E11) E4a), fun h3 E3 => ⟨⟨by omega, by simp; omega⟩, mem_one L3 ⟨⟨z1, by show z < r; omega⟩, ⟨w1, by show w < v; omega⟩, ⟨e1, by show e ≤ t; omega⟩⟩, by rw [List.flatMap_append]; exact ha2⟩, by first | omega | (dsimp only; omega), ?_⟩
      repeat (first | exact off_base _ _ _ | refine off_upd (by decide) ?_ | refine off_updL rfl ?_ | refine off_mix rfl ?_)
    · skip
      have hj0 : j = 0 := by have := of_decide_eq_false hu; omega
      obtain ⟨pP, AQ, nP, cQ⟩ := a
      obtain rfl : nP = qs.length := by have := AccR.len KA; rw [flat_len (m := 3) (fun _ _ => rfl)] at this; dsimp only at this; omega
      dsimp only at *
      have hcQ : qs.length ≤ cQ := AccP.cap KA (by omega)
      refine goes_pubO 4 rfl ?_
      intro gP GP PP
      refine goes_norm [_, _, _, _, _, _, _] rfl ?_
      have RP : Row gP 3 pinC AQ qs := ⟨fun _ _ => rfl, AccR.rd KA PP⟩
      refine xp_exit ?_
      refine xp_cutB [12, 13, 79, 80, 81, 82, 83, 84, 85, 86, 87, 88, 89, 90, 91, 92, 93, 94, 95, 96, 97, 98, 99, 100, 101, 102, 103, 104, 105, 106, 107, 108, 109, 110, 111, 112, 113, 114, 115, 116, 117, 118, 119, 120, 121, 122, 123, 124, 125] 7 (α := Nat × List LinkP × Acc) (fun ⟨y, ls, a⟩ => []) (fun ⟨y, ls, a⟩ L => ((L.set 0 (some (b, .cells #[.int .u64 (y : Int)] 70 (0, 0)))).set 2 (some (b9, .cells #[.int .i64 r, .int .i64 v, .int .i64 g, .int .i64 t, .int .i64 o, .slice AB bs.length cB, .slice AQ qs.length cQ, .slice a.A a.n a.c, .slice none 0 0] 26 (0, 0)))).set 5 (a.p)) (fun ⟨y, ls, a⟩ h_y => (ls.length : Int) ≤ links ∧ (∀ p ∈ ls, (0 ≤ p.frm ∧ p.frm < r) ∧ (0 ≤ p.to ∧ p.to < r) ∧ p.frm ≠ p.to ∧ (-1 ≤ p.reg ∧ p.reg < g) ∧ (1 ≤ p.lag ∧ p.lag ≤ t)) ∧ AccR 67 4 (ls.flatMap linkC) a) ?_ ?_
      · skip
        refine xp_seq ?_
        refine xp_region rfl ?_
        refine op_pure (pv_move (v := .pointer (some ⟨b, 0, none⟩)) rfl) ?_
        refine op_pure (pv_move (v := .int .i64 _) rfl) ?_
        refine op_fnMM [] [_] [_, _, _, _, _, _] (vs := [.pointer _, .int .i64 _]) rfl rfl rfl ((Upto_ok b y links (by omega) gP)) ?_
        rintro _ h12 _ E12 ⟨x12, k0, rfl, rfl, k01, k02⟩
        refine wp_norm [_, _, _, _, _, _, _] rfl ?_
        refine op_pure (pv_assign (v := .int .i64 _) rfl) ?_
        refine xp_block ?_
        refine xp_loopL [12, 13, 82, 83, 84, 85, 86, 87, 88, 89, 90, 91, 92, 93, 94, 95, 96, 97, 98, 99, 100, 101, 102, 103, 104, 105, 106, 107, 108, 109, 110, 111, 112, 113, 114, 115, 116, 117, 118, 119, 120, 121, 122, 123, 124, 125] 7 (α := Int × Nat × List LinkP × Acc) (fun ⟨k, y, ls, a⟩ => [(12, .int .i64 k)]) (fun ⟨k, y, ls, a⟩ L => ((L.set 0 (some (b, .cells #[.int .u64 (y : Int)] 70 (0, 0)))).set 2 (some (b9, .cells #[.int .i64 r, .int .i64 v, .int .i64 g, .int .i64 t, .int .i64 o, .slice AB bs.length cB, .slice AQ qs.length cQ, .slice a.A a.n a.c, .slice none 0 0] 26 (0, 0)))).set 5 (a.p)) (fun ⟨k, y, ls, a⟩ h_k => (0 ≤ k ∧ k + ls.length ≤ links) ∧ (∀ p ∈ ls, (0 ≤ p.frm ∧ p.frm < r) ∧ (0 ≤ p.to ∧ p.to < r) ∧ p.frm ≠ p.to ∧ (-1 ≤ p.reg ∧ p.reg < g) ∧ (1 ≤ p.lag ∧ p.lag ≤ t)) ∧ AccR 67 4 (ls.flatMap linkC) a) (fun ⟨k, y, ls, a⟩ => k.toNat) ((k0, x12, [], acc0)) ⟨rfl, trivial⟩ (rfl) (⟨⟨by omega, by simp; omega⟩, fun _ hz => absurd hz List.not_mem_nil, accR0⟩) ?_
        rintro ⟨k, y, ls, a⟩ T6 h_k E_k J_k
        refine goes_norm [_, _, _, _, _, _, _] rfl ?_
        obtain ⟨⟨N1, N2⟩, N3, KA⟩ := J_k
        refine xp_seq ?_
        refine xp_seq ?_
        refine xp_region rfl ?_
        refine op_pure (pv_move (v := .int .i64 _) rfl) ?_
        refine op_pure (pv_of (v := .bool _) rfl) ?_
        refine op_pure (pv_move (v := .bool _) rfl) ?_
        rcases Bool.eq_false_or_eq_true (decide (k > 0)) with hk | hk
        · skip
          have hk0 : k > 0 := of_decide_eq_true hk
          refine guard_yes rfl hk ?_
          refine op_pure (pv_fieldAddr rfl rfl rfl rfl 0 rfl) ?_
          refine guard_yes rfl hk ?_
          refine op_loadP 2 (v := .int .i64 _) rfl rfl rfl rfl ?_
          refine guard_yes rfl hk ?_
          refine op_pure (pv_of (v := .bool _) rfl) ?_
          refine op_pure (pv_pickT rfl hk (v := .bool _) rfl) ?_
          refine xp_cond rfl (fun hr => ?_) (fun hr => ?_)
          · skip
            have hr1 : r > 1 := of_decide_eq_true hr
            refine xp_skip ?_
            refine xp_seq ?_
            refine xp_block ?_
            refine xp_seq ?_
            refine xp_dw [true, false, false, false, false, false, false] rfl rfl rfl ?_
            refine dw_pure (i := 0) rfl (by decide +kernel) (pv_move (v := .pointer (some ⟨b, 0, none⟩)) rfl) ?_
            refine dw_pure (i := 1) rfl (by decide +kernel) (pv_fieldAddr rfl rfl rfl rfl 0 rfl) ?_
            refine dw_load (i := 2) rfl (by decide +kernel) ?_
            refine op_loadP 2 (v := .int .i64 _) rfl rfl rfl rfl ?_
            refine dw_pure (i := 3) rfl (by decide +kernel) (pv_arith rfl (by omega)) ?_
            refine dw_pure (i := 5) rfl (by decide +kernel) (pv_move (v := .pointer (some ⟨b, 0, none⟩)) rfl) ?_
            refine dw_pure (i := 6) rfl (by decide +kernel) (pv_fieldAddr rfl rfl rfl rfl 2 rfl) ?_
            refine dw_load (i := 7) rfl (by decide +kernel) ?_
            refine op_loadP 2 (v := .int .i64 _) rfl rfl rfl rfl ?_
            refine dw_pure (i := 8) rfl (by decide +kernel) (pv_arith rfl (by omega)) ?_
            refine dw_pure (i := 10) rfl (by decide +kernel) (pv_move (v := .pointer (some ⟨b, 0, none⟩)) rfl) ?_
            refine dw_pure (i := 11) rfl (by decide +kernel) (pv_fieldAddr rfl rfl rfl rfl 3 rfl) ?_
            refine dw_load (i := 12) rfl (by decide +kernel) ?_
            refine op_loadP 2 (v := .int .i64 _) rfl rfl rfl rfl ?_
            refine dw_pure (i := 13) rfl (by decide +kernel) (pv_quoT (c := t / 3) rfl rfl (by omega) (Int.tdiv_eq_ediv_of_nonneg (by omega)) (by omega)) ?_
            refine dw_pure (i := 14) rfl (by decide +kernel) (pv_max rfl rfl) ?_
            refine dw_eff (i := 4) rfl (by decide +kernel) ?_
            refine op_fnMM [] [_] [_, _, _, _, _, _] (vs := [.pointer _, .int .i64 _]) rfl rfl rfl ((Upto_ok b y (r - 1) (by omega) h_k)) ?_
            rintro _ h13 _ E13 ⟨y2, z, rfl, rfl, z1, z2⟩
            refine ⟨ext_wlm E13 _, ?_⟩
            refine dw_norm [_, _, _, _, _, _, _] rfl ?_
            refine dw_eff (i := 9) rfl (by decide +kernel) ?_
            refine op_fnMM [] [_] [_, _, _, _, _, _] (vs := [.pointer _, .int .i64 _, .int .i64 _]) rfl rfl rfl ((Within_ok b y2 (-1) (g - 1) (by omega) (by omega) (by omega) h13)) ?_
            rintro _ h14 _ E14 ⟨y3, e, rfl, rfl, e1, e2⟩
            refine ⟨ext_wlm E14 _, ?_⟩
            refine dw_norm [_, _, _, _, _, _, _] rfl ?_
            refine dw_last (i := 15) rfl (by decide +kernel) (by decide +kernel) ?_
            refine op_fnMM [] [_] [_, _, _, _, _, _] (vs := [.pointer _, .int .i64 _, .int .i64 _]) rfl rfl rfl ((Within_ok b y3 1 (max 1 (t / 3)) (by omega) (by omega) (by omega) h14)) ?_
            rintro _ h15 _ E15 ⟨y4, w, rfl, rfl, w1, w2⟩
            refine dw_norm [_, _, _, _, _, _, _] rfl ?_
            refine dw_pure (i := 16) rfl (by decide +kernel) (pv_build (zc := [_, _, _, _]) (vs := [(0, .int .i64 _), (2, .int .i64 _), (3, .int .i64 _)]) (cs := [_, _, _, _]) rfl rfl rfl rfl rfl rfl) ?_
            refine dw_eff (i := 17) rfl (by decide +kernel) ?_
            refine op_alloc (cs := [_, _, _, _]) rfl rfl fun b13 hb13 => ?_
            refine ⟨ext_newM hb13 _, ?_⟩
            refine dw_norm [_, _, _, _, _, _, _, _] rfl ?_
            refine dw_last (i := 18) rfl (by decide +kernel) (by decide +kernel) ?_
            refine op_storeP 7 (v := .agg #[.int .i64 _, .int .i64 _, .int .i64 _, .int .i64 _]) (vs := [_, _, _, _]) (c' := [_, _, _, _]) rfl rfl rfl rfl rfl rfl rfl rfl rfl ?_
            refine dw_norm [_, _, _, _, _, _, _, _] rfl ?_
            refine dw_end rfl ?_
            refine xp_seq ?_
            refine xp_dw [true, false, false, false, false, false, false, false] rfl rfl rfl ?_
            refine dw_pure (i := 0) rfl (by decide +kernel) (pv_fieldAddr rfl rfl rfl rfl 0 rfl) ?_
            refine dw_load (i := 1) rfl (by decide +kernel) ?_
            refine op_loadP 7 (v := .int .i64 _) rfl rfl rfl rfl ?_
            refine dw_pure (i := 2) rfl (by decide +kernel) (pv_move (v := .pointer (some ⟨b, 0, none⟩)) rfl) ?_
            refine dw_pure (i := 3) rfl (by decide +kernel) (pv_fieldAddr rfl rfl rfl rfl 0 rfl) ?_
            refine dw_load (i := 4) rfl (by decide +kernel) ?_
            refine op_loadP 2 (v := .int .i64 _) rfl rfl rfl rfl ?_
            refine dw_pure (i := 5) rfl (by decide +kernel) (pv_arith rfl (by omega)) ?_
            refine dw_pure (i := 8) rfl (by decide +kernel) (pv_fieldAddr rfl rfl rfl rfl 0 rfl) ?_
            refine dw_load (i := 9) rfl (by decide +kernel) ?_
            refine op_loadP 2 (v := .int .i64 _) rfl rfl rfl rfl ?_
            refine dw_eff (i := 6) rfl (by decide +kernel) ?_
            refine op_fnMM [] [_] [_, _, _, _, _, _, _] (vs := [.pointer _, .int .i64 _, .int .i64 _]) rfl rfl rfl ((Within_ok b y4 1 (r - 1) (by omega) (by omega) (by omega) h15)) ?_
            rintro _ h16 _ E16 ⟨y5, d, rfl, rfl, d1, d2⟩
            refine ⟨ext_wlm E16 _, ?_⟩
            refine dw_norm [_, _, _, _, _, _, _, _] rfl ?_
            refine dw_pure (i := 7) rfl (by decide +kernel) (pv_arith rfl (by omega)) ?_
            refine dw_last (i := 10) rfl (by decide +kernel) (by decide +kernel) ?_
            refine op_fn (caps := []) (vs := [.int .i64 _, .int .i64 _]) rfl rfl rfl (Turn_ok (z + d) r (by omega) h16) ?_
            rintro _ h17 E17 rfl
            have tb := turnI_bd (z + d) r
            have tn := turnI_ne (f := z) (d := d) (n := r) (by omega) ⟨z1, by omega⟩ ⟨d1, by omega⟩
            refine dw_pure (i := 11) rfl (by decide +kernel) (pv_fieldAddr rfl rfl rfl rfl 1 rfl) ?_
            refine dw_last (i := 12) rfl (by decide +kernel) (by decide +kernel) ?_
            refine op_storeP 7 (v := .int .i64 _) (vs := [_]) (c' := [_, _, _, _]) rfl rfl rfl rfl rfl rfl rfl rfl rfl ?_
            refine dw_norm [_, _, _, _, _, _, _, _] rfl ?_
            refine dw_end rfl ?_
            refine xp_region rfl ?_
            refine op_pure (pv_fieldAddr rfl rfl rfl rfl 7 rfl) ?_
            refine op_loadP 2 (v := .slice _ _ _) rfl rfl rfl rfl ?_
            refine op_loadPA 7 (vs := [.int .i64 _, .int .i64 _, .int .i64 _, .int .i64 _]) rfl rfl rfl rfl rfl ?_
            refine op_buildSlice (zc := [_, _, _, _]) (vs := [(0, .agg #[.int .i64 _, .int .i64 _, .int .i64 _, .int .i64 _])]) (cs := [_, _, _, _]) rfl rfl rfl rfl rfl rfl rfl fun b123 hb123 => ?_
            refine wp_norm [_, _, _, _, _, _, _, _, _] rfl ?_
            refine op_appendR 5 KA rfl rfl rfl (fun V => rdP V (i := 8) rfl) rfl rfl rfl rfl rfl rfl rfl rfl rfl (by omega) rfl (by rw [flat_len (m := 4) (fun _ _ => rfl)]; simp; omega) fun a2 h7a E7a ha2 => ?_
            refine wp_norm [_, _, _, _, _, _, _, _, _] rfl ?_
            refine op_pure (pv_fieldAddr rfl rfl rfl rfl 7 rfl) ?_
            refine op_storeP 2 (v := .slice _ _ _) (vs := [_]) (c' := [_, _, _, _, _, _, _, _, _]) rfl rfl rfl rfl rfl rfl rfl rfl rfl ?_
            refine wp_norm [_, _, _, _, _, _, _, _, _] rfl ?_
            refine xp_region rfl ?_
            refine op_pure (pv_move (v := .int .i64 _) rfl) ?_
            refine op_pure (pv_arith rfl (by omega)) ?_
            refine op_pure (pv_assign (v := .int .i64 _) rfl) ?_
            refine ⟨(k - 1, y5, ls ++ [⟨z, turnI (z + d) r, e, w⟩], a2), ⟨rfl, trivial⟩, rfl, rfl, (Ext.trans (Ext.trans (Ext.trans (Ext.trans (Ext.trans (Ext.trans E_k E13) E14) E15) E16) E17) E7a), fun h3 E3 => ⟨⟨by omega, by simp; omega⟩, mem_one N3 ⟨⟨z1, by show z < r; omega⟩, ⟨tb.1, tb.2 (by omega)⟩, fun he => tn he.symm, ⟨e1, by show e < g; omega⟩, ⟨w1, by show w ≤ t; omega⟩⟩, by rw [List.flatMap_append]; exact ha2⟩, by first | omega | (dsimp only; omega), ?_⟩
            repeat (first | exact off_base _ _ _ | refine off_upd (by decide) ?_ | refine off_updL rfl ?_ | refine off_mix rfl ?_)
          · skip
            refine xp_exit ?_
            refine ⟨(y, ls, a), trivial, rfl, rfl, (Ext.trans E12 E_k), fun h3 E3 => ⟨by omega, N3, KA⟩, ?_⟩
            repeat (first | exact off_refl _ _ | exact off_base _ _ _ | refine off_upd (by decide) ?_ | refine off_updL rfl ?_ | refine off_mix rfl ?_)
        · skip
          have hk0 : k = 0 := by have := of_decide_eq_false hk; omega
          refine guard_no rfl hk ?_
          refine guard_no rfl hk ?_
          refine guard_no rfl hk ?_
          refine op_pure (pv_pickF rfl hk (v := .bool _) rfl) ?_
          refine xp_condF rfl (rfl) ?_
          refine xp_exit ?_
          refine ⟨(y, ls, a), trivial, rfl, rfl, (Ext.trans E12 E_k), fun h3 E3 => ⟨by omega, N3, KA⟩, ?_⟩
          repeat (first | exact off_refl _ _ | exact off_base _ _ _ | refine off_upd (by decide) ?_ | refine off_updL rfl ?_ | refine off_mix rfl ?_)
      · rintro ⟨y, ls, a⟩ T5 h_y E_y J_y
        refine goes_norm [_, _, _, _, _, _, _] rfl ?_
        obtain ⟨N1, N3, KA⟩ := J_y
        obtain ⟨pL, AL, nL, cL⟩ := a
        obtain rfl : nL = ls.length := by have := AccR.len KA; rw [flat_len (m := 4) (fun _ _ => rfl)] at this; dsimp only at this; omega
        dsimp only at *
        have hcL : ls.length ≤ cL := AccP.cap KA (by omega)
        refine goes_pubO 5 rfl ?_
        intro gL GL PL
        refine goes_norm [_, _, _, _, _, _, _] rfl ?_
        have RL : Row gL 4 linkC AL ls := ⟨fun _ _ => rfl, AccR.rd KA PL⟩
        refine xp_seq ?_
        refine xp_seq ?_
        refine xp_region rfl ?_
        refine op_pure (pv_assign (v := .int .i64 _) rfl) ?_
        refine xp_block ?_
        refine xp_loopL [14, 126, 127, 128, 129, 130, 131, 132, 133, 134, 135, 136, 137, 138] 7 (α := Nat × Nat × List Int × Acc) (fun ⟨k, y, ws, a⟩ => [(14, .int .i64 k)]) (fun ⟨k, y, ws, a⟩ L => ((L.set 0 (some (b, .cells #[.int .u64 (y : Int)] 70 (0, 0)))).set 2 (some (b9, .cells #[.int .i64 r, .int .i64 v, .int .i64 g, .int .i64 t, .int .i64 o, .slice AB bs.length cB, .slice AQ qs.length cQ, .slice AL ls.length cL, .slice a.A a.n a.c] 26 (0, 0)))).set 6 (a.p)) (fun ⟨k, y, ws, a⟩ h_k => (k ≤ v.toNat ∧ ws.length = k) ∧ (∀ z ∈ ws, 0 ≤ z ∧ z ≤ 50) ∧ AccR 3 1 (ws.flatMap intC) a) (fun ⟨k, y, ws, a⟩ => v.toNat - k) ((0, y, [], acc0)) ⟨rfl, trivial⟩ (rfl) (⟨⟨by omega, rfl⟩, fun _ hz => absurd hz List.not_mem_nil, accR0⟩) ?_
        rintro ⟨k, y, ws, a⟩ T8 h_k E_k J_k
        refine goes_norm [_, _, _, _, _, _, _] rfl ?_
        obtain ⟨⟨M1, M2⟩, M3, KA⟩ := J_k
        refine xp_seq ?_
        refine xp_seq ?_
        refine xp_region rfl ?_
        refine op_pure (pv_move (v := .int .i64 _) rfl) ?_
        refine op_pure (pv_fieldAddr rfl rfl rfl rfl 1 rfl) ?_
        refine op_loadP 2 (v := .int .i64 _) rfl rfl rfl rfl ?_
        refine op_pure (pv_of (v := .bool _) rfl) ?_
        refine xp_cond rfl (fun hw => ?_) (fun hw => ?_)
        · skip
          have hkv : (k : Int) < v := of_decide_eq_true hw
          refine xp_skip ?_
          refine xp_seq ?_
          refine xp_block ?_
          refine xp_dw [true, false, false, false, false, false, false] rfl rfl rfl ?_
          refine dw_pure (i := 0) rfl (by decide +kernel) (pv_fieldAddr rfl rfl rfl rfl 8 rfl) ?_
          refine dw_load (i := 1) rfl (by decide +kernel) ?_
          refine op_loadP 2 (v := .slice _ _ _) rfl rfl rfl rfl ?_
          refine dw_pure (i := 2) rfl (by decide +kernel) (pv_move (v := .pointer (some ⟨b, 0, none⟩)) rfl) ?_
          refine dw_eff (i := 3) rfl (by decide +kernel) ?_
          refine op_fnMM [] [_] [_, _, _, _, _, _] (vs := [.pointer _, .int .i64 _]) rfl rfl rfl ((Upto_ok b y 9 (by omega) h_k)) ?_
          rintro _ h18 _ E18 ⟨y2, z, rfl, rfl, z1, z2⟩
          refine ⟨ext_wlm E18 _, ?_⟩
          refine dw_norm [_, _, _, _, _, _, _] rfl ?_
          refine dw_eff (i := 4) rfl (by decide +kernel) ?_
          refine op_buildSlice (zc := [_]) (vs := [(0, .int .i64 _)]) (cs := [_]) rfl rfl rfl rfl rfl rfl rfl fun b136 hb136 => ?_
          refine ⟨ext_newM hb136 _, ?_⟩
          refine dw_norm [_, _, _, _, _, _, _, _] rfl ?_
          refine dw_last (i := 5) rfl (by decide +kernel) (by decide +kernel) ?_
          refine op_appendR 6 KA rfl rfl rfl (fun V => rdP V (i := 7) rfl) rfl rfl rfl rfl rfl rfl rfl rfl rfl (by omega) rfl (by rw [flat_len (m := 1) (fun _ _ => rfl)]; simp; omega) fun a2 h9a E9a ha2 => ?_
          refine dw_norm [_, _, _, _, _, _, _, _] rfl ?_
          refine dw_pure (i := 6) rfl (by decide +kernel) (pv_fieldAddr rfl rfl rfl rfl 8 rfl) ?_
          refine dw_last (i := 7) rfl (by decide +kernel) (by decide +kernel) ?_
          refine op_storeP 2 (v := .slice _ _ _) (vs := [_]) (c' := [_, _, _, _, _, _, _, _, _]) rfl rfl rfl rfl rfl rfl rfl rfl rfl ?_
          refine dw_norm [_, _, _, _, _, _, _, _] rfl ?_
          refine dw_end rfl ?_
          refine xp_region rfl ?_
          refine op_pure (pv_move (v := .int .i64 _) rfl) ?_
          refine op_pure (pv_arith rfl (by omega)) ?_
          refine op_pure (pv_assign (v := .int .i64 _) rfl) ?_
          refine ⟨(k + 1, y2, ws ++ [z], a2), ⟨rfl, trivial⟩, rfl, rfl, (Ext.trans (Ext.trans E_k E18) E9a), fun h3 E3 => ⟨⟨by omega, by simp; omega⟩, mem_one M3 ⟨z1, by omega⟩, by rw [List.flatMap_append]; exact ha2⟩, by first | omega | (dsimp only; omega), ?_⟩
          repeat (first | exact off_base _ _ _ | refine off_upd (by decide) ?_ | refine off_updL rfl ?_ | refine off_mix rfl ?_)
        · skip
          have hkv : (k : Int) = v := by have := of_decide_eq_false hw; omega
          obtain ⟨pW, AW, nW, cW⟩ := a
          obtain rfl : nW = ws.length := by have := AccR.len KA; rw [flat_len (m := 1) (fun _ _ => rfl)] at this; dsimp only at this; omega
          dsimp only at *
          refine goes_pubO 6 rfl ?_
          intro gW GW PW
          refine goes_norm [_, _, _, _, _, _, _] rfl ?_
          have RW : Row gW 1 intC AW ws := ⟨fun _ _ => rfl, AccR.rd KA PW⟩
          refine xp_exit ?_
          refine xp_seq ?_
          refine xp_region rfl ?_
          refine op_loadPA 2 (vs := [.int .i64 _, .int .i64 _, .int .i64 _, .int .i64 _, .int .i64 _, .slice _ _ _, .slice _ _ _, .slice _ _ _, .slice _ _ _]) rfl rfl rfl rfl rfl ?_
          refine op_storeP 1 (v := .agg #[.int .i64 _, .int .i64 _, .int .i64 _, .int .i64 _, .int .i64 _, .slice _ _ _, .slice _ _ _, .slice _ _ _, .slice _ _ _]) (vs := [_, _, _, _, _, _, _, _, _]) (c' := [_, _, _, _, _, _, _, _, _]) rfl rfl rfl rfl rfl rfl rfl rfl rfl ?_
          refine wp_norm [_, _, _, _, _, _, _] rfl ?_
          refine xp_ret ?_
          refine res_list (vs := [_]) Tryz.results7 ⟨resV_agg 1 rfl rfl rfl rfl rfl (vs := [.int .i64 _, .int .i64 _, .int .i64 _, .int .i64 _, .int .i64 _, .slice _ _ _, .slice _ _ _, .slice _ _ _, .slice _ _ _]) rfl, trivial⟩ fun V => ?_
          obtain ⟨h9, E9, e9, V9⟩ := wl_drop [_, _, _, _, _, _] [_] V
          have RB9 := (RB.ext (Ext.trans (Ext.trans (Ext.trans (Ext.trans (Ext.trans (Ext.trans E8 E_j) GP) E_y) GL) E_k) GW)).ext E9
          refine ⟨h9, _, e9, V9, Ext.trans (Ext.trans (Ext.trans (Ext.trans (Ext.trans (Ext.trans (Ext.trans (Ext.trans (Ext.trans (Ext.trans (Ext.trans (Ext.trans (Ext.trans (Ext.trans (Ext.trans E1 E2) E3) E4) E5) E6) E_i) GB) E8) E_j) GP) E_y) GL) E_k) GW) E9, y, ⟨r, v, g, t, o, bs, qs, ls, ws⟩, rfl, ⟨.slice AB bs.length cB, .slice AQ qs.length cQ, .slice AL ls.length cL, .slice AW ws.length cW, rfl, ⟨AB, cB, rfl, RB9⟩, ⟨AQ, cQ, rfl, (RP.ext (Ext.trans (Ext.trans (Ext.trans E_y GL) E_k) GW)).ext E9⟩, ⟨AL, cL, rfl, (RL.ext (Ext.trans E_k GW)).ext E9⟩, ⟨AW, cW, rfl, RW.ext E9⟩⟩, ?_⟩
          exact ⟨⟨⟨⟨r1, by show r ≤ 6; omega⟩, ⟨v1, by show v ≤ 6; omega⟩, ⟨g1, by show g ≤ 2; omega⟩, ⟨by show 1 ≤ t; omega, t2⟩, ⟨o1, by show o ≤ t; omega⟩, by show bs.length ≤ 4; omega, K3, by show qs.length ≤ 8; omega, L3, by show ls.length ≤ 4; omega, N3, by show (ws.length : Int) = v; omega, M3⟩, by show r ≤ size; omega, by show v ≤ size; omega, by show bs.length ≤ 3; omega, by show (qs.length : Int) ≤ pins; omega, N1⟩, capM_of hcQ hcL⟩
theorem MachineOf_ok (b x : Nat) (size pins links : Int) (hs : 1 ≤ size ∧ size ≤ 6) (hp : 0 ≤ pins ∧ pins ≤ 8) (hl : 0 ≤ links ∧ links ≤ 4) (h : AH) :
    FnM Tryz.prog (.func (.func 7) #[] ([] : List Value).toArray) [.pointer (some ⟨b, 0, none⟩), .int .i64 size, .int .i64 pins, .int .i64 links] h [some (b, .cells #[.int .u64 (x : Int)] 70 (0, 0))]
    (fun v h' M' => ∃ (x' : Nat) (m : MachP), M' = [some (b, .cells #[.int .u64 (x' : Int)] 70 (0, 0))] ∧ MachV h' m v ∧ Made size pins links m) :=
  (MachineOf_okC b x size pins links hs hp hl h).mono fun _ _ _ _ ⟨x', m, e, V, D, _⟩ => ⟨x', m, e, V, D⟩
end
end Go.Proofs.YtmpahfdiebhdbaaGreatDoor
/- Walks: hands that are made of numbers, copies. Conditions: as each theorem states. -/
namespace Go.Proofs.YtmpahfdiebhdbaaGreatDoor
open Go Go.HL Go.Proofs Go.Wx Go.Rd
section
variable [Lvl]
set_option maxRecDepth 100000
end
end Go.Proofs.YtmpahfdiebhdbaaGreatDoor
/- The own logic, part U: from a walk to the row of a law. Conditions: none. -/
namespace Go.HL
open Go Go.Wx Go.RowKit
/-- What is asked at the end of a law. -/
def lawK (t : Nat) (h0 : AH) : Post
  | .normal, S, D, L, h => D = [] ∧ (Valid h L → Ext h0 (wl h L)) ∧ S t = .bool true
  | .ret, S, D, L, h => D = [] ∧ (Valid h L → Ext h0 (wl h L)) ∧ S t = .bool true
  | _, _, _, _, _ => False
theorem below_of {w w' : World} (se : SameEnv w w') (e : Ext (absH w.heap) (absH w'.heap)) : Below w.heap.size w w' := by
  have hb : ∀ k, k < w.heap.size → w'.heap[k]? = w.heap[k]? := by
    intro k hk
    have h1 : absH w.heap k = some w.heap[k] := Array.getElem?_eq_getElem hk
    have h2 : w'.heap[k]? = some w.heap[k] := e k _ h1
    rw [h2]
    exact (Array.getElem?_eq_getElem hk).symm
  refine ⟨se.os, se.tape, se.output, ?_, hb⟩
  rcases Nat.lt_or_ge w'.heap.size w.heap.size with h1 | h1
  · have h2 := hb w'.heap.size h1
    rw [Array.getElem?_eq_getElem h1] at h2
    simp at h2
  · exact h1
variable [Lvl]
end Go.HL
/- The own logic, part Uc: from a walk to the run of a law that starts goroutines. Conditions: none. -/
namespace Go.HL
open Go Go.Wx Go.RowKit Go.Conc Go.ConcN
/-- The run of a law: it ends, true, and leaves what was there. -/
def RunsTrue (P : Program) (f : FuncId) (args : Array Value) (w : World) : Prop :=
  ∃ M last o w' t', runNT P (M + 1) (solo (G (Frame.enter P f args .normal) []) w) #[] = (.ended o w', t') ∧ runN P M (solo (G (Frame.enter P f args .normal) []) w) = .next last ∧ step P last = .ended o w' ∧
    Go.Conc.Good P (fun v W' => v = .bool true ∧ Below w.heap.size w W') last o w' t'
theorem runs_body {P : Program} {f : FuncId} {fn : Func} {c : Code} {args : Array Value} {n t : Nat} {w : World} (hf : P.funcs[f]? = some fn) (hb : fn.body = some c) (hn : fn.ntmps = n) (ha : Nat.ble args.size n = true) (hr : fn.results = #[.tmp t]) (ht : Nat.blt t n = true) (hi : P.inits.idxOf? f = none)
    (x : ∀ h, h = absH w.heap → @xp ⟨true, none, none⟩ P n none c (lawK t h) (argS args) [] [] h) :
    RunsTrue P f args w := by
  letI : Lvl := ⟨true, none, none⟩
  have he : Frame.enter P f args .normal = mk { (default : Frame) with fn := f, kind := .normal, roundOf := none } n (argS args) [] [.code c] := by
    simp [Frame.enter, mk, hf, hb, hn, enter_tmps n args (Nat.le_of_ble_eq_true ha)]
  have hres : ∀ (S : Sl) (w' : World), S t = .bool true → results fn (arr n S) = .pure (.bool true) := by
    intro S w' hs
    unfold results
    rw [hr, List.mapM_toArray]
    have e1 : (arr n S).getD t undef = .bool true := by rw [arr_getD, if_pos (Nat.lt_of_lt_of_le (Nat.lt_succ_self t) (Nat.le_of_ble_eq_true ht)), hs]
    show Sem.pure ((arr n S).getD t undef) = _
    rw [e1]
  have x1 := x _ rfl (absH w.heap) (by have := Fits.nil (valid_nil (Fin.abs w.heap)); rw [wl_nil] at this; exact this) { (default : Frame) with fn := f, kind := .normal, roundOf := none } rfl [] []
  have x2 : Rch P (fun fr cs' H => cs' = [] ∧ fr.mode = .returning ∧ fr.defers = [] ∧ fr.kind = .normal ∧ fr.fn = f ∧ (∃ S, fr.tmps = arr n S ∧ S t = .bool true) ∧ Ext (absH w.heap) H) (mk { (default : Frame) with fn := f, kind := .normal, roundOf := none } n (argS args) [] [.code c]) [] (absH w.heap) := by
    refine x1.bind ?_
    rintro fr cs' H ⟨rfl, e, S', D', L', h', V', kk, a⟩
    cases e with
    | normal =>
      obtain ⟨rfl, ex, hs⟩ := kk
      have a' : fr = mk { (default : Frame) with fn := f, kind := .normal, roundOf := none } n S' [] [] := a
      subst a'
      have hH : H = wl h' L' := by rw [V'.eq]; exact hun_nil _
      subst hH
      refine .ctl (fr' := { mk { (default : Frame) with fn := f, kind := .normal, roundOf := none } n S' [] [] with mode := .returning }) (cs' := []) (fun w => by simp [stepG, stepG.exec, mk]) (.done ⟨rfl, rfl, rfl, rfl, rfl, ⟨S', rfl, hs⟩, ex V'.valid⟩)
    | ret =>
      obtain ⟨rfl, ex, hs⟩ := kk
      obtain ⟨todo, rfl⟩ := a.1 rfl
      have hH : H = wl h' L' := by rw [V'.eq]; exact hun_nil _
      subst hH
      exact .done ⟨rfl, rfl, rfl, rfl, rfl, ⟨S', rfl, hs⟩, ex V'.valid⟩
    | _ => exact kk.elim
  unfold RunsTrue
  rw [he]
  refine x2.ends rfl rfl ?_
  rintro fr cs h w' ⟨rfl, hm, hd, hk, hfn, ⟨S, htm, hs⟩, ex⟩ se rfl
  have hr1 := hres S w' hs
  have hru : (results fn fr.tmps).runT P w' #[] = (.ok (.bool true) w', #[]) := by rw [htm, hr1]; rfl
  have hf' : P.funcs[fr.fn]? = some fn := by rw [hfn]; exact hf
  have hi' : P.inits.idxOf? fr.fn = none := by rw [hfn]; exact hi
  have h1 : stepG P true (G fr []) w' = unwind P true fr [] none w' := by
    simp [stepG, stepG.exec, hm]
  have h2 : unwind P true fr [] none w' = GStep.after (seen P fr.fn #[]) (.ended (.done (.bool true)) w') := by
    unfold unwind
    rw [hd]
    simp only [hm, hf', hru]
    unfold doReturn
    simp only [hk, hi']
    rfl
  refine ⟨rfl, .bool true, seen P fr.fn #[], ?_, fun e he => ?_, rfl, below_of se ex⟩
  · rw [h1, h2]
    simp [GStep.after]
  · simp [seen] at he
end Go.HL
/- Plain: machines that pass the check; what levers do. Conditions: none. -/
namespace Go.Rd
open Go Go.HL Go.Wx
variable [Lvl]
theorem chk_of {m : MachP} (M : MOK m) : chkM m = 0 := by
  unfold chkM
  have h := M.rods; have h2 := M.levers; have h3 := M.regs; have h4 := M.travel; have h5 := M.opn
  rw [if_neg (by simp [inM]; omega), if_neg (by simp [inM]; omega), if_neg (by simp [inM]; omega), if_neg (by simp [inM]; omega), if_neg (by simp [inM]; omega)]
  have b1 : firstErr (checkButtonM m) m.buttons = 0 := firstErr_iff.2 fun b hb => by
    have := M.btn b hb
    unfold checkButtonM
    rw [if_neg (by simp [inM]; omega)]
  have b2 : firstErr (checkPinM m) m.pins = 0 := firstErr_iff.2 fun p hp => by
    obtain ⟨a, b, c⟩ := M.pin p hp
    unfold checkPinM
    rw [if_neg (by simp [inM]; omega), if_neg (by simp [inM]; omega), if_neg (by simp [inM]; omega)]
  have b3 : firstErr (checkLinkM m) m.links = 0 := firstErr_iff.2 fun l hl => by
    obtain ⟨a, b, c, d, e⟩ := M.link l hl
    unfold checkLinkM
    rw [if_neg (by simp [inM]; omega), if_neg (by simp [inM]; omega), if_neg c, if_neg (by simp [inM]; omega), if_neg (by simp [inM]; omega)]
  have b4 : firstErr checkWeightM m.weights = 0 := firstErr_iff.2 fun w hw => by
    have := M.wt w hw
    unfold checkWeightM
    rw [if_neg (by simp [inM]; omega)]
  rw [if_neg (by have := M.bl; omega), b1, if_neg (by decide), if_neg (by have := M.pl; omega), b2, if_neg (by decide), if_neg (by have := M.ll; omega), b3, if_neg (by decide), if_neg (by have := M.wl; omega), b4]
theorem MOK.pins {m : MachP} (M : MOK m) : ∀ p ∈ m.pins, 0 ≤ p.lever ∧ 0 ≤ p.rod := fun p hp => ⟨(M.pin p hp).2.1.1, (M.pin p hp).1.1⟩
theorem MOK.cap {m : MachP} (M : MOK m) {ps : List PinP} {ls : List LinkP} (hp : ps.length ≤ 8) (hl : ls.length ≤ 4)
    (h1 : ∀ p ∈ ps, (0 ≤ p.rod ∧ p.rod < m.rods) ∧ (0 ≤ p.lever ∧ p.lever < m.levers) ∧ (0 ≤ p.lag ∧ p.lag ≤ m.travel))
    (h2 : ∀ l ∈ ls, (0 ≤ l.frm ∧ l.frm < m.rods) ∧ (0 ≤ l.to ∧ l.to < m.rods) ∧ l.frm ≠ l.to ∧ (-1 ≤ l.reg ∧ l.reg < m.regs) ∧ (1 ≤ l.lag ∧ l.lag ≤ m.travel)) : MOK { m with pins := ps, links := ls } :=
  ⟨M.rods, M.levers, M.regs, M.travel, M.opn, M.bl, M.btn, hp, h1, hl, h2, M.wl, M.wt⟩
end Go.Rd
/- Walks of package rod: how far rods turn. Conditions: as each theorem states. -/
namespace Go.Proofs.YtmpahfdiebhdbaaGreatDoor
open Go Go.HL Go.Proofs Go.Wx Go.Rd
section
variable [Lvl]
set_option maxRecDepth 100000
end
end Go.Proofs.YtmpahfdiebhdbaaGreatDoor
/- Walks of package rod: all faults, machines with some of them. Conditions: as each theorem states. -/
namespace Go.Proofs.YtmpahfdiebhdbaaGreatDoor
open Go Go.HL Go.Proofs Go.Wx Go.Rd
section
variable [Lvl]
set_option maxRecDepth 100000
end
end Go.Proofs.YtmpahfdiebhdbaaGreatDoor
/- Walks: what sounds with one fault; what explains. Conditions: as each theorem states. -/
namespace Go.Proofs.YtmpahfdiebhdbaaGreatDoor
open Go Go.HL Go.Proofs Go.Wx Go.Rd
section
variable [Lvl]
set_option maxRecDepth 100000
end
end Go.Proofs.YtmpahfdiebhdbaaGreatDoor
/- Walks: whichever fault there truly is. Conditions: as each theorem states. -/
namespace Go.Proofs.YtmpahfdiebhdbaaGreatDoor
open Go Go.HL Go.Proofs Go.Wx Go.Rd
section
variable [Lvl]
set_option maxRecDepth 100000
end
end Go.Proofs.YtmpahfdiebhdbaaGreatDoor
/- Plain: how far rods turn, as the reference counts it: as many rounds as there are rods. Conditions: none. -/
namespace Go.Rd
open Go Go.HL Go.Wx
variable [Lvl]

end Go.Rd
/- Walks of the reference: the checks of a machine that is valid, and of a hand. Conditions: as each theorem states. -/
namespace Go.Proofs.YtmpahfdiebhdbaaGreatDoor
open Go Go.HL Go.Proofs Go.Wx Go.Rd
section
variable [Lvl]
set_option maxRecDepth 100000
end
end Go.Proofs.YtmpahfdiebhdbaaGreatDoor
/- Walks of package rod: how deep a button has to go. Conditions: as each theorem states. -/
namespace Go.Proofs.YtmpahfdiebhdbaaGreatDoor
open Go Go.HL Go.Proofs Go.Wx Go.Rd
section
variable [Lvl]
set_option maxRecDepth 100000
end
end Go.Proofs.YtmpahfdiebhdbaaGreatDoor
/- Walks: how deep buttons go. Conditions: as each theorem states. -/
namespace Go.Proofs.YtmpahfdiebhdbaaGreatDoor
open Go Go.HL Go.Proofs Go.Wx Go.Rd
section
variable [Lvl]
set_option maxRecDepth 100000
end
end Go.Proofs.YtmpahfdiebhdbaaGreatDoor
/- Walks of the reference: how far rods turn, how far levers are lifted, what sounds. Conditions: as each theorem states. -/
namespace Go.Proofs.YtmpahfdiebhdbaaGreatDoor
open Go Go.HL Go.Proofs Go.Wx Go.Rd
section
variable [Lvl]
set_option maxRecDepth 100000
end
end Go.Proofs.YtmpahfdiebhdbaaGreatDoor
/- Walks of the reference: the checks of any machine and hand. Conditions: as each theorem states. -/
namespace Go.Proofs.YtmpahfdiebhdbaaGreatDoor
open Go Go.HL Go.Proofs Go.Wx Go.Rd
section
variable [Lvl]
set_option maxRecDepth 100000
end
end Go.Proofs.YtmpahfdiebhdbaaGreatDoor
/- Walks of package rod: Chord. Conditions: as each theorem states. -/
namespace Go.Proofs.YtmpahfdiebhdbaaGreatDoor
open Go Go.HL Go.Proofs Go.Wx Go.Rd
section
variable [Lvl]
set_option maxRecDepth 100000
def ChoI (P : List Int → Bool) (n : Nat) (p3 p4 p10 p11 : Nat × Obj) (b6 b7 l : Nat) (t6 t7 : TypeId) (r : Loop) (h0 : AH) (k : Nat) (h : AH) (M : Pv) : Prop :=
  Ext h0 h ∧ (∀ i s, i < k → (setsM n)[i]? = some s → P s = false) ∧
    M = [some p3, some p4, some (b6, .cells #[.slice none 0 0] t6 (0, 0)), some (b7, .cells #[.int .i64 0] t7 (0, 0)), some p10, some p11, some (l, obL r .ready none)]
def ChoF (P : List Int → Bool) (n : Nat) (p3 p4 p10 p11 : Nat × Obj) (b6 b7 l : Nat) (t6 t7 : TypeId) (r : Loop) (h0 : AH) (h : AH) (M : Pv) : Prop :=
  Ext h0 h ∧ ∃ (x : List Int) (BA : Option Addr) (cB : Nat), (setsM n).find? P = some x ∧ Row h 1 intC BA x ∧
    M = [some p3, some p4, some (b6, .cells #[.slice BA x.length cB] t6 (0, 0)), some (b7, .cells #[.int .i64 0] t7 (0, 0)), some p10, some p11, some (l, obL r .done (some .ret))]
theorem ChoI.ext {P : List Int → Bool} {n : Nat} {p3 p4 p10 p11 : Nat × Obj} {b6 b7 l : Nat} {t6 t7 : TypeId} {r : Loop} {h0 h h' : AH} {k : Nat} {M : Pv} (I : ChoI P n p3 p4 p10 p11 b6 b7 l t6 t7 r h0 k h M) (E : Ext h h') : ChoI P n p3 p4 p10 p11 b6 b7 l t6 t7 r h0 k h' M := ⟨I.1.trans E, I.2⟩
theorem ChoF.ext {P : List Int → Bool} {n : Nat} {p3 p4 p10 p11 : Nat × Obj} {b6 b7 l : Nat} {t6 t7 : TypeId} {r : Loop} {h0 h h' : AH} {M : Pv} (I : ChoF P n p3 p4 p10 p11 b6 b7 l t6 t7 r h0 h M) (E : Ext h h') : ChoF P n p3 p4 p10 p11 b6 b7 l t6 t7 r h0 h' M := by
  obtain ⟨E0, x, BA, cB, e1, R1, e2⟩ := I
  exact ⟨E0.trans E, x, BA, cB, e1, R1.ext E, e2⟩
end
end Go.Proofs.YtmpahfdiebhdbaaGreatDoor
/- Walks: the kit's and the reference's lists of sets. Conditions: as each theorem states. -/
namespace Go.Proofs.YtmpahfdiebhdbaaGreatDoor
open Go Go.HL Go.Proofs Go.Wx Go.Rd
section
variable [Lvl]
set_option maxRecDepth 100000
end
end Go.Proofs.YtmpahfdiebhdbaaGreatDoor
/- Walks: the chord is the first of all sets. Conditions: as each theorem states. -/
namespace Go.Proofs.YtmpahfdiebhdbaaGreatDoor
open Go Go.HL Go.Proofs Go.Wx Go.Rd
section
variable [Lvl]
set_option maxRecDepth 100000
end
end Go.Proofs.YtmpahfdiebhdbaaGreatDoor
/- Walks of the reference: all sets, all hands. Conditions: as each theorem states. -/
namespace Go.Proofs.YtmpahfdiebhdbaaGreatDoor
open Go Go.HL Go.Proofs Go.Wx Go.Rd
section
variable [Lvl]
set_option maxRecDepth 100000
end
end Go.Proofs.YtmpahfdiebhdbaaGreatDoor
/- Walks of the reference: all hands; equal lists; sets with a number more, or without one. Conditions: as each theorem states. -/
namespace Go.Proofs.YtmpahfdiebhdbaaGreatDoor
open Go Go.HL Go.Proofs Go.Wx Go.Rd
section
variable [Lvl]
set_option maxRecDepth 100000
end
end Go.Proofs.YtmpahfdiebhdbaaGreatDoor
/- Walks of the reference: a machine without a pin, without a link; all faults. Conditions: as each theorem states. -/
namespace Go.Proofs.YtmpahfdiebhdbaaGreatDoor
open Go Go.HL Go.Proofs Go.Wx Go.Rd
section
variable [Lvl]
set_option maxRecDepth 100000
theorem flat_take {α : Type} (enc : α → List Value) (l : List α) (k : Nat) : (l.take k).flatMap enc = (l.flatMap enc).take ((l.take k).flatMap enc).length := by
  have e : l.flatMap enc = (l.take k).flatMap enc ++ (l.drop k).flatMap enc := by rw [← List.flatMap_append, List.take_append_drop]
  rw [e, List.take_left']
  rfl
end
end Go.Proofs.YtmpahfdiebhdbaaGreatDoor
/- Plain: a machine without pins and links sounds like one in which they lift and turn nothing. Conditions: none. -/
namespace Go.Rd
open Go Go.HL Go.Wx
variable [Lvl]
/-- m' is m without some pins and links that do nothing. -/
structure Mut (m m' : MachP) : Prop where
  lv : m'.levers = m.levers
  op : m'.opn = m.opn
  tv : m'.travel = m.travel
  bt : m'.buttons = m.buttons
  p1 : ∀ p ∈ m'.pins, p ∈ m.pins
  p2 : ∀ p ∈ m.pins, p.lag = m.travel ∨ p ∈ m'.pins
  l1 : ∀ l ∈ m'.links, l ∈ m.links
  l2 : ∀ l ∈ m.links, l.lag = m.travel ∨ l ∈ m'.links
end Go.Rd
/- Walks of the reference: what sounds with faults. Conditions: as each theorem states. -/
namespace Go.Proofs.YtmpahfdiebhdbaaGreatDoor
open Go Go.HL Go.Proofs Go.Wx Go.Rd
section
variable [Lvl]
set_option maxRecDepth 100000
end
end Go.Proofs.YtmpahfdiebhdbaaGreatDoor
/- Walks of the reference: Broken, told, Left; what is heard of a machine with faults. Conditions: as each theorem states. -/
namespace Go.Proofs.YtmpahfdiebhdbaaGreatDoor
open Go Go.HL Go.Proofs Go.Wx Go.Rd
section
variable [Lvl]
set_option maxRecDepth 100000
end
end Go.Proofs.YtmpahfdiebhdbaaGreatDoor
/- Walks: copies of what was heard; how many are left. Conditions: as each theorem states. -/
namespace Go.Proofs.YtmpahfdiebhdbaaGreatDoor
open Go Go.HL Go.Proofs Go.Wx Go.Rd
section
variable [Lvl]
set_option maxRecDepth 100000
end
end Go.Proofs.YtmpahfdiebhdbaaGreatDoor
/- Plain facts of package rod: the reference's sweeps at any depth. Conditions: as each theorem states. -/
namespace Go.Rd
open Go Go.HL Go.Wx
variable [Lvl]
end Go.Rd
/- Walks of the reference: Turns, Lifts, Sounds, Force of any machine and hand; copies, equal machines. Conditions: as each theorem states. -/
namespace Go.Proofs.YtmpahfdiebhdbaaGreatDoor
open Go Go.HL Go.Proofs Go.Wx Go.Rd
section
variable [Lvl]
set_option maxRecDepth 100000
/-- A machine with lists of some length. -/
structure Sml (m : MachP) : Prop where
  b : m.buttons.length < 2 ^ 20
  q : m.pins.length < 2 ^ 20
  l : m.links.length < 2 ^ 20
  w : m.weights.length < 2 ^ 20
structure SmlH (a : HandP) : Prop where
  b : a.buttons.length < 2 ^ 20
  o : a.on.length < 2 ^ 20
end
end Go.Proofs.YtmpahfdiebhdbaaGreatDoor
/- Walks: copies of machines, equal machines; the reference's Force; lists that are too long. Conditions: as each theorem states. -/
namespace Go.Proofs.YtmpahfdiebhdbaaGreatDoor
open Go Go.HL Go.Proofs Go.Wx Go.Rd
section
variable [Lvl]
set_option maxRecDepth 100000
/-- A machine's cells. -/
abbrev machC (AB AQ AL AW : Option Addr) (cB cQ cL cW : Nat) (m : MachP) : List Value := [.int .i64 m.rods, .int .i64 m.levers, .int .i64 m.regs, .int .i64 m.travel, .int .i64 m.opn, .slice AB m.buttons.length cB, .slice AQ m.pins.length cQ, .slice AL m.links.length cL, .slice AW m.weights.length cW]
/-- Machines as elements: pins and links have room. -/
def TMa (h : AH) (m : MachP) (c : List Value) : Prop := ∃ AB AQ AL AW cB cQ cL cW, c = machC AB AQ AL AW cB cQ cL cW m ∧ MachR h AB AQ AL AW m ∧ m.pins.length ≤ cQ ∧ m.links.length ≤ cL
theorem TMa.mono : Mono TMa := fun h h' m c e ⟨AB, AQ, AL, AW, cB, cQ, cL, cW, hc, r, s⟩ => ⟨AB, AQ, AL, AW, cB, cQ, cL, cW, hc, r.ext e, s⟩
theorem pinEq (a b : PinP) : pev Tryz.prog (Op.equalIn Op.maxDepth 65 (.agg (pinC a).toArray) (.agg (pinC b).toArray)) = some (decide (a.rod = b.rod ∧ a.lever = b.lever ∧ a.lag = b.lag)) := by
  have h1 := eq_struct (P := Tryz.prog) (t := 65) (d := 9999) (fs := [_, _, _]) (xs := (pinC a).toArray) (ys := (pinC b).toArray) (rs := [a.rod == b.rod, a.lever == b.lever, a.lag == b.lag]) rfl (by kernel_rfl) rfl ?_
  · refine h1.trans ?_
    simp only [List.all_cons, List.all_nil, id, Bool.and_true, Option.some.injEq]
    rw [Bool.eq_iff_iff]
    simp
  · intro i f r hf hr
    match i, hf, hr with
    | 0, hf, hr => cases hf; cases hr; exact ⟨by decide, _, _, rfl, rfl, eq_int rfl _ _⟩
    | 1, hf, hr => cases hf; cases hr; exact ⟨by decide, _, _, rfl, rfl, eq_int rfl _ _⟩
    | 2, hf, hr => cases hf; cases hr; exact ⟨by decide, _, _, rfl, rfl, eq_int rfl _ _⟩
    | i + 3, hf, hr => simp at hf
theorem linkEq (a b : LinkP) : pev Tryz.prog (Op.equalIn Op.maxDepth 67 (.agg (linkC a).toArray) (.agg (linkC b).toArray)) = some (decide (a.frm = b.frm ∧ a.to = b.to ∧ a.reg = b.reg ∧ a.lag = b.lag)) := by
  have h1 := eq_struct (P := Tryz.prog) (t := 67) (d := 9999) (fs := [_, _, _, _]) (xs := (linkC a).toArray) (ys := (linkC b).toArray) (rs := [a.frm == b.frm, a.to == b.to, a.reg == b.reg, a.lag == b.lag]) rfl (by kernel_rfl) rfl ?_
  · refine h1.trans ?_
    simp only [List.all_cons, List.all_nil, id, Bool.and_true, Option.some.injEq]
    rw [Bool.eq_iff_iff]
    simp
  · intro i f r hf hr
    match i, hf, hr with
    | 0, hf, hr => cases hf; cases hr; exact ⟨by decide, _, _, rfl, rfl, eq_int rfl _ _⟩
    | 1, hf, hr => cases hf; cases hr; exact ⟨by decide, _, _, rfl, rfl, eq_int rfl _ _⟩
    | 2, hf, hr => cases hf; cases hr; exact ⟨by decide, _, _, rfl, rfl, eq_int rfl _ _⟩
    | 3, hf, hr => cases hf; cases hr; exact ⟨by decide, _, _, rfl, rfl, eq_int rfl _ _⟩
    | i + 4, hf, hr => simp at hf
theorem pinSelf (a : PinP) : pev Tryz.prog (Op.equalIn Op.maxDepth 65 (.agg (pinC a).toArray) (.agg (pinC a).toArray)) = some true := by rw [pinEq]; simp
theorem linkSelf (a : LinkP) : pev Tryz.prog (Op.equalIn Op.maxDepth 67 (.agg (linkC a).toArray) (.agg (linkC a).toArray)) = some true := by rw [linkEq]; simp
theorem sameIntsS_ok (a : List Int) (A B : Option Addr) (ca cb : Nat) (h : AH) (Ra : Row h 1 intC A a) (Rb : Row h 1 intC B a) (ha : a.length < 2 ^ 40) :
    FnT Tryz.prog 23 #[.slice A a.length ca, .slice B a.length cb] h (fun v _ => v = .bool true) :=
  (sameInts_ok a a A B ca cb h Ra Rb ha).mono (fun v _ e => ⟨e.1, e.2.trans (boolE (decide_eq_true rfl))⟩) fun _ _ e => e
/-- Two copies of one machine are the same. -/
theorem SameMachines_ok (m : MachP) (S : Sml m) (AB AQ AL AW : Option Addr) (cB cQ cL cW : Nat) (AB' AQ' AL' AW' : Option Addr) (cB' cQ' cL' cW' : Nat) (h : AH) (R : MachR h AB AQ AL AW m) (R' : MachR h AB' AQ' AL' AW' m) :
    FnT Tryz.prog 14 #[machV AB AQ AL AW cB cQ cL cW m, machV AB' AQ' AL' AW' cB' cQ' cL' cW' m] h (fun v _ => v = .bool true) := by
  have s1 := S.b
  have s2 := S.q
  have s3 := S.l
  have s4 := S.w
  have q1 : (m.rods == m.rods) = true := by simp
  have q2 : (m.levers == m.levers) = true := by simp
  have q3 : (m.regs == m.regs) = true := by simp
  have q4 : (m.travel == m.travel) = true := by simp
  have q5 : (m.opn == m.opn) = true := by simp
  have q6 : ((m.pins.length : Int) == (m.pins.length : Int)) = true := by simp
  have q7 : ((m.links.length : Int) == (m.links.length : Int)) = true := by simp
  refine call_body Tryz.func14 rfl Tryz.ntmps14 rfl ?_
  refine xp_seq ?_
  refine xp_region rfl ?_
  refine op_box (v := .agg #[.int .i64 _, .int .i64 _, .int .i64 _, .int .i64 _, .int .i64 _, .slice _ _ _, .slice _ _ _, .slice _ _ _, .slice _ _ _]) (cs := [_, _, _, _, _, _, _, _, _]) rfl rfl fun b2 hb2 => ?_
  refine wp_norm [_] rfl ?_
  refine op_box (v := .agg #[.int .i64 _, .int .i64 _, .int .i64 _, .int .i64 _, .int .i64 _, .slice _ _ _, .slice _ _ _, .slice _ _ _, .slice _ _ _]) (cs := [_, _, _, _, _, _, _, _, _]) rfl rfl fun b3 hb3 => ?_
  refine wp_norm [_, _] rfl ?_
  refine op_pure (pv_assign (v := .bool _) rfl) ?_
  refine xp_seq ?_
  refine xp_region rfl ?_
  refine op_pure (pv_fieldAddr rfl rfl rfl rfl 0 rfl) ?_
  refine op_loadP 0 (v := .int .i64 _) rfl rfl rfl rfl ?_
  refine op_pure (pv_fieldAddr rfl rfl rfl rfl 0 rfl) ?_
  refine op_loadP 1 (v := .int .i64 _) rfl rfl rfl rfl ?_
  refine op_pure (pv_of (v := .bool _) rfl) ?_
  refine op_pure (pv_move (v := .bool _) rfl) ?_
  refine guard_yes rfl q1 ?_
  refine op_pure (pv_fieldAddr rfl rfl rfl rfl 1 rfl) ?_
  refine guard_yes rfl q1 ?_
  refine op_loadP 0 (v := .int .i64 _) rfl rfl rfl rfl ?_
  refine guard_yes rfl q1 ?_
  refine op_pure (pv_fieldAddr rfl rfl rfl rfl 1 rfl) ?_
  refine guard_yes rfl q1 ?_
  refine op_loadP 1 (v := .int .i64 _) rfl rfl rfl rfl ?_
  refine guard_yes rfl q1 ?_
  refine op_pure (pv_of (v := .bool _) rfl) ?_
  refine op_pure (pv_pickT rfl q1 (v := .bool _) rfl) ?_
  refine op_pure (pv_move (v := .bool _) rfl) ?_
  refine guard_yes rfl q2 ?_
  refine op_pure (pv_fieldAddr rfl rfl rfl rfl 2 rfl) ?_
  refine guard_yes rfl q2 ?_
  refine op_loadP 0 (v := .int .i64 _) rfl rfl rfl rfl ?_
  refine guard_yes rfl q2 ?_
  refine op_pure (pv_fieldAddr rfl rfl rfl rfl 2 rfl) ?_
  refine guard_yes rfl q2 ?_
  refine op_loadP 1 (v := .int .i64 _) rfl rfl rfl rfl ?_
  refine guard_yes rfl q2 ?_
  refine op_pure (pv_of (v := .bool _) rfl) ?_
  refine op_pure (pv_pickT rfl q2 (v := .bool _) rfl) ?_
  refine op_pure (pv_move (v := .bool _) rfl) ?_
  refine guard_yes rfl q3 ?_
  refine op_pure (pv_fieldAddr rfl rfl rfl rfl 3 rfl) ?_
  refine guard_yes rfl q3 ?_
  refine op_loadP 0 (v := .int .i64 _) rfl rfl rfl rfl ?_
  refine guard_yes rfl q3 ?_
  refine op_pure (pv_fieldAddr rfl rfl rfl rfl 3 rfl) ?_
  refine guard_yes rfl q3 ?_
  refine op_loadP 1 (v := .int .i64 _) rfl rfl rfl rfl ?_
  refine guard_yes rfl q3 ?_
  refine op_pure (pv_of (v := .bool _) rfl) ?_
  refine op_pure (pv_pickT rfl q3 (v := .bool _) rfl) ?_
  refine op_pure (pv_move (v := .bool _) rfl) ?_
  refine guard_yes rfl q4 ?_
  refine op_pure (pv_fieldAddr rfl rfl rfl rfl 4 rfl) ?_
  refine guard_yes rfl q4 ?_
  refine op_loadP 0 (v := .int .i64 _) rfl rfl rfl rfl ?_
  refine guard_yes rfl q4 ?_
  refine op_pure (pv_fieldAddr rfl rfl rfl rfl 4 rfl) ?_
  refine guard_yes rfl q4 ?_
  refine op_loadP 1 (v := .int .i64 _) rfl rfl rfl rfl ?_
  refine guard_yes rfl q4 ?_
  refine op_pure (pv_of (v := .bool _) rfl) ?_
  refine op_pure (pv_pickT rfl q4 (v := .bool _) rfl) ?_
  refine op_pure (pv_move (v := .bool _) rfl) ?_
  refine guard_yes rfl q5 ?_
  refine op_pure (pv_fieldAddr rfl rfl rfl rfl 5 rfl) ?_
  refine guard_yes rfl q5 ?_
  refine op_loadP 0 (v := .slice _ _ _) rfl rfl rfl rfl ?_
  refine guard_yes rfl q5 ?_
  refine op_pure (pv_fieldAddr rfl rfl rfl rfl 5 rfl) ?_
  refine guard_yes rfl q5 ?_
  refine op_loadP 1 (v := .slice _ _ _) rfl rfl rfl rfl ?_
  refine guard_yes rfl q5 ?_
  refine op_fn (caps := []) (vs := [.slice _ _ _, .slice _ _ _]) rfl rfl rfl (sameIntsS_ok m.buttons _ _ _ _ h (R.b.ext (Ext.refl _)) (R'.b.ext (Ext.refl _)) (by omega)) ?_
  rintro _ h3 E3 rfl
  refine op_pure (pv_pickT rfl q5 (v := .bool _) rfl) ?_
  refine op_pure (pv_move (v := .bool _) rfl) ?_
  refine guard_yes rfl rfl ?_
  refine op_pure (pv_fieldAddr rfl rfl rfl rfl 8 rfl) ?_
  refine guard_yes rfl rfl ?_
  refine op_loadP 0 (v := .slice _ _ _) rfl rfl rfl rfl ?_
  refine guard_yes rfl rfl ?_
  refine op_pure (pv_fieldAddr rfl rfl rfl rfl 8 rfl) ?_
  refine guard_yes rfl rfl ?_
  refine op_loadP 1 (v := .slice _ _ _) rfl rfl rfl rfl ?_
  refine guard_yes rfl rfl ?_
  refine op_fn (caps := []) (vs := [.slice _ _ _, .slice _ _ _]) rfl rfl rfl (sameIntsS_ok m.weights _ _ _ _ h3 (R.w.ext E3) (R'.w.ext E3) (by omega)) ?_
  rintro _ h4 E4 rfl
  refine op_pure (pv_pickT rfl rfl (v := .bool _) rfl) ?_
  refine op_pure (pv_move (v := .bool _) rfl) ?_
  refine guard_yes rfl rfl ?_
  refine op_pure (pv_fieldAddr rfl rfl rfl rfl 6 rfl) ?_
  refine guard_yes rfl rfl ?_
  refine op_loadP 0 (v := .slice _ _ _) rfl rfl rfl rfl ?_
  refine guard_yes rfl rfl ?_
  refine op_pure (pv_len rfl rfl) ?_
  refine guard_yes rfl rfl ?_
  refine op_pure (pv_fieldAddr rfl rfl rfl rfl 6 rfl) ?_
  refine guard_yes rfl rfl ?_
  refine op_loadP 1 (v := .slice _ _ _) rfl rfl rfl rfl ?_
  refine guard_yes rfl rfl ?_
  refine op_pure (pv_len rfl rfl) ?_
  refine guard_yes rfl rfl ?_
  refine op_pure (pv_of (v := .bool _) rfl) ?_
  refine op_pure (pv_pickT rfl rfl (v := .bool _) rfl) ?_
  refine op_pure (pv_move (v := .bool _) rfl) ?_
  refine guard_yes rfl q6 ?_
  refine op_pure (pv_fieldAddr rfl rfl rfl rfl 7 rfl) ?_
  refine guard_yes rfl q6 ?_
  refine op_loadP 0 (v := .slice _ _ _) rfl rfl rfl rfl ?_
  refine guard_yes rfl q6 ?_
  refine op_pure (pv_len rfl rfl) ?_
  refine guard_yes rfl q6 ?_
  refine op_pure (pv_fieldAddr rfl rfl rfl rfl 7 rfl) ?_
  refine guard_yes rfl q6 ?_
  refine op_loadP 1 (v := .slice _ _ _) rfl rfl rfl rfl ?_
  refine guard_yes rfl q6 ?_
  refine op_pure (pv_len rfl rfl) ?_
  refine guard_yes rfl q6 ?_
  refine op_pure (pv_of (v := .bool _) rfl) ?_
  refine op_pure (pv_pickT rfl q6 (v := .bool _) rfl) ?_
  refine op_pure (pv_assign (v := .bool _) rfl) ?_
  refine xp_seq ?_
  refine xp_seq ?_
  refine xp_region rfl ?_
  refine op_pure (pv_assign (v := .int .i64 _) rfl) ?_
  refine xp_block ?_
  refine xp_loopB [5, 6, 73, 74, 75, 76, 77, 78, 79, 80, 81, 82, 83, 84, 85, 86, 87, 88, 89, 90, 91, 92, 93] 2 (α := Nat) (fun k => [(5, .bool true), (6, .int .i64 k)]) (fun k => _) (fun k h_k => k ≤ m.pins.length) (fun k => m.pins.length - k) (0) ⟨boolE q7, rfl, trivial⟩ (rfl) (Nat.zero_le _) ?_
  rintro k T1 h_k E_k J_k
  refine goes_norm [_, _] rfl ?_
  refine xp_seq ?_
  refine xp_seq ?_
  refine xp_region rfl ?_
  refine op_pure (pv_move (v := .bool _) rfl) ?_
  refine op_pure (pv_move (v := .bool _) rfl) ?_
  refine guard_yes rfl rfl ?_
  refine op_pure (pv_move (v := .int .i64 _) rfl) ?_
  refine guard_yes rfl rfl ?_
  refine op_pure (pv_fieldAddr rfl rfl rfl rfl 6 rfl) ?_
  refine guard_yes rfl rfl ?_
  refine op_loadP 0 (v := .slice _ _ _) rfl rfl rfl rfl ?_
  refine guard_yes rfl rfl ?_
  refine op_pure (pv_len rfl rfl) ?_
  refine guard_yes rfl rfl ?_
  refine op_pure (pv_of (v := .bool _) rfl) ?_
  refine op_pure (pv_pickT rfl rfl (v := .bool _) rfl) ?_
  refine xp_cond rfl (fun ht => ?_) (fun ht => ?_)
  · skip
    have hkl : k < m.pins.length := ltI ht
    obtain ⟨g, off, hA, hc⟩ := (R.q.ext (Ext.trans (Ext.trans E3 E4) E_k)).at (by omega) hkl
    obtain ⟨g2, off2, hB, hd⟩ := (R'.q.ext (Ext.trans (Ext.trans E3 E4) E_k)).at (by omega) hkl
    refine xp_skip ?_
    refine xp_seq ?_
    refine xp_block ?_
    refine xp_dw [] rfl rfl rfl ?_
    refine dw_pure (i := 0) rfl (by decide +kernel) (pv_fieldAddr rfl rfl rfl rfl 6 rfl) ?_
    refine dw_load (i := 1) rfl (by decide +kernel) ?_
    refine op_loadP 0 (v := .slice _ _ _) rfl rfl rfl rfl ?_
    refine dw_pure (i := 2) rfl (by decide +kernel) (pv_move (v := .int .i64 _) rfl) ?_
    refine dw_pure (i := 3) rfl (by decide +kernel) (pv_indexE rfl hA rfl rfl rfl (by omega) (by omega)) ?_
    refine dw_load (i := 4) rfl (by decide +kernel) ?_
    refine op_loadA rfl rfl rfl rfl (hc) ?_
    refine dw_pure (i := 5) rfl (by decide +kernel) (pv_fieldAddr rfl rfl rfl rfl 6 rfl) ?_
    refine dw_load (i := 6) rfl (by decide +kernel) ?_
    refine op_loadP 1 (v := .slice _ _ _) rfl rfl rfl rfl ?_
    refine dw_pure (i := 7) rfl (by decide +kernel) (pv_move (v := .int .i64 _) rfl) ?_
    refine dw_pure (i := 8) rfl (by decide +kernel) (pv_indexE rfl hB rfl rfl rfl (by omega) (by omega)) ?_
    refine dw_load (i := 9) rfl (by decide +kernel) ?_
    refine op_loadA rfl rfl rfl rfl (hd) ?_
    refine dw_pure (i := 10) rfl (by decide +kernel) (pv_eqA rfl rfl (by kernel_rfl) (pinSelf _)) ?_
    refine dw_pure (i := 11) rfl (by decide +kernel) (pv_assign (v := .bool _) rfl) ?_
    refine dw_end rfl ?_
    refine xp_region rfl ?_
    refine op_pure (pv_move (v := .int .i64 _) rfl) ?_
    refine op_pure (pv_arith rfl (by omega)) ?_
    refine op_pure (pv_assign (v := .int .i64 _) rfl) ?_
    refine ⟨k + 1, ⟨rfl, rfl, trivial⟩, rfl, rfl, E_k, fun h3 E3 => hkl, by first | omega | (dsimp only; omega), ?_⟩
    repeat (first | exact off_base _ _ _ | refine off_upd (by decide) ?_ | refine off_updL rfl ?_ | refine off_mix rfl ?_)
  · skip
    have hke : k = m.pins.length := by have := geI ht; omega
    subst hke
    refine xp_exit ?_
    refine xp_seq ?_
    refine xp_seq ?_
    refine xp_region rfl ?_
    refine op_pure (pv_assign (v := .int .i64 _) rfl) ?_
    refine xp_block ?_
    refine xp_loopB [5, 7, 94, 95, 96, 97, 98, 99, 100, 101, 102, 103, 104, 105, 106, 107, 108, 109, 110, 111, 112, 113, 114] 2 (α := Nat) (fun j => [(5, .bool true), (7, .int .i64 j)]) (fun j => _) (fun j h_j => j ≤ m.links.length) (fun j => m.links.length - j) (0) ⟨rfl, rfl, trivial⟩ (rfl) (Nat.zero_le _) ?_
    rintro j T2 h_j E_j J_j
    refine goes_norm [_, _] rfl ?_
    refine xp_seq ?_
    refine xp_seq ?_
    refine xp_region rfl ?_
    refine op_pure (pv_move (v := .bool _) rfl) ?_
    refine op_pure (pv_move (v := .bool _) rfl) ?_
    refine guard_yes rfl rfl ?_
    refine op_pure (pv_move (v := .int .i64 _) rfl) ?_
    refine guard_yes rfl rfl ?_
    refine op_pure (pv_fieldAddr rfl rfl rfl rfl 7 rfl) ?_
    refine guard_yes rfl rfl ?_
    refine op_loadP 0 (v := .slice _ _ _) rfl rfl rfl rfl ?_
    refine guard_yes rfl rfl ?_
    refine op_pure (pv_len rfl rfl) ?_
    refine guard_yes rfl rfl ?_
    refine op_pure (pv_of (v := .bool _) rfl) ?_
    refine op_pure (pv_pickT rfl rfl (v := .bool _) rfl) ?_
    refine xp_cond rfl (fun hj => ?_) (fun hj => ?_)
    · skip
      have hkl : j < m.links.length := ltI hj
      obtain ⟨g, off, hA, hc⟩ := (R.l.ext (Ext.trans (Ext.trans (Ext.trans E3 E4) E_k) E_j)).at (by omega) hkl
      obtain ⟨g2, off2, hB, hd⟩ := (R'.l.ext (Ext.trans (Ext.trans (Ext.trans E3 E4) E_k) E_j)).at (by omega) hkl
      refine xp_skip ?_
      refine xp_seq ?_
      refine xp_block ?_
      refine xp_dw [] rfl rfl rfl ?_
      refine dw_pure (i := 0) rfl (by decide +kernel) (pv_fieldAddr rfl rfl rfl rfl 7 rfl) ?_
      refine dw_load (i := 1) rfl (by decide +kernel) ?_
      refine op_loadP 0 (v := .slice _ _ _) rfl rfl rfl rfl ?_
      refine dw_pure (i := 2) rfl (by decide +kernel) (pv_move (v := .int .i64 _) rfl) ?_
      refine dw_pure (i := 3) rfl (by decide +kernel) (pv_indexE rfl hA rfl rfl rfl (by omega) (by omega)) ?_
      refine dw_load (i := 4) rfl (by decide +kernel) ?_
      refine op_loadA rfl rfl rfl rfl (hc) ?_
      refine dw_pure (i := 5) rfl (by decide +kernel) (pv_fieldAddr rfl rfl rfl rfl 7 rfl) ?_
      refine dw_load (i := 6) rfl (by decide +kernel) ?_
      refine op_loadP 1 (v := .slice _ _ _) rfl rfl rfl rfl ?_
      refine dw_pure (i := 7) rfl (by decide +kernel) (pv_move (v := .int .i64 _) rfl) ?_
      refine dw_pure (i := 8) rfl (by decide +kernel) (pv_indexE rfl hB rfl rfl rfl (by omega) (by omega)) ?_
      refine dw_load (i := 9) rfl (by decide +kernel) ?_
      refine op_loadA rfl rfl rfl rfl (hd) ?_
      refine dw_pure (i := 10) rfl (by decide +kernel) (pv_eqA rfl rfl (by kernel_rfl) (linkSelf _)) ?_
      refine dw_pure (i := 11) rfl (by decide +kernel) (pv_assign (v := .bool _) rfl) ?_
      refine dw_end rfl ?_
      refine xp_region rfl ?_
      refine op_pure (pv_move (v := .int .i64 _) rfl) ?_
      refine op_pure (pv_arith rfl (by omega)) ?_
      refine op_pure (pv_assign (v := .int .i64 _) rfl) ?_
      refine ⟨j + 1, ⟨rfl, rfl, trivial⟩, rfl, rfl, E_j, fun h3 E3 => hkl, by first | omega | (dsimp only; omega), ?_⟩
      repeat (first | exact off_base _ _ _ | refine off_upd (by decide) ?_ | refine off_updL rfl ?_ | refine off_mix rfl ?_)
    · skip
      refine xp_exit ?_
      refine xp_seq ?_
      refine xp_region rfl ?_
      refine op_pure (pv_move (v := .bool _) rfl) ?_
      refine op_pure (pv_assign (v := .bool _) rfl) ?_
      refine xp_ret ?_
      refine res_list (vs := [_]) Tryz.results14 ⟨resV_tmp rfl rfl, trivial⟩ fun V => ?_
      exact ⟨(Ext.trans (Ext.trans (Ext.trans (Ext.trans E3 E4) E_k) E_j) (ext_wl V)), rfl⟩
end
end Go.Proofs.YtmpahfdiebhdbaaGreatDoor
/- Walks: RodRead. Conditions: as each theorem states. -/
namespace Go.Proofs.YtmpahfdiebhdbaaGreatDoor
open Go Go.HL Go.Proofs Go.Wx Go.Rd
theorem writeM_short {size pins links : Int} {m : MachP} (D : Made size pins links m) (hp : pins ≤ 8) (hl : links ≤ 4) : (writeM m).length ≤ 400 := by
  have M := D.ok
  have b1 := D.bl
  have b2 := D.pl
  have b3 := D.ll
  have b4 := M.wl
  have b5 := M.levers
  have z0 := lineM_len [77] [m.rods, m.levers, m.regs, m.travel, m.opn]
  have z1 := flat_le btnL 7 (fun r => lineM_len [66] [r]) m.buttons
  have z2 := flat_le pinL 17 (fun r => lineM_len [80] [r.rod, r.lever, r.lag]) m.pins
  have z3 := flat_le lnkL 22 (fun r => lineM_len [76] [r.frm, r.to, r.reg, r.lag]) m.links
  have z4 := flat_le wgtL 7 (fun r => lineM_len [87] [r]) m.weights
  unfold writeM wr4 wr3 wr2 wr1 headL
  simp only [List.length_append, List.length_cons, List.length_nil] at *
  omega
section
set_option maxRecDepth 100000
set_option maxHeartbeats 4000000 in
theorem read_runs (w : World) (l : List Int) (hl : l.length < 2 ^ 63) (A : Option Addr) (c : Nat) (R : Row (absH w.heap) 1 intC A l) (t : List UInt8) (hP : Pow (absH w.heap)) (hE : Errs (absH w.heap)) : RunsTrue Tryz.prog 4 #[.slice A l.length c, .string (bs t)] w := by
  letI : Lvl := ⟨true, none, none⟩
  refine runs_body Tryz.func4 rfl Tryz.ntmps4 rfl Tryz.results4 rfl (by kernel_rfl) fun h hh => ?_
  rw [← hh] at R hP hE
  refine xp_seq ?_
  refine xp_region rfl ?_
  refine op_pure (pv_assign (v := .bool _) rfl) ?_
  refine xp_seq ?_
  refine xp_seq ?_
  refine xp_region rfl ?_
  refine op_pure (pv_move (v := .string _) rfl) ?_
  refine op_pure (pv_strlen rfl rfl) ?_
  refine op_pure (pv_of (v := .bool _) rfl) ?_
  refine xp_cond rfl (fun hlen => ?_) (fun hlen => ?_)
  · skip
    refine xp_seq ?_
    refine xp_region rfl ?_
    refine op_fn (caps := []) (vs := []) rfl rfl rfl (rod_sounding rfl h) ?_
    rintro _ h0 E0 rfl
    refine op_pure (pv_assign (v := .bool _) rfl) ?_
    refine xp_ret ?_
    exact ⟨rfl, fun V => (Ext.trans E0 (ext_wl V)), rfl⟩
  · skip
    refine xp_skip ?_
    refine xp_seq ?_
    refine xp_region rfl ?_
    refine op_pure (pv_move (v := .slice _ _ _) rfl) ?_
    refine op_fnMM [] [] [] rfl rfl rfl ((NewPot_ok l hl A c h (R.ext (Ext.refl _)))) ?_
    rintro _ h1 _ E1 ⟨b, x, rfl, rfl⟩
    refine wp_norm [_] rfl ?_
    refine op_fnMM [] [_] [] (vs := _) rfl rfl rfl ((MachineOf_ok b x 6 8 4 (by omega) (by omega) (by omega) h1)) ?_
    rintro _ h2 _ E2 ⟨x2, m, rfl, VM, Md⟩
    refine wp_norm [_] rfl ?_
    obtain ⟨AB, AQ, AL, AW, cB, cQ, cL, cW, rfl, RM⟩ := VM.open
    have M := Md.ok
    have hck : chkM m = 0 := chk_of M
    have hsh := writeM_short Md (by omega) (by omega)
    have hwv : writeV m = .tuple #[.string (bs (writeM m)), .int .i64 0] := by unfold writeV; rw [if_pos hck, hck]
    have hrw := read_write hck hsh
    have mbl := M.bl
    have mpl := M.pl
    have mll := M.ll
    have mlv := M.levers
    have mwl := M.wl
    have SM : Sml m := ⟨by omega, by omega, by omega, by omega⟩
    refine op_alloc (cs := [_, _, _, _, _, _, _, _, _]) rfl rfl fun b5 hb5 => ?_
    refine wp_norm [_, _] rfl ?_
    refine op_storeP 1 (v := .agg #[.int .i64 _, .int .i64 _, .int .i64 _, .int .i64 _, .int .i64 _, .slice _ _ _, .slice _ _ _, .slice _ _ _, .slice _ _ _]) (vs := [_, _, _, _, _, _, _, _, _]) (c' := [_, _, _, _, _, _, _, _, _]) rfl rfl rfl rfl rfl rfl rfl rfl rfl ?_
    refine wp_norm [_, _] rfl ?_
    refine xp_seq ?_
    refine xp_region rfl ?_
    refine op_loadPA 1 (vs := [.int .i64 _, .int .i64 _, .int .i64 _, .int .i64 _, .int .i64 _, .slice _ _ _, .slice _ _ _, .slice _ _ _, .slice _ _ _]) rfl rfl rfl rfl rfl ?_
    refine op_fn (caps := []) (vs := [.agg #[.int .i64 _, .int .i64 _, .int .i64 _, .int .i64 _, .int .i64 _, .slice _ _ _, .slice _ _ _, .slice _ _ _, .slice _ _ _]]) rfl rfl rfl (Write_ok m AB AQ AL AW cB cQ cL cW h2 (hP.ext (Ext.trans E1 E2)) (RM.ext (Ext.refl _)) (by omega)) ?_
    rintro v3 h3 E3 hv3
    rw [hwv] at hv3
    subst hv3
    refine op_pure (pv_move (v := .tuple #[.string _, .int .i64 _]) rfl) ?_
    refine op_pure (pv_of (v := .string _) rfl) ?_
    refine op_pure (pv_of (v := .int .i64 _) rfl) ?_
    refine op_pure (pv_assign (v := .string _) rfl) ?_
    refine op_pure (pv_assign (v := .int .i64 _) rfl) ?_
    refine xp_seq ?_
    refine xp_region rfl ?_
    refine op_pure (pv_move (v := .string _) rfl) ?_
    refine op_fn (caps := []) (vs := [.string _]) rfl rfl rfl (Read_ok (writeM m) h3 (hP.ext (Ext.trans (Ext.trans E1 E2) E3)) (hE.ext (Ext.trans (Ext.trans E1 E2) E3))) ?_
    rintro v4 h4 E4 ⟨V4, hv4, MV4⟩
    rw [hrw] at hv4 MV4
    obtain ⟨AB4, AQ4, AL4, AW4, cB4, cQ4, cL4, cW4, rfl, RM4⟩ := MV4.open
    subst hv4
    refine op_pure (pv_move (v := .tuple #[.agg #[.int .i64 _, .int .i64 _, .int .i64 _, .int .i64 _, .int .i64 _, .slice _ _ _, .slice _ _ _, .slice _ _ _, .slice _ _ _], .int .i64 _, .int .i64 _]) rfl) ?_
    refine op_pure (pv_of (v := .agg #[.int .i64 _, .int .i64 _, .int .i64 _, .int .i64 _, .int .i64 _, .slice _ _ _, .slice _ _ _, .slice _ _ _, .slice _ _ _]) rfl) ?_
    refine op_pure (pv_of (v := .int .i64 _) rfl) ?_
    refine op_pure (pv_of (v := .int .i64 _) rfl) ?_
    refine op_alloc (cs := [_, _, _, _, _, _, _, _, _]) rfl rfl fun b8 hb8 => ?_
    refine wp_norm [_, _, _] rfl ?_
    refine op_storeP 2 (v := .agg #[.int .i64 _, .int .i64 _, .int .i64 _, .int .i64 _, .int .i64 _, .slice _ _ _, .slice _ _ _, .slice _ _ _, .slice _ _ _]) (vs := [_, _, _, _, _, _, _, _, _]) (c' := [_, _, _, _, _, _, _, _, _]) rfl rfl rfl rfl rfl rfl rfl rfl rfl ?_
    refine wp_norm [_, _, _] rfl ?_
    refine op_pure (pv_assign (v := .int .i64 _) rfl) ?_
    refine op_pure (pv_assign (v := .int .i64 _) rfl) ?_
    refine xp_seq ?_
    refine xp_seq ?_
    refine xp_region rfl ?_
    refine op_pure (pv_move (v := .int .i64 _) rfl) ?_
    refine op_pure (pv_of (v := .bool _) rfl) ?_
    refine op_pure (pv_move (v := .bool _) rfl) ?_
    refine guard_yes rfl rfl ?_
    refine op_pure (pv_move (v := .int .i64 _) rfl) ?_
    refine guard_yes rfl rfl ?_
    refine op_pure (pv_of (v := .bool _) rfl) ?_
    refine op_pure (pv_pickF rfl rfl (v := .bool _) rfl) ?_
    refine op_pure (pv_move (v := .bool _) rfl) ?_
    refine guard_yes rfl rfl ?_
    refine op_pure (pv_move (v := .int .i64 _) rfl) ?_
    refine guard_yes rfl rfl ?_
    refine op_pure (pv_of (v := .bool _) rfl) ?_
    refine op_pure (pv_pickF rfl rfl (v := .bool _) rfl) ?_
    refine op_pure (pv_move (v := .bool _) rfl) ?_
    refine guard_yes rfl rfl ?_
    refine op_loadPA 1 (vs := [.int .i64 _, .int .i64 _, .int .i64 _, .int .i64 _, .int .i64 _, .slice _ _ _, .slice _ _ _, .slice _ _ _, .slice _ _ _]) rfl rfl rfl rfl rfl ?_
    refine guard_yes rfl rfl ?_
    refine op_loadPA 2 (vs := [.int .i64 _, .int .i64 _, .int .i64 _, .int .i64 _, .int .i64 _, .slice _ _ _, .slice _ _ _, .slice _ _ _, .slice _ _ _]) rfl rfl rfl rfl rfl ?_
    refine guard_yes rfl rfl ?_
    refine op_fn (caps := []) (vs := [.agg #[.int .i64 _, .int .i64 _, .int .i64 _, .int .i64 _, .int .i64 _, .slice _ _ _, .slice _ _ _, .slice _ _ _, .slice _ _ _], .agg #[.int .i64 _, .int .i64 _, .int .i64 _, .int .i64 _, .int .i64 _, .slice _ _ _, .slice _ _ _, .slice _ _ _, .slice _ _ _]]) rfl rfl rfl (SameMachines_ok m SM AB AQ AL AW cB cQ cL cW AB4 AQ4 AL4 AW4 cB4 cQ4 cL4 cW4 h4 (RM.ext (Ext.trans E3 E4)) (RM4.ext (Ext.refl _))) ?_
    rintro _ h5 E5 rfl
    refine guard_yes rfl rfl ?_
    refine op_pure (pv_of (v := .bool _) rfl) ?_
    refine op_pure (pv_pickF rfl rfl (v := .bool _) rfl) ?_
    refine xp_condF rfl (rfl) ?_
    refine xp_skip ?_
    refine xp_seq ?_
    refine xp_region rfl ?_
    refine op_pure (pv_move (v := .string _) rfl) ?_
    refine op_fn (caps := []) (vs := [.string _]) rfl rfl rfl (Read_ok t h5 (hP.ext (Ext.trans (Ext.trans (Ext.trans (Ext.trans E1 E2) E3) E4) E5)) (hE.ext (Ext.trans (Ext.trans (Ext.trans (Ext.trans E1 E2) E3) E4) E5))) ?_
    rintro v6 h6 E6 ⟨V6, hv6, MV6⟩
    obtain ⟨m6, row6, e6, hr6⟩ : ∃ m6 row6 e6, readM t = (m6, row6, e6) := ⟨_, _, _, rfl⟩
    rw [hr6] at hv6 MV6
    obtain ⟨AB6, AQ6, AL6, AW6, cB6, cQ6, cL6, cW6, rfl, RM6⟩ := MV6.open
    subst hv6
    refine op_pure (pv_move (v := .tuple #[.agg #[.int .i64 _, .int .i64 _, .int .i64 _, .int .i64 _, .int .i64 _, .slice _ _ _, .slice _ _ _, .slice _ _ _, .slice _ _ _], .int .i64 _, .int .i64 _]) rfl) ?_
    refine op_pure (pv_of (v := .agg #[.int .i64 _, .int .i64 _, .int .i64 _, .int .i64 _, .int .i64 _, .slice _ _ _, .slice _ _ _, .slice _ _ _, .slice _ _ _]) rfl) ?_
    refine op_pure (pv_of (v := .int .i64 _) rfl) ?_
    refine op_pure (pv_of (v := .int .i64 _) rfl) ?_
    refine op_alloc (cs := [_, _, _, _, _, _, _, _, _]) rfl rfl fun b11 hb11 => ?_
    refine wp_norm [_, _, _, _] rfl ?_
    refine op_storeP 3 (v := .agg #[.int .i64 _, .int .i64 _, .int .i64 _, .int .i64 _, .int .i64 _, .slice _ _ _, .slice _ _ _, .slice _ _ _, .slice _ _ _]) (vs := [_, _, _, _, _, _, _, _, _]) (c' := [_, _, _, _, _, _, _, _, _]) rfl rfl rfl rfl rfl rfl rfl rfl rfl ?_
    refine wp_norm [_, _, _, _] rfl ?_
    refine op_pure (pv_assign (v := .int .i64 _) rfl) ?_
    refine op_pure (pv_assign (v := .int .i64 _) rfl) ?_
    refine xp_seq ?_
    refine xp_seq ?_
    refine xp_region rfl ?_
    refine op_pure (pv_move (v := .int .i64 _) rfl) ?_
    refine op_pure (pv_of (v := .bool _) rfl) ?_
    refine xp_cond rfl (fun he => ?_) (fun he => ?_)
    · skip
      refine xp_seq ?_
      refine xp_region rfl ?_
      refine op_fn (caps := []) (vs := []) rfl rfl rfl (rod_sounding rfl h6) ?_
      rintro _ h7 E7 rfl
      refine op_pure (pv_assign (v := .bool _) rfl) ?_
      refine xp_ret ?_
      exact ⟨rfl, fun V => (Ext.trans (Ext.trans (Ext.trans (Ext.trans (Ext.trans (Ext.trans (Ext.trans E1 E2) E3) E4) E5) E6) E7) (ext_wl V)), rfl⟩
    · skip
      have he' : e6 = 0 := by simpa using he
      subst he'
      obtain ⟨hc6, hw6⟩ := write_read hr6
      have M6 := check_ok hc6
      have w6 := M6.wl
      have v6 := M6.levers
      have hwv6 : writeV m6 = .tuple #[.string (bs t), .int .i64 0] := by unfold writeV; rw [if_pos hc6, hc6, hw6]
      refine xp_skip ?_
      refine xp_seq ?_
      refine xp_region rfl ?_
      refine op_loadPA 3 (vs := [.int .i64 _, .int .i64 _, .int .i64 _, .int .i64 _, .int .i64 _, .slice _ _ _, .slice _ _ _, .slice _ _ _, .slice _ _ _]) rfl rfl rfl rfl rfl ?_
      refine op_fn (caps := []) (vs := [.agg #[.int .i64 _, .int .i64 _, .int .i64 _, .int .i64 _, .int .i64 _, .slice _ _ _, .slice _ _ _, .slice _ _ _, .slice _ _ _]]) rfl rfl rfl (Write_ok m6 AB6 AQ6 AL6 AW6 cB6 cQ6 cL6 cW6 h6 (hP.ext (Ext.trans (Ext.trans (Ext.trans (Ext.trans (Ext.trans E1 E2) E3) E4) E5) E6)) (RM6.ext (Ext.refl _)) (by omega)) ?_
      rintro v8 h8 E8 hv8
      rw [hwv6] at hv8
      subst hv8
      refine op_pure (pv_move (v := .tuple #[.string _, .int .i64 _]) rfl) ?_
      refine op_pure (pv_of (v := .string _) rfl) ?_
      refine op_pure (pv_of (v := .int .i64 _) rfl) ?_
      refine op_pure (pv_assign (v := .string _) rfl) ?_
      refine op_pure (pv_assign (v := .int .i64 _) rfl) ?_
      refine xp_seq ?_
      refine xp_region rfl ?_
      refine op_pure (pv_move (v := .int .i64 _) rfl) ?_
      refine op_pure (pv_of (v := .bool _) rfl) ?_
      refine op_pure (pv_move (v := .bool _) rfl) ?_
      have hg7 : decide (t = t) = true := decide_eq_true rfl
      refine guard_yes rfl rfl ?_
      refine op_pure (pv_move (v := .string _) rfl) ?_
      refine guard_yes rfl rfl ?_
      refine op_pure (pv_move (v := .string _) rfl) ?_
      refine guard_yes rfl rfl ?_
      refine op_pure (pv_streq rfl rfl) ?_
      refine op_pure (pv_pickT rfl rfl (v := .bool _) rfl) ?_
      refine op_pure (pv_move (v := .bool _) rfl) ?_
      refine guard_yes rfl hg7 ?_
      refine op_fn (caps := []) (vs := []) rfl rfl rfl (rod_sounding rfl h8) ?_
      rintro _ h9 E9 rfl
      refine op_pure (pv_pickT rfl hg7 (v := .bool _) rfl) ?_
      refine op_pure (pv_assign (v := .bool _) rfl) ?_
      refine xp_ret ?_
      exact ⟨rfl, fun V => (Ext.trans (Ext.trans (Ext.trans (Ext.trans (Ext.trans (Ext.trans (Ext.trans (Ext.trans E1 E2) E3) E4) E5) E6) E8) E9) (ext_wl V)), rfl⟩
end
end Go.Proofs.YtmpahfdiebhdbaaGreatDoor
/- The own logic, part Uk: from one good run to the contract of a row that lists variables (a law that starts goroutines). Conditions: none. -/
namespace Go.HL
open Go Go.Conc
section
variable {H : Type} {enc : TypeId × Value → H}
theorem leaving_of_change_and {a : Assume} {C : Checked} {os : Os} {f : FuncId} {fn : Func} {s : ChangeSpec} {conds : List PathCond} {apart fresh handsOn again : Bool} {X : World → Array Value → Prop}
    (hX : ∀ (w w' : World) (args : Array Value), w.heap = w'.heap → X w args → X w' args)
    (own : ownKnob C.prog.godebug = none) (started : os.Started) (hfn : C.prog.funcs[f]? = some fn)
    (witness : ∃ (w : World) (tape : Tape) (i : Input), w.os = os ∧ (w.forCall tape i).Shaped C.prog ∧ i.vars = [] ∧ Input.okWide C.prog (w.forCall tape i) .any w.heap.size f i ∧
      ((s.pre enc C.prog fn conds apart (w.forCall tape i).memory i.args ∧ X (w.forCall tape i).memory i.args) ∧ sizedMet enc C.prog fn (OpenSpec.ofChange s) apart (w.forCall tape i).memory i.args) ∧ a.holds C.prog (lone (Frame.enter C.prog f i.args .normal) [] (w.forCall tape i)))
    (runs : ∀ (W : World) (base : Nat) (args : Array Value) (ds gs : List (DataW H)) (before : List MemPlace),
      (∀ (j : Nat) t v, fn.params[j]? = some t → args[j]? = some v → Value.okWide C.prog W .any base t v) →
      DataW.Whole enc C.prog fn.params.toList s.vars apart W args.toList ds gs before →
      conds.all (PathCond.test C.prog ⟨fn.params.toList, ds, s.plain.varTypes C.prog, gs⟩) = true → X W args →
      a.holds C.prog (lone (Frame.enter C.prog f args .normal) [] W) →
      ∃ M last o w' t', runNT C.prog (M + 1) (solo (G (Frame.enter C.prog f args .normal) []) W) #[] = (.ended o w', t') ∧ runN C.prog M (solo (G (Frame.enter C.prog f args .normal) []) W) = .next last ∧
        step C.prog last = .ended o w' ∧ Conc.Good C.prog (fun v W' => s.post enc C.prog fn apart fresh handsOn again W args v W') last o w' t') :
    ReturnsInLeavingWide a C os f .any (fun w args => (s.pre enc C.prog fn conds apart w args ∧ X w args) ∧ sizedMet enc C.prog fn (OpenSpec.ofChange s) apart w args) (s.post enc C.prog fn apart fresh handsOn again) := by
  refine returnsInLeavingWide_of_good own started witness ?_
  intro w tape i _ _ _ hok hpre hholds
  obtain ⟨_, _, _, fn', hfn', _, _, _, _, hval⟩ := hok
  have e : fn' = fn := Option.some.inj (hfn'.symm.trans hfn)
  subst e
  obtain ⟨⟨⟨ds, gs, before, hw, hc⟩, hx⟩, _⟩ := hpre
  have hw' := DataW.Whole.of_heap (w' := w.forCall tape i) (by rfl) hw
  obtain ⟨M, last, o, w', t', h1, h2, h3, h4⟩ := runs (w.forCall tape i) w.heap.size i.args ds gs before hval hw' hc (hX _ _ _ (by rfl) hx) hholds
  exact ⟨M, last, o, w', t', h1, h2, h3, h4.mono fun v hp => ChangeSpec.post_blind hp⟩
end
/-- A tied card of a row whose calls may start goroutines. -/
theorem tied_goes {p : Pinned} {s : OpenSpec} {c : OpenClaim} (kinds : List LaidKind) (tests : Bool) (har : Bool × String) (lk : Bool)
    (hc : c.holds p s) (hw : c.wfByText s = true) (htie : c.laidByTextAt .later p kinds tests)
    (hst : c.start = .entering) (hnb : c.noBlocks = false ∧ c.again = false) (hm : p.checked.prog.mainIs = some (har.1, har.2.toList)) (hn : (!har.1 && har.2.isEmpty && !lk) = false)
    (hl : ∀ f fn, p.checked.prog.funcNamed c.func = some f → p.checked.prog.funcs[f]? = some fn → lk = p.checked.prog.looks [] ∧ ∀ (j : Nat) t, fn.params[j]? = some t → p.checked.prog.wantsStandIn t = false)
    (hg : true = c.goesBy p.checked.prog) :
    Claim7.holds p (.plain s) { stood := { row := c, standIns := [], harness := har, looks := lk }, kinds := [], alts := [], goes := true, laidByText := true, laidKinds := kinds, laidTests := tests, laidLooks := .later } := by
  have h6 : Claim7.isSixth { stood := { row := c, standIns := [], harness := har, looks := lk }, kinds := [] } = false := by simpa [Claim7.isSixth] using hn
  exact ⟨Claim7.tied_new_at .later kinds tests (Claim7.new_of_sixth hc har lk hst hnb hm h6 hl) hw, fun D hD => (by cases hD), htie, (fun h => by cases h), hg⟩
end Go.HL
/- The own logic, part Ud: machines, hands, links, events and what was heard, read out of a row's arguments. Conditions: none. -/
namespace Go.HL
open Go Go.Wx Go.RowKit Go.ChangeShapes Go.WideShapes
variable [Lvl]
section
variable {H : Type} {enc : TypeId × Value → H} {P : Program} {w : World} {base : Nat} {spare : Nat → Bool} {held : Bool}
theorem row_sliceC {α : Type} (en : α → List Value) {t e : TypeId} {m fuel : Nat} {cs : List Value} {x : DataW H × List MemPlace} (ht : P.underlying t = some (.slice e)) (hc : P.cellsOf e = m) (hm : 0 < m) (he : ∀ a, (en a).length = m)
    (leaf : ∀ n cs x, DataW.trod enc P w base spare held n e cs = some x → ∃ a, cs = en a) (h : DataW.trod enc P w base spare held fuel t cs = some x) :
    ∃ (A : Option Addr) (len cap : Nat) (l : List α), cs = [.slice A len cap] ∧ l.length = len ∧ Row (absH w.heap) m en A l ∧ len ≤ cap ∧ cap ≤ maxLen := by
  rcases Go.Deep.open_slice ht h with ⟨rfl, _⟩ | ⟨a, len, cap, mm, n, D, Pl, rfl, hb, hl, hmx, hmm, _, hel⟩
  · exact ⟨none, 0, 0, [], rfl, rfl, ⟨fun _ h => (by cases h), Rd.nil _ _⟩, Nat.le_refl _, Nat.zero_le _⟩
  · have hlm : len ≤ mm := by rw [hmm]; split <;> omega
    have key : ∀ i : _root_.Fin len, ∃ v : α, w.cells? base (a.add (i.val * m)) m = some (en v) := by
      intro i
      obtain ⟨cs', h1, h2⟩ := hel i.val (by have := i.isLt; omega)
      obtain ⟨v, rfl⟩ := leaf _ _ _ h2
      rw [hc] at h1
      exact ⟨v, h1⟩
    let l := List.ofFn fun i : _root_.Fin len => Classical.choose (key i)
    have hll : l.length = len := by simp [l]
    have hat : ∀ (i : Nat) (hi : i < l.length), w.cells? base (a.add (i * m)) m = some (en l[i]) := by
      intro i hi
      have := Classical.choose_spec (key ⟨i, by omega⟩)
      simpa [l] using this
    refine ⟨some a, len, cap, l, rfl, hll, ⟨fun x _ => he x, fun hne => ?_⟩, hl, hmx⟩
    have hpos : 0 < l.length := by
      rcases Nat.eq_zero_or_pos l.length with h0 | h0
      · rw [List.eq_nil_of_length_eq_zero h0] at hne; simp at hne
      · exact h0
    obtain ⟨g, off, sp⟩ := a
    have h0 := hat 0 hpos
    obtain ⟨_, _, hcell⟩ := World.cells?_some h0
    have h00 := hcell 0 hm
    rw [Go.Deep.add_add, Nat.zero_mul, Nat.add_zero, List.getElem?_eq_getElem (by rw [he]; exact hm)] at h00
    have hsp : sp = none := by
      cases sp with
      | none => rfl
      | some s =>
        exfalso
        have : w.cell? ((⟨g, off, some s⟩ : Addr).add 0) = none := by
          simp only [Addr.add]
          rw [cell_abs]
          unfold cellA
          split <;> simp
        rw [this] at h00
        cases h00
    subst hsp
    refine ⟨g, off, rfl, fun j u hu => ?_⟩
    have hj : j < l.length * m := by
      have := (List.getElem?_eq_some_iff.1 hu).1
      rwa [flat_len (fun x _ => he x)] at this
    have hi : j / m < l.length := Nat.div_lt_of_lt_mul (by rw [Nat.mul_comm]; exact hj)
    have hr : j % m < m := Nat.mod_lt _ hm
    have hjm : j / m * m + j % m = j := by rw [Nat.mul_comm]; exact Nat.div_add_mod j m
    obtain ⟨_, _, hcl⟩ := World.cells?_some (hat (j / m) hi)
    have h1 := hcl (j % m) hr
    have h2 : (en l[j / m])[j % m]? = some ((en l[j / m])[j % m]'(by rw [he]; exact hr)) := List.getElem?_eq_getElem _
    have h3 := flat_get en m l (fun x _ => he x) (j / m) _ (List.getElem?_eq_getElem hi) (j % m) _ h2
    rw [hjm, hu] at h3
    rw [h2, ← h3, Go.Deep.add_add, hjm, cell_abs, add_none] at h1
    exact h1
end
end Go.HL

namespace Go.Rd
structure EvP where
  kind : Int
  which : Int
end Go.Rd
namespace Go.Proofs.YtmpahfdiebhdbaaGreatDoor
open Go Go.HL Go.Wx Go.Rd Go.RowKit Go.ChangeShapes Go.WideShapes
variable [Lvl]
set_option maxRecDepth 100000
theorem cellsT_int : Tryz.prog.cellsOf 3 = 1 := by kernel_rfl
section
variable {H : Type} {enc : TypeId × Value → H} {w : World} {base : Nat} {spare : Nat → Bool} {held : Bool}
theorem leaf_int {n : Nat} {cs : List Value} {x : DataW H × List MemPlace} (h : DataW.trod enc Tryz.prog w base spare held n 3 cs = some x) : ∃ z : Int, cs = [.int .i64 z] := by
  obtain ⟨z, e, _⟩ := DataW.trod_int Tryz.underlying3 h
  exact ⟨z, e⟩
theorem ints_in {r : Reach} {b0 : Nat} {v : Value} {d : DataW H} {p : List MemPlace} (hv : Value.okWide Tryz.prog w r b0 22 v) (h : DataW.Trod enc Tryz.prog w base spare held 22 v d p) :
    ∃ (l : List Int) (A : Option Addr) (c : Nat), v = .slice A l.length c ∧ Row (absH w.heap) 1 intC A l ∧ l.length ≤ maxLen := by
  obtain ⟨a0, len0, cap0, rfl⟩ := okWide_slice Tryz.underlying22 hv
  obtain ⟨fuel, hf⟩ := h
  obtain ⟨A, n, c, l, e, k, R, h1, h2⟩ := row_sliceC intC Tryz.underlying22 cellsT_int (by omega) (fun _ => rfl) (fun _ _ _ => leaf_int) hf
  have hcs : (Value.slice a0 len0 cap0).cells.toList = [.slice a0 len0 cap0] := rfl
  rw [hcs] at e
  simp at e
  obtain ⟨rfl, rfl, rfl⟩ := e
  subst k
  exact ⟨l, _, _, rfl, R, Nat.le_trans h1 h2⟩
end
end Go.Proofs.YtmpahfdiebhdbaaGreatDoor
