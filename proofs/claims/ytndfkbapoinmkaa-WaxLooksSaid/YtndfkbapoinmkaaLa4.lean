/- An own logic over the model, its walks and its plain laws, joined of parts W17 W18 Sy W19 Sz W20 W21 W22 BB W23 W24 Ta W25 Tb Tc Td U CC W26 Te W27 W28 Tf. Conditions: as each theorem states. -/
import Derived.Test.YtndfkbapoinmkaaLa3
import Derived.Test.YtndfkbapoinmkaaLa1
import Derived.Test.YtndfkbapoinmkaaLa2
set_option linter.all false
/- Walks: copies that are owned; the fewest weeks. Conditions: as each theorem states. -/
namespace Go.Proofs.Ytndfkbapoinmkaa
open Go Go.HL Go.Proofs Go.Wx
set_option maxRecDepth 100000
theorem accR_new {e : TypeId} {m : Nat} {b : Nat} : AccR e m [] ⟨some (b, .cells ([] : List Value).toArray e (0, 0)), some ⟨b, 0, none⟩, 0, 0⟩ := accp_new
theorem cloneIntO (l : List Int) (A : Option Addr) (c : Nat) (h : AH) (R : Row h 1 intC A l) (hl : l.length < 2 ^ 20) :
    FnM Try.prog (.func (.func 133) #[] ([] : List Value).toArray) [.slice A l.length c] h [] (fun v h' M' => ∃ a : Acc, M' = [a.p] ∧ v = .slice a.A a.n a.c ∧ AccR 3 1 (l.flatMap intC) a) := by
  cases A with
  | none =>
    have h0 := R.none_nil (by omega)
    subst h0
    refine fnM_body rfl rfl Try.func133 rfl Try.ntmps133 rfl ?_
    refine xp_seq ?_
    refine xp_region rfl ?_
    refine op_pure (pv_assign (v := .slice _ _ _) rfl) ?_
    refine xp_seq ?_
    refine xp_seq ?_
    refine xp_region rfl ?_
    refine op_pure (pv_move (v := .slice _ _ _) rfl) ?_
    refine op_pure (pv_of (v := .bool _) rfl) ?_
    refine xp_cond rfl (fun ht => ?_) (fun ht => ?_)
    · skip
      refine xp_seq ?_
      refine xp_region rfl ?_
      refine op_pure (pv_assign (v := .slice _ _ _) rfl) ?_
      refine xp_ret ?_
      refine res_list (vs := [_]) Try.results133 ⟨resV_tmp rfl rfl, trivial⟩ fun V => ?_
      exact ⟨_, [none], rfl, V, (Ext.refl _), acc0, rfl, rfl, accR0⟩
    · cases ht
  | some a =>
    refine fnM_body rfl rfl Try.func133 rfl Try.ntmps133 rfl ?_
    refine xp_seq ?_
    refine xp_region rfl ?_
    refine op_pure (pv_assign (v := .slice _ _ _) rfl) ?_
    refine xp_seq ?_
    refine xp_seq ?_
    refine xp_region rfl ?_
    refine op_pure (pv_move (v := .slice _ _ _) rfl) ?_
    refine op_pure (pv_of (v := .bool _) rfl) ?_
    refine xp_cond rfl (fun ht => ?_) (fun ht => ?_)
    · cases ht
    · skip
      refine xp_skip ?_
      refine xp_seq ?_
      refine xp_region rfl ?_
      refine op_buildSlice (zc := [_]) (vs := []) (cs := []) rfl rfl rfl rfl rfl rfl rfl fun b5 hb5 => ?_
      refine wp_norm [_] rfl ?_
      refine op_pure (pv_move (v := .slice _ _ _) rfl) ?_
      refine op_appendR 0 accR_new rfl rfl rfl (fun V => R.2.ext (ext_wl V)) (flat_len R.1) (flat_plain intP l) rfl rfl rfl rfl rfl rfl rfl (by omega) rfl (by rw [flat_len R.1, List.length_nil]; omega) fun a2 h1a E1a ha2 => ?_
      refine wp_norm [_] rfl ?_
      refine op_pure (pv_assign (v := .slice _ _ _) rfl) ?_
      refine xp_ret ?_
      refine res_list (vs := [_]) Try.results133 ⟨resV_tmp rfl rfl, trivial⟩ fun V => ?_
      exact ⟨_, [_], rfl, V, E1a, a2, rfl, rfl, ha2⟩
theorem fnM_args {P : Program} {y : Value} {vs vs' : List Value} {h : AH} {M : Pv} {R : Value → AH → Pv → Prop} (e : vs = vs') (c : FnM P y vs h M R) : FnM P y vs' h M R := e ▸ c
/-- What a closure that judges a list owes. -/
def Will (y : Value) (h0 : AH) (p : List Int → Bool) : Prop := ∀ h, Ext h0 h → Fin h → ∀ (l : List Int) (B : Option Addr) (c : Nat), Row h 1 intC B l → l.length ≤ 20 → CallV Try.prog y [.slice B l.length c] h (fun v h' => Ext h h' ∧ v = .bool (p l)) noE
theorem Will.ext {y : Value} {h h' : AH} {p : List Int → Bool} (w : Will y h p) (E : Ext h h') : Will y h' p := fun h1 E1 => w h1 (E.trans E1)
/-- The blocks that the closure grow reads. -/
structure FewB (h : AH) (n : Nat) (y : Value) (bN bW bG bF bD : Nat) : Prop where
  c1 : h bN = some (.cells #[.int .i64 n] 3 (0, 0))
  c2 : ∃ t, h bW = some (.cells #[y] t (0, 0))
  c3 : ∃ t, h bG = some (.cells #[.func (.func 132) #[] #[.pointer (some ⟨bD, 0, none⟩), .pointer (some ⟨bW, 0, none⟩), .pointer (some ⟨bF, 0, none⟩), .pointer (some ⟨bN, 0, none⟩), .pointer (some ⟨bG, 0, none⟩)]] t (0, 0))
theorem FewB.ext {h h' : AH} {n : Nat} {y : Value} {bN bW bG bF bD : Nat} (B : FewB h n y bN bW bG bF bD) (E : Ext h h') : FewB h' n y bN bW bG bF bD :=
  ⟨E _ _ B.c1, B.c2.imp fun _ e => E _ _ e, B.c3.imp fun _ e => E _ _ e⟩
/-- The blocks that it writes. -/
def FewI (bF bD : Nat) (o : Option (List Int)) (h : AH) (M : Pv) : Prop := ∃ FA fc, M = [some (bF, .cells #[.slice FA (o.getD []).length fc] 27 (0, 0)), some (bD, .cells #[.bool o.isSome] 4 (0, 0))] ∧ Row h 1 intC FA (o.getD [])
set_option maxHeartbeats 4000000 in
theorem fewest1_ok (n : Nat) (hn : n ≤ 7) (p : List Int → Bool) (y : Value) (h0 : AH) (W : Will y h0 p) (bN bW bG bF bD : Nat) :
    ∀ (m a : Nat) (begun : List Int) (B : Option Addr) (cB : Nat) (o : Option (List Int)) (h : AH) (M : Pv), Ext h0 h → FewB h n y bN bW bG bF bD → Row h 1 intC B begun → begun.length + m ≤ 20 → a ≤ 20 → FewI bF bD o h M →
      FnM Try.prog (.func (.func 132) #[] [.pointer (some ⟨bD, 0, none⟩), .pointer (some ⟨bW, 0, none⟩), .pointer (some ⟨bF, 0, none⟩), .pointer (some ⟨bN, 0, none⟩), .pointer (some ⟨bG, 0, none⟩)].toArray) [.slice B begun.length cB, .int .i64 a, .int .i64 m] h M
        (fun _ h' M' => FewI bF bD (o.or ((combsM n m a begun).find? p)) h' M') := by
  intro m
  induction m with
  | zero =>
    intro a begun B cB o h M E0 FB RB hb ha I
    obtain ⟨FA, fc, rfl, RF⟩ := I
    obtain ⟨t2, c2⟩ := FB.c2
    cases o with
    | some x =>
      refine fnM_body rfl rfl Try.func132 rfl Try.ntmps132 rfl ?_
      refine xp_seq ?_
      refine xp_seq ?_
      refine xp_region rfl ?_
      refine op_pure (pv_move (v := .int .i64 _) rfl) ?_
      refine op_pure (pv_of (v := .bool _) rfl) ?_
      refine xp_condT rfl (rfl) ?_
      refine xp_seq ?_
      refine xp_seq ?_
      refine xp_region rfl ?_
      refine op_loadP 1 (v := .bool _) rfl rfl rfl rfl ?_
      refine op_pure (pv_of (v := .bool _) rfl) ?_
      refine op_pure (pv_move (v := .bool _) rfl) ?_
      refine guard_no rfl rfl ?_
      refine guard_no rfl rfl ?_
      refine guard_no rfl rfl ?_
      refine op_pure (pv_pickF rfl rfl (v := .bool _) rfl) ?_
      refine xp_condF rfl (by decide) ?_
      refine xp_skip ?_
      refine xp_ret ?_
      refine res_list (vs := []) Try.results132 trivial fun V => ?_
      exact ⟨_, _, rfl, V, (Ext.refl _), FA, fc, rfl, RF⟩
    | none =>
      refine fnM_body rfl rfl Try.func132 rfl Try.ntmps132 rfl ?_
      refine xp_seq ?_
      refine xp_seq ?_
      refine xp_region rfl ?_
      refine op_pure (pv_move (v := .int .i64 _) rfl) ?_
      refine op_pure (pv_of (v := .bool _) rfl) ?_
      refine xp_condT rfl (rfl) ?_
      refine xp_seq ?_
      refine xp_seq ?_
      refine xp_region rfl ?_
      refine op_loadP 1 (v := .bool _) rfl rfl rfl rfl ?_
      refine op_pure (pv_of (v := .bool _) rfl) ?_
      refine op_pure (pv_move (v := .bool _) rfl) ?_
      refine guard_yes rfl rfl ?_
      refine op_load (v := y) rfl rfl (by simp only [cellA, c2]; rfl) ?_
      refine guard_yes rfl rfl ?_
      refine op_pure (pv_move (v := .slice _ _ _) rfl) ?_
      refine guard_yes rfl rfl ?_
      refine op_callV rfl rfl (fun f => W h E0 f begun B cB RB (by omega)) ?_
      rintro _ h1 E1 rfl
      refine op_pure (pv_pickT rfl rfl (v := .bool _) rfl) ?_
      refine xp_cond rfl (fun hp => ?_) (fun hp => ?_)
      · skip
        refine xp_region rfl ?_
        refine op_pure (pv_move (v := .slice _ _ _) rfl) ?_
        refine op_storeP 0 (v := .slice _ _ _) (vs := [_]) (c' := [_]) rfl rfl rfl rfl rfl rfl rfl rfl rfl ?_
        refine wp_norm [_, _] rfl ?_
        refine op_storeP 1 (v := .bool _) (vs := [_]) (c' := [_]) rfl rfl rfl rfl rfl rfl rfl rfl rfl ?_
        refine wp_norm [_, _] rfl ?_
        refine xp_ret ?_
        refine res_list (vs := []) Try.results132 trivial fun V => ?_
        refine ⟨_, _, rfl, V, E1, B, cB, ?_, by simpa [combsM, hp] using RB.ext E1⟩
        simp [combsM, hp]
      · skip
        refine xp_skip ?_
        refine xp_ret ?_
        refine res_list (vs := []) Try.results132 trivial fun V => ?_
        refine ⟨_, _, rfl, V, E1, FA, fc, ?_, by simpa [combsM, hp] using RF.ext E1⟩
        simp [combsM, hp]
  | succ m ih =>
    intro a begun B cB o h M E0 FB RB hb ha I
    obtain ⟨FA, fc, rfl, RF⟩ := I
    obtain ⟨t3, c3⟩ := FB.c3
    refine fnM_body rfl rfl Try.func132 rfl Try.ntmps132 rfl ?_
    refine xp_seq ?_
    refine xp_seq ?_
    refine xp_region rfl ?_
    refine op_pure (pv_move (v := .int .i64 _) rfl) ?_
    refine op_pure (pv_of (v := .bool _) rfl) ?_
    refine xp_condF rfl (by simp; omega) ?_
    refine xp_skip ?_
    refine xp_seq ?_
    refine xp_region rfl ?_
    refine op_pure (pv_move (v := .int .i64 _) rfl) ?_
    refine op_pure (pv_assign (v := .int .i64 _) rfl) ?_
    refine xp_block ?_
    refine xp_loopL [11, 23, 24, 25, 26, 27, 28, 29, 30, 31, 32, 33, 34, 35, 36, 37, 38, 39, 40, 41, 42] 2 (α := Nat × Option Addr × Nat) (fun ⟨k, FA, fc⟩ => [(11, .int .i64 ((a + k : Nat) : Int))]) (fun ⟨k, FA, fc⟩ L => (L.set 0 (some (bF, .cells #[.slice FA ((grownM (fun i => combsM n m (i + 1) (begun ++ [(i : Int)])) p a o k).getD []).length fc] 27 (0, 0)))).set 1 (some (bD, .cells #[.bool (grownM (fun i => combsM n m (i + 1) (begun ++ [(i : Int)])) p a o k).isSome] 4 (0, 0)))) (fun ⟨k, FA, fc⟩ h_k => k ≤ n - a ∧ Row h_k 1 intC FA ((grownM (fun i => combsM n m (i + 1) (begun ++ [(i : Int)])) p a o k).getD [])) (fun ⟨k, FA, fc⟩ => n - a - k) ((0, FA, fc)) ⟨rfl, trivial⟩ (rfl) (⟨Nat.zero_le _, RF⟩) ?_
    rintro ⟨k, FA, fc⟩ T1 h_k E_k J_k
    refine goes_norm [_, _] rfl ?_
    obtain ⟨K1, K2⟩ := J_k
    refine xp_seq ?_
    refine xp_seq ?_
    refine xp_region rfl ?_
    refine op_pure (pv_move (v := .int .i64 _) rfl) ?_
    refine op_load (v := .int .i64 _) rfl rfl (by simp only [cellA, (FB.ext E_k).c1]; rfl) ?_
    refine op_pure (pv_of (v := .bool _) rfl) ?_
    refine op_pure (pv_move (v := .bool _) rfl) ?_
    rcases Bool.eq_false_or_eq_true (decide (((a + k : Nat) : Int) < (n : Int))) with ht | ht
    · skip
      have hlt : a + k < n := by have := of_decide_eq_true ht; omega
      refine guard_yes rfl ht ?_
      refine op_loadP 1 (v := .bool _) rfl rfl rfl rfl ?_
      refine guard_yes rfl ht ?_
      refine op_pure (pv_of (v := .bool _) rfl) ?_
      refine op_pure (pv_pickT rfl ht (v := .bool _) rfl) ?_
      refine xp_cond rfl (fun hd => ?_) (fun hd => ?_)
      · skip
        refine xp_skip ?_
        refine xp_seq ?_
        refine xp_block ?_
        refine xp_dw [false, false, true] rfl rfl rfl ?_
        refine dw_load (i := 0) rfl (by decide +kernel) ?_
        refine op_load (v := .func _ _ _) rfl rfl (by simp only [cellA, E_k _ _ c3]; rfl) ?_
        refine dw_pure (i := 1) rfl (by decide +kernel) (pv_move (v := .slice _ _ _) rfl) ?_
        refine dw_pure (i := 3) rfl (by decide +kernel) (pv_move (v := .int .i64 _) rfl) ?_
        refine dw_pure (i := 6) rfl (by decide +kernel) (pv_move (v := .int .i64 _) rfl) ?_
        refine dw_pure (i := 7) rfl (by decide +kernel) (pv_arith rfl (by omega)) ?_
        refine dw_pure (i := 8) rfl (by decide +kernel) (pv_move (v := .int .i64 _) rfl) ?_
        refine dw_pure (i := 9) rfl (by decide +kernel) (pv_arith rfl (by omega)) ?_
        refine dw_eff (i := 2) rfl (by decide +kernel) ?_
        refine op_fnMM [_, _] [] [] rfl rfl rfl (cloneIntO begun B cB h_k (RB.ext E_k) (by omega)) ?_
        rintro _ h5 _ E5 ⟨a1, rfl, rfl, ha1⟩
        refine ⟨ext_wlm E5 _, ?_⟩
        refine dw_norm [_, _, _] rfl ?_
        refine dw_eff (i := 4) rfl (by decide +kernel) ?_
        refine op_buildSlice (zc := [_]) (vs := [(0, .int .i64 _)]) (cs := [_]) rfl rfl rfl rfl rfl rfl rfl fun b36 hb36 => ?_
        refine ⟨ext_newM hb36 _, ?_⟩
        refine dw_norm [_, _, _, _] rfl ?_
        refine dw_eff (i := 5) rfl (by decide +kernel) ?_
        refine op_appendR 2 ha1 rfl rfl rfl (fun V => rdP V (i := 3) rfl) rfl rfl rfl rfl rfl rfl rfl rfl rfl (by omega) rfl (by rw [flat_len (m := 1) (fun _ _ => rfl)]; simp; omega) fun a2 h2a E2a ha2 => ?_
        refine ⟨ext_wlm E2a _, ?_⟩
        refine dw_norm [_, _, _, _] rfl ?_
        have hfm : begun.flatMap intC ++ [Value.int .i64 ((a + k : Nat) : Int)] = (begun ++ [((a + k : Nat) : Int)]).flatMap intC := by rw [List.flatMap_append]; rfl
        obtain ⟨b2, len2, cap2, junk2, hl2, rfl⟩ := AccR.some ha2 (by simp)
        have e2 : len2 = (begun ++ [((a + k : Nat) : Int)]).length := by rw [hfm, flat_len (m := 1) (fun _ _ => rfl)] at hl2; omega
        subst e2
        refine dw_pubM 2 rfl ?_
        intro h6 E6 p6
        refine dw_norm [_, _, _, _] rfl ?_
        have R2 : Row h6 1 intC (some ⟨b2, 0, none⟩) (begun ++ [((a + k : Nat) : Int)]) := ⟨fun _ _ => rfl, by rw [← hfm]; exact AccR.rd ha2 (fun b o e => by cases e; exact p6)⟩
        refine dw_last (i := 10) rfl (by decide +kernel) (by decide +kernel) ?_
        refine op_fnMM [] [_, _] [_, _] (vs := [.slice _ _ _, .int .i64 _, .int .i64 _]) rfl rfl rfl (fnM_args (by simp only [List.cons.injEq, Value.int.injEq, true_and, and_true]; omega) (ih (a + k + 1) (begun ++ [((a + k : Nat) : Int)]) _ cap2 _ h6 _ (Ext.trans E0 (Ext.trans (Ext.trans (Ext.trans E_k E5) E2a) E6)) (FB.ext (Ext.trans (Ext.trans (Ext.trans E_k E5) E2a) E6)) R2 (by simp; omega) (by omega) ⟨FA, fc, rfl, K2.ext (Ext.trans (Ext.trans E5 E2a) E6)⟩)) ?_
        rintro _ h7 _ E7 ⟨FA2, fc2, rfl, R7⟩
        refine dw_norm [_, _, _, _] rfl ?_
        refine dw_end rfl ?_
        refine xp_region rfl ?_
        refine op_pure (pv_move (v := .int .i64 _) rfl) ?_
        refine op_pure (pv_arith rfl (by omega)) ?_
        refine op_pure (pv_assign (v := .int .i64 _) rfl) ?_
        refine ⟨(k + 1, FA2, fc2), ⟨intE (by omega), trivial⟩, rfl, rfl, (Ext.trans (Ext.trans (Ext.trans (Ext.trans E_k E5) E2a) E6) E7), fun h3 E3 => ⟨by omega, R7.ext E3⟩, by first | omega | (dsimp only; omega), ?_⟩
        repeat (first | exact off_base _ _ _ | refine off_upd (by decide) ?_ | refine off_updL rfl ?_ | refine off_mix rfl ?_)
      · skip
        have hd' : (grownM (fun i => combsM n m (i + 1) (begun ++ [(i : Int)])) p a o k).isSome = true := by simpa using hd
        have hst := grownM_stop hd' (n - a - k)
        rw [show k + (n - a - k) = n - a by omega, grownM_eq] at hst
        refine xp_exit ?_
        refine res_list (vs := []) Try.results132 trivial fun V => ?_
        exact ⟨_, [_, _], rfl, V, E_k, FA, fc, by rw [combsM, hst], by rw [combsM, hst]; exact K2⟩
    · skip
      have hk : k = n - a := by have := of_decide_eq_false ht; omega
      subst hk
      rw [grownM_eq] at K2
      refine guard_no rfl ht ?_
      refine guard_no rfl ht ?_
      refine op_pure (pv_pickF rfl ht (v := .bool _) rfl) ?_
      refine xp_condF rfl (rfl) ?_
      refine xp_exit ?_
      refine res_list (vs := []) Try.results132 trivial fun V => ?_
      exact ⟨_, [_, _], rfl, V, E_k, FA, fc, by rw [combsM, grownM_eq], by rw [combsM]; exact K2⟩
end Go.Proofs.Ytndfkbapoinmkaa
/- Walks: the fewest weeks; when to look. Conditions: as each theorem states. -/
namespace Go.Proofs.Ytndfkbapoinmkaa
open Go Go.HL Go.Proofs Go.Wx
set_option maxRecDepth 100000
set_option maxHeartbeats 4000000 in
theorem fewest_ok (n : Nat) (hn : n ≤ 7) (p : List Int → Bool) (fn : Fn) (fs cs : Array Value) (h : AH) (W : Will (.func fn fs cs) h p) :
    FnT Try.prog 101 #[.int .i64 n, .func fn fs cs] h (fun v h' => ∃ w, v = .tuple #[w, .bool (fewestP n p (n + 1)).isSome] ∧ SlR h' 1 intC ((fewestP n p (n + 1)).getD []) w) := by
  refine call_body Try.func101 rfl Try.ntmps101 rfl ?_
  refine xp_seq ?_
  refine xp_region rfl ?_
  refine op_box (v := .int .i64 _) (cs := [_]) rfl rfl fun b2 hb2 => ?_
  refine wp_norm [_] rfl ?_
  refine op_box (v := _) (cs := [_]) rfl rfl fun b3 hb3 => ?_
  refine wp_norm [_, _] rfl ?_
  refine op_pure (pv_assign (v := .slice _ _ _) rfl) ?_
  refine op_pure (pv_assign (v := .bool _) rfl) ?_
  refine xp_scope ?_
  refine xp_seq ?_
  refine xp_region rfl ?_
  refine op_alloc (cs := [_]) rfl rfl fun b6 hb6 => ?_
  refine wp_norm [_, _, _] rfl ?_
  refine xp_seq ?_
  refine xp_region rfl ?_
  refine op_alloc (cs := [_]) rfl rfl fun b7 hb7 => ?_
  refine wp_norm [_, _, _, _] rfl ?_
  refine op_storeP 3 (v := .bool _) (vs := [_]) (c' := [_]) rfl rfl rfl rfl rfl rfl rfl rfl rfl ?_
  refine wp_norm [_, _, _, _] rfl ?_
  refine xp_seq ?_
  refine xp_region rfl ?_
  refine op_alloc (cs := [_]) rfl rfl fun b8 hb8 => ?_
  refine wp_norm [_, _, _, _, _] rfl ?_
  refine xp_seq ?_
  refine xp_region rfl ?_
  refine op_pure (pv_makeFunc (vs := []) (ws := [_, _, _, _, _]) rfl rfl) ?_
  refine op_storeP 4 (v := _) (vs := [_]) (c' := [_]) rfl rfl rfl rfl rfl rfl rfl rfl rfl ?_
  refine wp_norm [_, _, _, _, _] rfl ?_
  refine xp_seq ?_
  refine xp_label ?_
  refine goes_pub 0 rfl ?_
  intro h1 E1 p1
  refine goes_pub 1 rfl ?_
  intro h2 E2 p2
  refine goes_pub 4 rfl ?_
  intro h3 E3 p3
  have FB : FewB h3 n (.func fn fs cs) b2 b3 b8 b6 b7 := ⟨(Ext.trans E2 E3) _ _ p1, ⟨_, E3 _ _ p2⟩, ⟨_, p3⟩⟩
  refine xp_seq ?_
  refine xp_seq ?_
  refine xp_region rfl ?_
  refine op_load (v := .int .i64 _) rfl rfl (by simp only [cellA, FB.c1]; rfl) ?_
  refine op_pure (pv_arith rfl (by omega)) ?_
  refine op_pure (pv_move (v := .int .i64 _) rfl) ?_
  refine xp_block ?_
  refine xp_loopL [9, 13, 14, 15, 16, 17, 18, 19, 20] 5 (α := Nat × Option Addr × Nat) (fun ⟨k, FA, fc⟩ => [(13, .int .i64 k)]) (fun ⟨k, FA, fc⟩ L => (L.set 2 (some (b6, .cells #[.slice FA ((fewestP n p k).getD []).length fc] 27 (0, 0)))).set 3 (some (b7, .cells #[.bool (fewestP n p k).isSome] 4 (0, 0)))) (fun ⟨k, FA, fc⟩ h_k => k ≤ n + 1 ∧ Row h_k 1 intC FA ((fewestP n p k).getD [])) (fun ⟨k, FA, fc⟩ => n + 1 - k) ((0, none, 0)) ⟨rfl, trivial⟩ (rfl) (⟨by omega, ⟨fun _ h => (by cases h), Rd.nil _ _⟩⟩) ?_
  rintro ⟨k, FA, fc⟩ T1 h_k E_k J_k
  refine goes_norm [_, _, _, _, _] rfl ?_
  obtain ⟨K1, K2⟩ := J_k
  obtain ⟨t8, c8⟩ := (FB.ext E_k).c3
  refine xp_seq ?_
  refine xp_region rfl ?_
  refine op_pure (pv_of (v := .bool _) rfl) ?_
  refine xp_seq ?_
  refine xp_cond rfl (fun ht => ?_) (fun ht => ?_)
  · skip
    have hlt : k < n + 1 := by have := of_decide_eq_true ht; omega
    refine xp_skip ?_
    refine xp_seq ?_
    refine xp_block ?_
    refine xp_seq ?_
    refine xp_region rfl ?_
    refine op_pure (pv_move (v := .int .i64 _) rfl) ?_
    refine op_pure (pv_assign (v := .int .i64 _) rfl) ?_
    refine xp_seq ?_
    refine xp_region rfl ?_
    refine op_load (v := .func _ _ _) rfl rfl (by simp only [cellA, c8]; rfl) ?_
    refine op_pure (pv_move (v := .int .i64 _) rfl) ?_
    refine op_fnMM [_, _] [_, _] [_] (vs := [.slice _ _ _, .int .i64 _, .int .i64 _]) rfl rfl rfl ((fewest1_ok n hn p _ h W b2 b3 b8 b6 b7 k 0 [] none 0 (fewestP n p k) h_k _ (Ext.trans (Ext.trans (Ext.trans E1 E2) E3) E_k) (FB.ext E_k) ⟨fun _ h => (by cases h), Rd.nil _ _⟩ (by simp; omega) (by omega) ⟨FA, fc, rfl, K2⟩)) ?_
    rintro _ h7 _ E7 ⟨FA2, fc2, rfl, R7⟩
    refine wp_norm [_, _, _, _, _] rfl ?_
    rw [← fewestP_succ] at R7
    refine xp_seq ?_
    refine xp_region rfl ?_
    refine op_loadP 3 (v := .bool _) rfl rfl rfl rfl ?_
    refine xp_cond rfl (fun hd => ?_) (fun hd => ?_)
    · skip
      have hd' : (fewestP n p (k + 1)).isSome = true := by rw [fewestP_succ]; exact hd
      have hst := fewestP_stop hd' (n - k)
      rw [show k + 1 + (n - k) = n + 1 by omega] at hst
      refine xp_exit ?_
      refine xp_seq ?_
      refine xp_dw [] rfl rfl rfl ?_
      refine dw_load (i := 0) rfl (by decide +kernel) ?_
      refine op_loadP 2 (v := .slice _ _ _) rfl rfl rfl rfl ?_
      refine dw_load (i := 1) rfl (by decide +kernel) ?_
      refine op_loadP 3 (v := .bool _) rfl rfl rfl rfl ?_
      refine dw_pure (i := 2) rfl (by decide +kernel) (pv_assign (v := .slice _ _ _) rfl) ?_
      refine dw_pure (i := 3) rfl (by decide +kernel) (pv_assign (v := .bool _) rfl) ?_
      refine dw_end rfl ?_
      refine xp_ret ?_
      refine res_list (vs := [_, _]) Try.results101 ⟨resV_tmp rfl rfl, resV_tmp rfl rfl, trivial⟩ fun V => ?_
      refine ⟨(Ext.trans (Ext.trans (Ext.trans (Ext.trans (Ext.trans E1 E2) E3) E_k) E7) (ext_wl V)), .slice FA2 ((fewestP n p (n + 1)).getD []).length fc2, ?_, FA2, fc2, rfl, ?_⟩
      · rw [hst, fewestP_succ]; rfl
      · rw [hst]; exact R7.ext (ext_wl V)
    · skip
      refine xp_skip ?_
      refine xp_region rfl ?_
      refine op_pure (pv_arith rfl (by omega)) ?_
      refine op_pure (pv_move (v := .int .i64 _) rfl) ?_
      refine ⟨(k + 1, FA2, fc2), ⟨rfl, trivial⟩, rfl, by rw [← fewestP_succ]; rfl, (Ext.trans E_k E7), fun h3 E3 => ⟨by omega, R7.ext E3⟩, by first | omega | (dsimp only; omega), ?_⟩
      repeat (first | exact off_base _ _ _ | refine off_upd (by decide) ?_ | refine off_updL rfl ?_ | refine off_mix rfl ?_)
  · skip
    have hk : k = n + 1 := by have := of_decide_eq_false ht; omega
    subst hk
    refine xp_exit ?_
    refine xp_seq ?_
    refine xp_dw [] rfl rfl rfl ?_
    refine dw_load (i := 0) rfl (by decide +kernel) ?_
    refine op_loadP 2 (v := .slice _ _ _) rfl rfl rfl rfl ?_
    refine dw_load (i := 1) rfl (by decide +kernel) ?_
    refine op_loadP 3 (v := .bool _) rfl rfl rfl rfl ?_
    refine dw_pure (i := 2) rfl (by decide +kernel) (pv_assign (v := .slice _ _ _) rfl) ?_
    refine dw_pure (i := 3) rfl (by decide +kernel) (pv_assign (v := .bool _) rfl) ?_
    refine dw_end rfl ?_
    refine xp_ret ?_
    refine res_list (vs := [_, _]) Try.results101 ⟨resV_tmp rfl rfl, resV_tmp rfl rfl, trivial⟩ fun V => ?_
    exact ⟨(Ext.trans (Ext.trans (Ext.trans (Ext.trans E1 E2) E3) E_k) (ext_wl V)), _, rfl, FA, fc, rfl, K2.ext (ext_wl V)⟩
theorem cells_blk {h : AH} {b : Nat} {cs : List Value} {t : TypeId} (e : h b = some (.cells cs.toArray t (0, 0))) : Cells h b 0 cs := fun j u hu => by
  simp only [cellA, e, Nat.zero_add]
  simpa using hu
def waitM (w : Int) : Int := if inM w 0 6 then 0 else 1
theorem inspect1_ask (w : Int) (b1 : Nat) (h : AH) (e1 : h b1 = some (.cells #[.int .i64 w] 3 (0, 0))) :
    AskT (.func (.func 98) #[] #[.pointer (some ⟨b1, 0, none⟩)]) h (waitM w) := by
  intro h' E _
  refine callV_fn (caps := [.pointer (some ⟨b1, 0, none⟩)]) rfl ?_
  refine call_body Try.func98 rfl Try.ntmps98 rfl ?_
  refine xp_seq ?_
  refine xp_region rfl ?_
  refine op_pure (pv_assign (v := .int .i64 _) rfl) ?_
  refine xp_seq ?_
  refine xp_seq ?_
  refine xp_region rfl ?_
  refine op_load (v := .int .i64 _) rfl rfl (by simp only [cellA, E _ _ e1]; rfl) ?_
  refine op_fn (caps := []) (vs := [.int .i64 _, .int .i64 _, .int .i64 _]) rfl rfl rfl (in_ok _ _ _ h') ?_
  rintro _ h3 E3 rfl
  refine op_pure (pv_of (v := .bool _) rfl) ?_
  refine xp_cond rfl (fun ht => ?_) (fun ht => ?_)
  · skip
    refine xp_seq ?_
    refine xp_region rfl ?_
    refine op_pure (pv_assign (v := .int .i64 _) rfl) ?_
    refine xp_ret ?_
    refine res_list (vs := [_]) Try.results98 ⟨resV_tmp rfl rfl, trivial⟩ fun V => ?_
    refine ⟨(Ext.trans E3 (ext_wl V)), intE ?_⟩
    unfold waitM inM
    rw [if_neg]
    simp at ht ⊢
    omega
  · skip
    refine xp_skip ?_
    refine xp_seq ?_
    refine xp_region rfl ?_
    refine op_pure (pv_assign (v := .int .i64 _) rfl) ?_
    refine xp_ret ?_
    refine res_list (vs := [_]) Try.results98 ⟨resV_tmp rfl rfl, trivial⟩ fun V => ?_
    refine ⟨(Ext.trans E3 (ext_wl V)), intE ?_⟩
    unfold waitM inM
    rw [if_pos]
    simpa using ht
theorem inspect2_will (s : Season) (hw6 : s.heats.length ≤ 6) (A0 A1 A2 A3 : Option Addr) (c0 c1 c2 c3 : Nat) (m : Nat) (hm : m < 2 ^ 7) (w : Int) (b1 b2 b3 : Nat) (h : AH)
    (e1 : h b1 = some (.cells #[.slice A0 s.heats.length c0, .slice A1 s.damps.length c1, .slice A2 s.joints.length c2, .slice A3 s.reports.length c3] 26 (0, 0))) (e2 : ∃ t, h b2 = some (.cells #[.int .u64 (m : Nat)] t (0, 0))) (e3 : h b3 = some (.cells #[.int .i64 w] 3 (0, 0))) :
    Will (.func (.func 102) #[] #[.pointer (some ⟨b1, 0, none⟩), .pointer (some ⟨b2, 0, none⟩), .pointer (some ⟨b3, 0, none⟩)]) h (fun l => decide (unseenOf s.heats.length (listM m) l ≤ w)) := by
  intro h' E _ l B c RB hl
  obtain ⟨t2, e2⟩ := e2
  refine callV_fn (caps := [.pointer (some ⟨b1, 0, none⟩), .pointer (some ⟨b2, 0, none⟩), .pointer (some ⟨b3, 0, none⟩)]) rfl ?_
  refine call_body Try.func102 rfl Try.ntmps102 rfl ?_
  refine xp_seq ?_
  refine xp_region rfl ?_
  refine op_pure (pv_assign (v := .bool _) rfl) ?_
  refine xp_seq ?_
  refine xp_dw [] rfl rfl rfl ?_
  refine dw_load (i := 0) rfl (by decide +kernel) ?_
  refine op_loadA (cs := [.slice _ _ _, .slice _ _ _, .slice _ _ _, .slice _ _ _]) rfl rfl rfl rfl (cells_blk (E _ _ e1)) ?_
  refine dw_load (i := 1) rfl (by decide +kernel) ?_
  refine op_load (v := .int .u64 _) rfl rfl (by simp only [cellA, E _ _ e2]; rfl) ?_
  refine dw_pure (i := 2) rfl (by decide +kernel) (pv_move (v := .slice _ _ _) rfl) ?_
  refine dw_load (i := 4) rfl (by decide +kernel) ?_
  refine op_load (v := .int .i64 _) rfl rfl (by simp only [cellA, E _ _ e3]; rfl) ?_
  refine dw_eff (i := 3) rfl (by decide +kernel) ?_
  refine op_fn (caps := []) (vs := [.agg #[.slice _ _ _, .slice _ _ _, .slice _ _ _, .slice _ _ _], .int .u64 _, .slice _ _ _]) rfl rfl rfl (unseen_ok s hw6 A0 A1 A2 A3 c0 c1 c2 c3 m hm l (by omega) B c h' RB) ?_
  rintro _ h3 E3 rfl
  refine ⟨ext_wlm E3 _, ?_⟩
  refine dw_pure (i := 5) rfl (by decide +kernel) (pv_of (v := .bool _) rfl) ?_
  refine dw_pure (i := 6) rfl (by decide +kernel) (pv_assign (v := .bool _) rfl) ?_
  refine dw_end rfl ?_
  refine xp_ret ?_
  refine res_list (vs := [_]) Try.results102 ⟨resV_tmp rfl rfl, trivial⟩ fun V => ?_
  exact ⟨(Ext.trans E3 (ext_wl V)), rfl⟩
def inspectE (s : Season) (w : Int) : Int := knownM s [waitM w]
def inspectL (s : Season) (w : Int) : List Int := if inspectE s w = 0 then (fewestP s.heats.length (fun l => decide (unseenOf s.heats.length (listM (failingM s)) l ≤ w)) (s.heats.length + 1)).getD [] else []
theorem failingM_lt {s : Season} (h6 : s.heats.length ≤ 6) : failingM s < 2 ^ 7 := Nat.lt_of_le_of_lt Nat.and_le_left (dangerM_lt h6 _)
theorem Inspect_ok (s : Season) (Sm : Small s) (w : Int) (A0 A1 A2 A3 : Option Addr) (c0 c1 c2 c3 : Nat) (h : AH) (R : SeasonR h A0 A1 A2 A3 s) :
    FnT Try.prog 38 #[seasonV A0 A1 A2 A3 c0 c1 c2 c3 s, .int .i64 w] h (fun v h' => ∃ u, v = .tuple #[u, .int .i64 (inspectE s w)] ∧ SlR h' 1 intC (inspectL s w) u) := by
  by_cases he : inspectE s w = 0
  · have hk := knownM_zero he
    have SV := checkM_zero hk.1
    have hw6 := SV.b.w6
    refine call_body Try.func38 rfl Try.ntmps38 rfl ?_
    refine xp_seq ?_
    refine xp_region rfl ?_
    refine op_box (v := .agg #[.slice _ _ _, .slice _ _ _, .slice _ _ _, .slice _ _ _]) (cs := [_, _, _, _]) rfl rfl fun b2 hb2 => ?_
    refine wp_norm [_] rfl ?_
    refine op_box (v := .int .i64 _) (cs := [_]) rfl rfl fun b3 hb3 => ?_
    refine wp_norm [_, _] rfl ?_
    refine op_pure (pv_assign (v := .slice _ _ _) rfl) ?_
    refine op_pure (pv_assign (v := .int .i64 _) rfl) ?_
    refine goes_pub 1 rfl ?_
    intro h1 E1 p1
    refine xp_seq ?_
    refine xp_region rfl ?_
    refine op_loadPA 0 (vs := [.slice _ _ _, .slice _ _ _, .slice _ _ _, .slice _ _ _]) rfl rfl rfl rfl rfl ?_
    refine op_pure (pv_makeFunc (vs := []) (ws := [_]) rfl rfl) ?_
    refine op_buildSlice (zc := [_]) (vs := [(0, _)]) (cs := [_]) rfl rfl rfl rfl rfl rfl rfl fun b14 hb14 => ?_
    refine wp_norm [_, _, _] rfl ?_
    refine wp_pub 2 rfl rfl ?_
    intro h2 E2 p14
    refine wp_norm [_, _, _] rfl ?_
    refine op_fn (caps := []) (vs := [.agg #[.slice _ _ _, .slice _ _ _, .slice _ _ _, .slice _ _ _], .slice _ _ _]) rfl rfl rfl (known_yes s A0 A1 A2 A3 c0 c1 c2 c3 h2 (R.ext (Ext.trans E1 E2)) Sm.h0 Sm.h1 Sm.h2 Sm.h3 [_] [_] _ _ (rowFn p14) rfl (by simp) (ask1 ((inspect1_ask w b3 _ p1).ext E2)) he) ?_
    rintro _ h3 E3 ⟨A, c, mf, fm, fl, A', c', mf', fm', fl', rfl, X, X'⟩
    refine op_pure (pv_move (v := .tuple #[.agg #[.slice _ _ _, .map _, .map _, .map _, .map _, .slice _ _ _, .map _, .map _, .map _, .map _], .int .i64 _]) rfl) ?_
    refine op_pure (pv_of (v := .agg #[.slice _ _ _, .map _, .map _, .map _, .map _, .slice _ _ _, .map _, .map _, .map _, .map _]) rfl) ?_
    refine op_pure (pv_of (v := .int .i64 _) rfl) ?_
    refine op_alloc (cs := [_, _, _, _, _, _, _, _, _, _]) rfl rfl fun b6 hb6 => ?_
    refine wp_norm [_, _, _, _] rfl ?_
    refine op_storeP 3 (v := .agg #[.slice _ _ _, .map _, .map _, .map _, .map _, .slice _ _ _, .map _, .map _, .map _, .map _]) (vs := [_, _, _, _, _, _, _, _, _, _]) (c' := [_, _, _, _, _, _, _, _, _, _]) rfl rfl rfl rfl rfl rfl rfl rfl rfl ?_
    refine wp_norm [_, _, _, _] rfl ?_
    refine op_pure (pv_assign (v := .int .i64 _) rfl) ?_
    refine xp_seq ?_
    refine xp_seq ?_
    refine xp_region rfl ?_
    refine op_pure (pv_move (v := .int .i64 _) rfl) ?_
    refine op_pure (pv_of (v := .bool _) rfl) ?_
    refine xp_condF rfl (by decide) ?_
    refine xp_skip ?_
    refine xp_seq ?_
    refine xp_region rfl ?_
    refine op_loadPA 3 (vs := [.slice _ _ _, .map _, .map _, .map _, .map _, .slice _ _ _, .map _, .map _, .map _, .map _]) rfl rfl rfl rfl rfl ?_
    refine op_loadPA 0 (vs := [.slice _ _ _, .slice _ _ _, .slice _ _ _, .slice _ _ _]) rfl rfl rfl rfl rfl ?_
    refine op_fn (caps := []) (vs := [.agg #[.slice _ _ _, .map _, .map _, .map _, .map _, .slice _ _ _, .map _, .map _, .map _, .map _], .agg #[.slice _ _ _, .slice _ _ _, .slice _ _ _, .slice _ _ _]]) rfl rfl rfl (failing_ok s SV A c mf fm fl A' c' mf' fm' fl' A0 A1 A2 A3 c0 c1 c2 c3 h3 (R.ext (Ext.trans (Ext.trans E1 E2) E3)) X X') ?_
    rintro _ h4 E4 rfl
    refine op_alloc (cs := [_]) rfl rfl fun b8 hb8 => ?_
    refine wp_norm [_, _, _, _, _] rfl ?_
    refine op_storeP 4 (v := .int .u64 _) (vs := [_]) (c' := [_]) rfl rfl rfl rfl rfl rfl rfl rfl rfl ?_
    refine wp_norm [_, _, _, _, _] rfl ?_
    refine goes_pub 0 rfl ?_
    intro h5 E5 p5
    refine goes_pub 4 rfl ?_
    intro h6 E6 p6
    refine xp_seq ?_
    refine xp_region rfl ?_
    refine op_pure (pv_fieldAddr rfl rfl rfl rfl _ rfl) ?_
    refine op_load (v := .slice _ _ _) rfl rfl (by simp only [cellA, E6 _ _ p5]; rfl) ?_
    refine op_pure (pv_len rfl rfl) ?_
    refine op_pure (pv_makeFunc (vs := []) (ws := [_, _, _]) rfl rfl) ?_
    refine op_fn (caps := []) (vs := [.int .i64 _, _]) rfl rfl rfl (fewest_ok s.heats.length (by omega) _ _ _ _ h6 (inspect2_will s hw6 A0 A1 A2 A3 c0 c1 c2 c3 (failingM s) (failingM_lt hw6) w _ _ _ _ (E6 _ _ p5) ⟨_, p6⟩ ((Ext.trans (Ext.trans (Ext.trans (Ext.trans E2 E3) E4) E5) E6) _ _ p1))) ?_
    rintro _ h7 E7 ⟨u, rfl, B, cB, rfl, RB⟩
    refine op_pure (pv_move (v := .tuple #[.slice _ _ _, .bool _]) rfl) ?_
    refine op_pure (pv_of (v := .slice _ _ _) rfl) ?_
    refine op_pure (pv_of (v := .bool _) rfl) ?_
    refine op_pure (pv_assign (v := .slice _ _ _) rfl) ?_
    refine op_pure (pv_assign (v := .bool _) rfl) ?_
    refine xp_seq ?_
    refine xp_region rfl ?_
    refine op_pure (pv_move (v := .slice _ _ _) rfl) ?_
    refine op_pure (pv_assign (v := .slice _ _ _) rfl) ?_
    refine op_pure (pv_assign (v := .int .i64 _) rfl) ?_
    refine xp_ret ?_
    refine res_list (vs := [_, _]) Try.results38 ⟨resV_tmp rfl rfl, resV_tmp rfl rfl, trivial⟩ fun V => ?_
    refine ⟨(Ext.trans (Ext.trans (Ext.trans (Ext.trans (Ext.trans (Ext.trans (Ext.trans E1 E2) E3) E4) E5) E6) E7) (ext_wl V)), _, by rw [he]; rfl, B, cB, ?_, ?_⟩
    · rw [inspectL, if_pos he]; rfl
    · rw [inspectL, if_pos he]; exact RB.ext (ext_wl V)
  · skip
    refine call_body Try.func38 rfl Try.ntmps38 rfl ?_
    refine xp_seq ?_
    refine xp_region rfl ?_
    refine op_box (v := .agg #[.slice _ _ _, .slice _ _ _, .slice _ _ _, .slice _ _ _]) (cs := [_, _, _, _]) rfl rfl fun b2 hb2 => ?_
    refine wp_norm [_] rfl ?_
    refine op_box (v := .int .i64 _) (cs := [_]) rfl rfl fun b3 hb3 => ?_
    refine wp_norm [_, _] rfl ?_
    refine op_pure (pv_assign (v := .slice _ _ _) rfl) ?_
    refine op_pure (pv_assign (v := .int .i64 _) rfl) ?_
    refine goes_pub 1 rfl ?_
    intro h1 E1 p1
    refine xp_seq ?_
    refine xp_region rfl ?_
    refine op_loadPA 0 (vs := [.slice _ _ _, .slice _ _ _, .slice _ _ _, .slice _ _ _]) rfl rfl rfl rfl rfl ?_
    refine op_pure (pv_makeFunc (vs := []) (ws := [_]) rfl rfl) ?_
    refine op_buildSlice (zc := [_]) (vs := [(0, _)]) (cs := [_]) rfl rfl rfl rfl rfl rfl rfl fun b14 hb14 => ?_
    refine wp_norm [_, _, _] rfl ?_
    refine wp_pub 2 rfl rfl ?_
    intro h2 E2 p14
    refine wp_norm [_, _, _] rfl ?_
    refine op_fn (caps := []) (vs := [.agg #[.slice _ _ _, .slice _ _ _, .slice _ _ _, .slice _ _ _], .slice _ _ _]) rfl rfl rfl (known_no s A0 A1 A2 A3 c0 c1 c2 c3 h2 (R.ext (Ext.trans E1 E2)) Sm.h0 Sm.h1 Sm.h2 Sm.h3 [_] [_] _ _ (rowFn p14) rfl (by simp) (ask1 ((inspect1_ask w b3 _ p1).ext E2)) he) ?_
    rintro _ h3 E3 rfl
    refine op_pure (pv_move (v := .tuple #[.agg #[.slice _ _ _, .map _, .map _, .map _, .map _, .slice _ _ _, .map _, .map _, .map _, .map _], .int .i64 _]) rfl) ?_
    refine op_pure (pv_of (v := .agg #[.slice _ _ _, .map _, .map _, .map _, .map _, .slice _ _ _, .map _, .map _, .map _, .map _]) rfl) ?_
    refine op_pure (pv_of (v := .int .i64 _) rfl) ?_
    refine op_alloc (cs := [_, _, _, _, _, _, _, _, _, _]) rfl rfl fun b6 hb6 => ?_
    refine wp_norm [_, _, _, _] rfl ?_
    refine op_storeP 3 (v := .agg #[.slice _ _ _, .map _, .map _, .map _, .map _, .slice _ _ _, .map _, .map _, .map _, .map _]) (vs := [_, _, _, _, _, _, _, _, _, _]) (c' := [_, _, _, _, _, _, _, _, _, _]) rfl rfl rfl rfl rfl rfl rfl rfl rfl ?_
    refine wp_norm [_, _, _, _] rfl ?_
    refine op_pure (pv_assign (v := .int .i64 _) rfl) ?_
    refine xp_seq ?_
    refine xp_seq ?_
    refine xp_region rfl ?_
    refine op_pure (pv_move (v := .int .i64 _) rfl) ?_
    refine op_pure (pv_of (v := .bool _) rfl) ?_
    refine xp_condT rfl (by simpa [inspectE] using he) ?_
    refine xp_seq ?_
    refine xp_region rfl ?_
    refine op_pure (pv_move (v := .int .i64 _) rfl) ?_
    refine op_pure (pv_assign (v := .slice _ _ _) rfl) ?_
    refine op_pure (pv_assign (v := .int .i64 _) rfl) ?_
    refine xp_ret ?_
    refine res_list (vs := [_, _]) Try.results38 ⟨resV_tmp rfl rfl, resV_tmp rfl rfl, trivial⟩ fun V => ?_
    refine ⟨(Ext.trans (Ext.trans (Ext.trans E1 E2) E3) (ext_wl V)), _, rfl, none, 0, ?_, ?_⟩
    · rw [inspectL, if_neg he]; rfl
    · rw [inspectL, if_neg he]; exact ⟨fun _ h => (by cases h), Rd.nil _ _⟩
end Go.Proofs.Ytndfkbapoinmkaa
/- Plain: ranges changed in place. Conditions: as each theorem states. -/
namespace Go.Wx
open Go Go.HL
def upR (r : Rg) (d : Int) : Rg := ⟨r.mn + d, r.mx + d⟩
/-- The ranges a .. k-1 raised. -/
def raisedN (l : List Rg) (a k : Nat) (d : Int) : List Rg := (List.range l.length).map fun i => if a ≤ i ∧ i < k then upR (l[i]?.getD ⟨0, 0⟩) d else l[i]?.getD ⟨0, 0⟩
theorem raisedN_len (l : List Rg) (a k : Nat) (d : Int) : (raisedN l a k d).length = l.length := by simp [raisedN]
theorem raisedN_get (l : List Rg) (a k : Nat) (d : Int) (i : Nat) : (raisedN l a k d)[i]? = (l[i]?).map fun r => if a ≤ i ∧ i < k then upR r d else r := by
  unfold raisedN
  rw [List.getElem?_map]
  by_cases hi : i < l.length
  · simp [List.getElem?_range hi, List.getElem?_eq_getElem hi]
  · rw [List.getElem?_eq_none (by simpa using hi), List.getElem?_eq_none (by omega)]; rfl
theorem raisedN_zero (l : List Rg) (a : Nat) (d : Int) : raisedN l a a d = l := by
  apply List.ext_getElem?
  intro i
  rw [raisedN_get]
  cases l[i]? with
  | none => rfl
  | some r => simp only [Option.map_some]; rw [if_neg (by omega)]
theorem raisedN_succ {l : List Rg} {a k : Nat} (d : Int) (ha : a ≤ k) (hk : k < l.length) : (raisedN l a k d).set k (upR l[k] d) = raisedN l a (k + 1) d := by
  apply List.ext_getElem?
  intro i
  rw [List.getElem?_set, raisedN_get, raisedN_len]
  by_cases hi : k = i
  · subst hi
    rw [raisedN_get, List.getElem?_eq_getElem hk]
    simp [hk, ha]
  · rw [if_neg hi, raisedN_get]
    cases l[i]? with
    | none => rfl
    | some r => simp only [Option.map_some]; congr 1; by_cases h1 : a ≤ i ∧ i < k
                · rw [if_pos h1, if_pos (by omega)]
                · rw [if_neg h1, if_neg (by omega)]
theorem raisedN_at {l : List Rg} {a k : Nat} (d : Int) (hk : k < l.length) : (raisedN l a k d)[k]? = some l[k] := by
  rw [raisedN_get, List.getElem?_eq_getElem hk]
  simp
theorem rg_mn {junk : List Value} : ∀ {l : List Rg} {k : Nat} {r : Rg}, l[k]? = some r → (l.flatMap rgC ++ junk)[k * 2]? = some (.int .i64 r.mn)
  | x :: l, 0, r, h => by simp at h; subst h; rfl
  | x :: l, k + 1, r, h => by
    have := rg_mn (junk := junk) (l := l) (k := k) (r := r) (by simpa using h)
    rw [show (k + 1) * 2 = k * 2 + 1 + 1 by omega]
    simpa [rgC] using this
theorem rg_mx {junk : List Value} : ∀ {l : List Rg} {k : Nat} {r : Rg}, l[k]? = some r → (l.flatMap rgC ++ junk)[k * 2 + 1]? = some (.int .i64 r.mx)
  | x :: l, 0, r, h => by simp at h; subst h; rfl
  | x :: l, k + 1, r, h => by
    have := rg_mx (junk := junk) (l := l) (k := k) (r := r) (by simpa using h)
    rw [show (k + 1) * 2 + 1 = k * 2 + 1 + 1 + 1 by omega]
    simpa [rgC] using this
theorem rg_wr {junk : List Value} {x y : Int} : ∀ {l : List Rg} {k : Nat}, k < l.length → wrL (l.flatMap rgC ++ junk) (k * 2) [.int .i64 x, .int .i64 y] = (l.set k ⟨x, y⟩).flatMap rgC ++ junk
  | [], _, h => by simp at h
  | r :: l, 0, h => rfl
  | r :: l, k + 1, h => by
    have := rg_wr (junk := junk) (x := x) (y := y) (l := l) (k := k) (by simpa using h)
    rw [show (k + 1) * 2 = k * 2 + 1 + 1 by omega]
    simp only [wrL, List.flatMap_cons, List.set_cons_succ] at this ⊢
    simpa [rgC, wrL] using this
end Go.Wx
/- Walks: ranges raised. Conditions: as each theorem states. -/
namespace Go.Proofs.Ytndfkbapoinmkaa
open Go Go.HL Go.Proofs Go.Wx
set_option maxRecDepth 100000
theorem cloneRgO (l : List Rg) (A : Option Addr) (c : Nat) (h : AH) (R : Row h 2 rgC A l) (hl : l.length < 2 ^ 20) :
    FnM Try.prog (.func (.func 128) #[] ([] : List Value).toArray) [.slice A l.length c] h [] (fun v h' M' => ∃ a : Acc, M' = [a.p] ∧ v = .slice a.A a.n a.c ∧ AccR 51 2 (l.flatMap rgC) a) := by
  cases A with
  | none =>
    have h0 := R.none_nil (by omega)
    subst h0
    refine fnM_body rfl rfl Try.func128 rfl Try.ntmps128 rfl ?_
    refine xp_seq ?_
    refine xp_region rfl ?_
    refine op_pure (pv_assign (v := .slice _ _ _) rfl) ?_
    refine xp_seq ?_
    refine xp_seq ?_
    refine xp_region rfl ?_
    refine op_pure (pv_move (v := .slice _ _ _) rfl) ?_
    refine op_pure (pv_of (v := .bool _) rfl) ?_
    refine xp_cond rfl (fun ht => ?_) (fun ht => ?_)
    · skip
      refine xp_seq ?_
      refine xp_region rfl ?_
      refine op_pure (pv_assign (v := .slice _ _ _) rfl) ?_
      refine xp_ret ?_
      refine res_list (vs := [_]) Try.results128 ⟨resV_tmp rfl rfl, trivial⟩ fun V => ?_
      exact ⟨_, [none], rfl, V, (Ext.refl _), acc0, rfl, rfl, accR0⟩
    · cases ht
  | some a =>
    refine fnM_body rfl rfl Try.func128 rfl Try.ntmps128 rfl ?_
    refine xp_seq ?_
    refine xp_region rfl ?_
    refine op_pure (pv_assign (v := .slice _ _ _) rfl) ?_
    refine xp_seq ?_
    refine xp_seq ?_
    refine xp_region rfl ?_
    refine op_pure (pv_move (v := .slice _ _ _) rfl) ?_
    refine op_pure (pv_of (v := .bool _) rfl) ?_
    refine xp_cond rfl (fun ht => ?_) (fun ht => ?_)
    · cases ht
    · skip
      refine xp_skip ?_
      refine xp_seq ?_
      refine xp_region rfl ?_
      refine op_buildSlice (zc := [_, _]) (vs := []) (cs := []) rfl rfl rfl rfl rfl rfl rfl fun b5 hb5 => ?_
      refine wp_norm [_] rfl ?_
      refine op_pure (pv_move (v := .slice _ _ _) rfl) ?_
      refine op_appendR 0 accR_new rfl rfl rfl (fun V => R.2.ext (ext_wl V)) (flat_len R.1) (flat_plain rgP l) rfl rfl rfl rfl rfl rfl rfl (by omega) rfl (by rw [flat_len R.1, List.length_nil]; omega) fun a2 h1a E1a ha2 => ?_
      refine wp_norm [_] rfl ?_
      refine op_pure (pv_assign (v := .slice _ _ _) rfl) ?_
      refine xp_ret ?_
      refine res_list (vs := [_]) Try.results128 ⟨resV_tmp rfl rfl, trivial⟩ fun V => ?_
      exact ⟨_, [_], rfl, V, E1a, a2, rfl, rfl, ha2⟩
theorem raised_ok (l : List Rg) (hl0 : 0 < l.length) (hl : l.length < 2 ^ 20) (hr : ∀ r ∈ l, -2 ^ 40 ≤ r.mn ∧ r.mn ≤ 2 ^ 40 ∧ -2 ^ 40 ≤ r.mx ∧ r.mx ≤ 2 ^ 40) (a z : Nat) (haz : a ≤ z) (hz : z ≤ l.length) (z' : Int) (ez : z' = z - 1) (d : Int) (hd : -2 ^ 40 ≤ d ∧ d ≤ 2 ^ 40) (A : Option Addr) (c : Nat) (h : AH) (R : Row h 2 rgC A l) :
    FnM Try.prog (.func (.func 94) #[] ([] : List Value).toArray) [.slice A l.length c, .int .i64 a, .int .i64 z', .int .i64 d] h [] (fun v h' M' => ∃ b cap junk, M' = [some (b, .cells ((raisedN l a z d).flatMap rgC ++ junk).toArray 51 (0, 0))] ∧ v = .slice (some ⟨b, 0, none⟩) l.length cap) := by
  refine fnM_body rfl rfl Try.func94 rfl Try.ntmps94 rfl ?_
  refine xp_seq ?_
  refine xp_region rfl ?_
  refine op_pure (pv_assign (v := .slice _ _ _) rfl) ?_
  refine xp_seq ?_
  refine xp_region rfl ?_
  refine op_pure (pv_move (v := .slice _ _ _) rfl) ?_
  refine op_fnMM [] [] [] rfl rfl rfl (cloneRgO l A c h R hl) ?_
  rintro _ h5 _ E5 ⟨a1, rfl, rfl, ha1⟩
  refine wp_norm [_] rfl ?_
  obtain ⟨b2, len2, cap2, junk, hl2, rfl⟩ := AccR.some ha1 (by intro e; have := flat_len (l := l) (m := 2) (enc := rgC) (fun _ _ => rfl); rw [e] at this; simp at this; omega)
  have e2 : len2 = l.length := by rw [flat_len (m := 2) (fun _ _ => rfl)] at hl2; omega
  subst e2
  dsimp only
  refine op_pure (pv_assign (v := .slice _ _ _) rfl) ?_
  refine xp_seq ?_
  refine xp_seq ?_
  refine xp_region rfl ?_
  refine op_pure (pv_move (v := .int .i64 _) rfl) ?_
  refine op_pure (pv_assign (v := .int .i64 _) rfl) ?_
  refine xp_block ?_
  refine xp_loopL [9, 13, 14, 15, 16, 17, 18, 19, 20, 21, 22, 23, 24, 25, 26, 27, 28, 29, 30, 31, 32, 33, 34, 35] 1 (α := Nat) (fun k => [(9, .int .i64 (k : Int))]) (fun k L => L.set 0 (some (b2, .cells ((raisedN l a k d).flatMap rgC ++ junk).toArray 51 (0, 0)))) (fun k h_k => a ≤ k ∧ k ≤ z) (fun k => z - k) (a) ⟨rfl, trivial⟩ (by rw [raisedN_zero]; rfl) (⟨Nat.le_refl _, haz⟩) ?_
  rintro k T1 h_k E_k J_k
  refine goes_norm [_] rfl ?_
  obtain ⟨K1, K2⟩ := J_k
  refine xp_seq ?_
  refine xp_seq ?_
  refine xp_region rfl ?_
  refine op_pure (pv_move (v := .int .i64 _) rfl) ?_
  refine op_pure (pv_move (v := .int .i64 _) rfl) ?_
  refine op_pure (pv_of (v := .bool _) rfl) ?_
  refine xp_cond rfl (fun ht => ?_) (fun ht => ?_)
  · skip
    have hkz : k < z := by have := of_decide_eq_true ht; omega
    have hkl : k < l.length := by omega
    have hrk := hr _ (List.getElem_mem hkl)
    have hat := raisedN_at (l := l) (a := a) (k := k) d hkl
    have hoff : 0 + (k : Int).toNat * 2 = k * 2 := by omega
    refine xp_skip ?_
    refine xp_seq ?_
    refine xp_block ?_
    refine xp_dw [] rfl rfl rfl ?_
    refine dw_pure (i := 0) rfl (by decide +kernel) (pv_move (v := .slice _ _ _) rfl) ?_
    refine dw_pure (i := 1) rfl (by decide +kernel) (pv_move (v := .int .i64 _) rfl) ?_
    refine dw_pure (i := 2) rfl (by decide +kernel) (pv_move (v := .slice _ _ _) rfl) ?_
    refine dw_pure (i := 3) rfl (by decide +kernel) (pv_move (v := .int .i64 _) rfl) ?_
    refine dw_pure (i := 4) rfl (by decide +kernel) (pv_index rfl rfl rfl rfl (by omega) (by omega)) ?_
    refine dw_pure (i := 5) rfl (by decide +kernel) (pv_fieldAddr rfl rfl rfl rfl _ rfl) ?_
    refine dw_load (i := 6) rfl (by decide +kernel) ?_
    refine op_loadP 0 (v := .int .i64 l[k].mn) (off := 0 + (k : Int).toNat * 2) rfl rfl rfl (by rw [hoff]; simpa using rg_mn (junk := junk) hat) ?_
    refine dw_pure (i := 7) rfl (by decide +kernel) (pv_move (v := .int .i64 _) rfl) ?_
    refine dw_pure (i := 8) rfl (by decide +kernel) (pv_arith rfl (by omega)) ?_
    refine dw_pure (i := 9) rfl (by decide +kernel) (pv_move (v := .slice _ _ _) rfl) ?_
    refine dw_pure (i := 10) rfl (by decide +kernel) (pv_move (v := .int .i64 _) rfl) ?_
    refine dw_pure (i := 11) rfl (by decide +kernel) (pv_index rfl rfl rfl rfl (by omega) (by omega)) ?_
    refine dw_pure (i := 12) rfl (by decide +kernel) (pv_fieldAddr rfl rfl rfl rfl _ rfl) ?_
    refine dw_load (i := 13) rfl (by decide +kernel) ?_
    refine op_loadP 0 (v := .int .i64 l[k].mx) (off := 0 + (k : Int).toNat * 2 + 1) rfl rfl rfl (by rw [hoff]; simpa using rg_mx (junk := junk) hat) ?_
    refine dw_pure (i := 14) rfl (by decide +kernel) (pv_move (v := .int .i64 _) rfl) ?_
    refine dw_pure (i := 15) rfl (by decide +kernel) (pv_arith rfl (by omega)) ?_
    refine dw_pure (i := 16) rfl (by decide +kernel) (pv_build (zc := [_, _]) (vs := [(0, .int .i64 _), (1, .int .i64 _)]) (cs := [_, _]) rfl rfl rfl rfl rfl rfl) ?_
    refine dw_pure (i := 17) rfl (by decide +kernel) (pv_index rfl rfl rfl rfl (by omega) (by omega)) ?_
    have hkr : k < (raisedN l a k d).length := by rw [raisedN_len]; exact hkl
    refine dw_last (i := 18) rfl (by decide +kernel) (by decide +kernel) ?_
    refine op_storeP 0 (v := .agg #[.int .i64 _, .int .i64 _]) (vs := [.int .i64 (l[k].mn + d), .int .i64 (l[k].mx + d)]) (off := 0 + (k : Int).toNat * 2) (c' := (raisedN l a (k + 1) d).flatMap rgC ++ junk) rfl rfl rfl rfl rfl rfl (Nat.ble_eq_true_of_le (by show 0 + (k : Int).toNat * 2 + 2 ≤ _; rw [List.length_append, flat_len (m := 2) (fun _ _ => rfl), raisedN_len]; omega)) rfl (by rw [hoff, rg_wr hkr, ← raisedN_succ d K1 hkl]; rfl) ?_
    refine dw_norm [_] rfl ?_
    refine dw_end rfl ?_
    refine xp_region rfl ?_
    refine op_pure (pv_move (v := .int .i64 _) rfl) ?_
    refine op_pure (pv_arith rfl (by omega)) ?_
    refine op_pure (pv_assign (v := .int .i64 _) rfl) ?_
    refine ⟨k + 1, ⟨rfl, trivial⟩, rfl, rfl, E_k, fun h3 E3 => ⟨by omega, by omega⟩, by first | omega | (dsimp only; omega), ?_⟩
    repeat (first | exact off_base _ _ _ | refine off_upd (by decide) ?_ | refine off_updL rfl ?_ | refine off_mix rfl ?_)
  · skip
    have hk : k = z := by have := of_decide_eq_false ht; omega
    subst hk
    refine xp_exit ?_
    refine xp_seq ?_
    refine xp_region rfl ?_
    refine op_pure (pv_move (v := .slice _ _ _) rfl) ?_
    refine op_pure (pv_assign (v := .slice _ _ _) rfl) ?_
    refine xp_ret ?_
    refine res_list (vs := [_]) Try.results94 ⟨resV_tmp rfl rfl, trivial⟩ fun V => ?_
    exact ⟨_, [_], rfl, V, (Ext.trans E5 E_k), b2, cap2, junk, rfl, rfl⟩
end Go.Proofs.Ytndfkbapoinmkaa
/- Plain: how much warmer. Conditions: as each theorem states. -/
namespace Go.Wx
open Go Go.HL
def capR (r : Rg) : Rg := ⟨min r.mn 100, min r.mx 100⟩
/-- The first k capped. -/
def capN (l : List Rg) (k : Nat) : List Rg := (l.take k).map capR ++ l.drop k
theorem capN_len (l : List Rg) (k : Nat) : (capN l k).length = l.length := by simp [capN]; omega
theorem capN_zero (l : List Rg) : capN l 0 = l := by simp [capN]
theorem capN_all (l : List Rg) : capN l l.length = l.map capR := by simp [capN]
theorem capN_at {l : List Rg} {k : Nat} (hk : k < l.length) : (capN l k)[k]? = some l[k] := by
  unfold capN
  rw [List.getElem?_append_right (by simp; omega)]
  simp [Nat.min_eq_left (Nat.le_of_lt hk), List.getElem?_eq_getElem hk]
theorem capN_succ {l : List Rg} {k : Nat} (hk : k < l.length) : (capN l k).set k (capR l[k]) = capN l (k + 1) := by
  unfold capN
  rw [List.set_append_right _ _ (by simp; omega), take_snoc hk, List.map_append]
  have : k - (List.map capR (List.take k l)).length = 0 := by simp; omega
  rw [this, List.drop_eq_getElem_cons hk, List.set_cons_zero, List.append_assoc]
  rfl
def warmL (l : List Rg) (z : Nat) (d : Int) : List Rg := (raisedN l 0 z d).map capR
theorem warmL_len (l : List Rg) (z : Nat) (d : Int) : (warmL l z d).length = l.length := by simp [warmL, raisedN_len]
def bare (s : Season) : Season := { s with reports := [] }
def warmS (s : Season) (n d : Int) : Season := if n = 1 then { s with heats := warmL s.heats s.heats.length d, reports := [] } else { s with damps := warmL s.damps s.heats.length d, reports := [] }
theorem warmS_1 (s : Season) (d : Int) : warmS s 1 d = { s with heats := warmL s.heats s.heats.length d, reports := [] } := if_pos rfl
theorem warmS_2 (s : Season) (d : Int) : warmS s 2 d = { s with damps := warmL s.damps s.heats.length d, reports := [] } := if_neg (by decide)
theorem mem_warmL {l : List Rg} {z : Nat} {d : Int} {r : Rg} (h : r ∈ warmL l z d) : ∃ x ∈ l, r = capR (upR x d) ∨ r = capR x := by
  unfold warmL at h
  obtain ⟨y, hy, rfl⟩ := List.mem_map.1 h
  obtain ⟨i, hi⟩ := List.mem_iff_getElem?.1 hy
  rw [raisedN_get] at hi
  cases hl : l[i]? with
  | none => rw [hl] at hi; cases hi
  | some x =>
    rw [hl] at hi
    refine ⟨x, List.mem_of_getElem? hl, ?_⟩
    simp only [Option.map_some, Option.some.injEq] at hi
    split at hi
    · left; rw [hi]
    · right; rw [hi]
theorem warmL_b {l : List Rg} {z : Nat} {d : Int} (hd : 0 ≤ d ∧ d ≤ 30) (hl : ∀ r ∈ l, RangeB r) (hr : ∀ r ∈ l, -50 ≤ r.mn ∧ r.mx ≤ 100) : (∀ r ∈ warmL l z d, RangeB r) ∧ ∀ r ∈ warmL l z d, -50 ≤ r.mn ∧ r.mx ≤ 100 := by
  constructor
  · intro r h
    obtain ⟨x, hx, rfl | rfl⟩ := mem_warmL h
    · obtain ⟨a1, a2, a3, a4⟩ := hl x hx; have := hr x hx; constructor <;> (simp only [capR, upR]; omega)
    · obtain ⟨a1, a2, a3, a4⟩ := hl x hx; have := hr x hx; constructor <;> (simp only [capR]; omega)
  · intro r h
    obtain ⟨x, hx, rfl | rfl⟩ := mem_warmL h
    · obtain ⟨a1, a2, a3, a4⟩ := hl x hx; have := hr x hx; simp only [capR, upR]; omega
    · obtain ⟨a1, a2, a3, a4⟩ := hl x hx; have := hr x hx; simp only [capR]; omega
theorem warmS_v {s : Season} (SV : SeasonV s) {n d : Int} (hd : 0 ≤ d ∧ d ≤ 30) : SeasonV (warmS s n d) := by
  obtain ⟨B, K, _, hr, dr⟩ := SV
  unfold warmS
  split
  · have w := warmL_b (z := s.heats.length) hd B.hb hr
    exact ⟨⟨by show 1 ≤ (warmL _ _ _).length; rw [warmL_len]; exact B.w1, by show (warmL _ _ _).length ≤ 6; rw [warmL_len]; exact B.w6, by show s.damps.length = (warmL _ _ _).length; rw [warmL_len]; exact B.dl, w.1, B.db, B.j3, B.jb, by simp, fun r h => (by cases h)⟩, K, fun r h => (by cases h), w.2, dr⟩
  · have w := warmL_b (z := s.heats.length) hd B.db dr
    exact ⟨⟨B.w1, B.w6, by show (warmL _ _ _).length = _; rw [warmL_len]; exact B.dl, B.hb, w.1, B.j3, B.jb, by simp, fun r h => (by cases h)⟩, K, fun r h => (by cases h), hr, w.2⟩
def tooWarm (s : Season) (j w : Nat) (n : Nat) : Bool := decide (failedM (warmS s (kindAt s j) ((n : Int) + 1)) j w ≠ 2)
def marginM (s : Season) (j w : Nat) : Nat := ((List.range 30).find? (tooWarm s j w)).getD 30
theorem find_range {p : Nat → Bool} {k n : Nat} (hn : n < k) (h1 : ∀ i, i < n → p i = false) (h2 : p n = true) : ((List.range k).find? p).getD k = n := by
  have : (List.range k).find? p = some n := by
    rw [List.find?_range_eq_some]
    exact ⟨h2, by simpa using hn, fun j hj => by simpa using h1 j hj⟩
  rw [this]; rfl
theorem find_range_none {p : Nat → Bool} {k : Nat} (h1 : ∀ i, i < k → p i = false) : ((List.range k).find? p).getD k = k := by
  have : (List.range k).find? p = none := by
    rw [List.find?_eq_none]
    intro x hx
    simp [h1 x (by simpa using hx)]
  rw [this]; rfl
theorem rg_cells {h : AH} {L : Pv} {i b : Nat} {l : List Rg} {junk : List Value} {t : TypeId} (hi : L[i]? = some (some (b, .cells (l.flatMap rgC ++ junk).toArray t (0, 0)))) (V : Valid h L) {k : Nat} {r : Rg} (hk : l[k]? = some r) : Cells (wl h L) b (k * 2) (rgC r) := by
  intro q u hu
  simp only [cellA, wl_get V hi]
  match q, hu with
  | 0, hu => cases hu; simpa using rg_mn (junk := junk) hk
  | 1, hu => cases hu; simpa using rg_mx (junk := junk) hk
  | q + 2, hu => simp [rgC] at hu
theorem rg_row {h : AH} {b : Nat} {l : List Rg} {junk : List Value} {t : TypeId} (hb : h b = some (.cells (l.flatMap rgC ++ junk).toArray t (0, 0))) : Row h 2 rgC (some ⟨b, 0, none⟩) l := by
  refine ⟨fun _ _ => rfl, fun _ => ⟨b, 0, rfl, fun q u hu => ?_⟩⟩
  simp only [cellA, hb, Nat.zero_add]
  have : (l.flatMap rgC ++ junk)[q]? = some u := by rw [List.getElem?_append_left (List.getElem?_eq_some_iff.1 hu).1]; exact hu
  simpa using this
end Go.Wx
/- Walks: how much warmer it may be. Conditions: as each theorem states. -/
namespace Go.Proofs.Ytndfkbapoinmkaa
open Go Go.HL Go.Proofs Go.Wx
set_option maxRecDepth 100000
def marginE (s : Season) (j w : Int) : Int := if failedE s j w = 0 then (if failedV s j w = 2 then 0 else 11) else failedE s j w
def marginV (s : Season) (j w : Int) : Int := if marginE s j w = 0 then marginM s j.toNat w.toNat else 0
set_option maxHeartbeats 8000000 in
theorem Margin_ok (s : Season) (Sm : Small s) (joint week : Int) (A0 A1 A2 A3 : Option Addr) (c0 c1 c2 c3 : Nat) (h : AH) (R : SeasonR h A0 A1 A2 A3 s) :
    FnT Try.prog 33 #[seasonV A0 A1 A2 A3 c0 c1 c2 c3 s, .int .i64 joint, .int .i64 week] h (fun v _ => v = .tuple #[.int .i64 (marginV s joint week), .int .i64 (marginE s joint week)]) := by
  by_cases he : failedE s joint week = 0
  · by_cases hv : failedV s joint week = 2
    · have hm0 : marginE s joint week = 0 := by rw [marginE, if_pos he, if_pos hv]
      have hk := knownM_zero he
      have SV := checkM_zero hk.1
      have hw6 := SV.b.w6
      have hw1 := SV.b.w1
      have hdl := SV.b.dl
      have h2e := firstErr2 hk.2.1
      obtain ⟨j, rfl, hj⟩ := isJointM_zero h2e.1
      obtain ⟨w, rfl, hw⟩ := isWeekM_zero h2e.2
      have hka : kindAt s j = s.joints[j].kind := by simp [kindAt, List.getElem?_eq_getElem hj]
      have hsj := SV.b.j3
      have hsr := SV.b.rl
      have hval : marginV s j w = (marginM s j w : Int) := by rw [marginV, if_pos hm0]; simp
      refine call_body Try.func33 rfl Try.ntmps33 rfl ?_
      refine xp_seq ?_
      refine xp_region rfl ?_
      refine op_box (v := .agg #[.slice _ _ _, .slice _ _ _, .slice _ _ _, .slice _ _ _]) (cs := [_, _, _, _]) rfl rfl fun b3 hb3 => ?_
      refine wp_norm [_] rfl ?_
      refine op_pure (pv_assign (v := .int .i64 _) rfl) ?_
      refine op_pure (pv_assign (v := .int .i64 _) rfl) ?_
      refine xp_seq ?_
      refine xp_region rfl ?_
      refine op_loadPA 0 (vs := [.slice _ _ _, .slice _ _ _, .slice _ _ _, .slice _ _ _]) rfl rfl rfl rfl rfl ?_
      refine op_pure (pv_move (v := .int .i64 _) rfl) ?_
      refine op_pure (pv_move (v := .int .i64 _) rfl) ?_
      refine op_fn (caps := []) (vs := [.agg #[.slice _ _ _, .slice _ _ _, .slice _ _ _, .slice _ _ _], .int .i64 _, .int .i64 _]) rfl rfl rfl (Failed_ok s Sm _ _ A0 A1 A2 A3 c0 c1 c2 c3 h R) ?_
      rintro _ h1 E1 rfl
      refine op_pure (pv_move (v := .tuple #[.int .i64 _, .int .i64 _]) rfl) ?_
      refine op_pure (pv_of (v := .int .i64 _) rfl) ?_
      refine op_pure (pv_of (v := .int .i64 _) rfl) ?_
      refine op_pure (pv_assign (v := .int .i64 _) rfl) ?_
      refine op_pure (pv_assign (v := .int .i64 _) rfl) ?_
      refine xp_seq ?_
      refine xp_seq ?_
      refine xp_region rfl ?_
      refine op_pure (pv_move (v := .int .i64 _) rfl) ?_
      refine op_pure (pv_of (v := .bool _) rfl) ?_
      refine xp_condF rfl (by simp [he]) ?_
      refine xp_skip ?_
      refine xp_seq ?_
      refine xp_seq ?_
      refine xp_region rfl ?_
      refine op_pure (pv_move (v := .int .i64 _) rfl) ?_
      refine op_pure (pv_of (v := .bool _) rfl) ?_
      refine xp_condF rfl (by simp [hv]) ?_
      refine xp_skip ?_
      refine xp_seq ?_
      refine xp_region rfl ?_
      refine op_loadPA 0 (vs := [.slice _ _ _, .slice _ _ _, .slice _ _ _, .slice _ _ _]) rfl rfl rfl rfl rfl ?_
      refine op_fn (caps := []) (vs := [.agg #[.slice _ _ _, .slice _ _ _, .slice _ _ _, .slice _ _ _]]) rfl rfl rfl (clone_ok s A0 A1 A2 A3 c0 c1 c2 c3 h1 (R.ext E1) (by omega) (by omega) (by omega) (by omega)) ?_
      rintro _ h2 E2 ⟨B0, B1, B2, B3, d0, d1, d2, d3, rfl, R2⟩
      obtain ⟨g, off, hB2, hcj⟩ := R2.joints.at (by omega) hj
      refine op_storeP 0 (v := .agg #[.slice _ _ _, .slice _ _ _, .slice _ _ _, .slice _ _ _]) (vs := [_, _, _, _]) (c' := [_, _, _, _]) rfl rfl rfl rfl rfl rfl rfl rfl rfl ?_
      refine wp_norm [_] rfl ?_
      refine xp_seq ?_
      refine xp_region rfl ?_
      refine op_pure (pv_fieldAddr rfl rfl rfl rfl 3 rfl) ?_
      refine op_storeP 0 (v := .slice _ _ _) (vs := [_]) (c' := [_, _, _, _]) rfl rfl rfl rfl rfl rfl rfl rfl rfl ?_
      refine wp_norm [_] rfl ?_
      refine xp_seq ?_
      refine xp_region rfl ?_
      refine op_pure (pv_fieldAddr rfl rfl rfl rfl 2 rfl) ?_
      refine op_loadP 0 (v := .slice _ _ _) rfl rfl rfl rfl ?_
      refine op_pure (pv_move (v := .int .i64 _) rfl) ?_
      refine op_pure (pv_indexE rfl hB2 rfl rfl rfl (by omega) (by omega)) ?_
      refine op_pure (pv_fieldAddr rfl rfl rfl rfl _ rfl) ?_
      refine op_load (v := .int .i64 _) rfl rfl (hcj 0 (.int .i64 s.joints[j].kind) rfl) ?_
      refine op_fn (caps := []) (vs := [.int .i64 _]) rfl rfl rfl (kindOf_ok _ h2) ?_
      rintro _ h3 E3 rfl
      rcases SV.kinds _ (List.getElem_mem hj) with hki | hki
      · skip
        rw [hki] at hka ⊢
        refine op_pure (pv_assign (v := _) rfl) ?_
        refine xp_seq ?_
        refine xp_region rfl ?_
        refine op_pure (pv_assign (v := .int .i64 _) rfl) ?_
        refine xp_seq ?_
        refine xp_block ?_
        refine xp_loopB [11, 12, 13, 14, 15, 16, 17, 40, 41, 42, 43, 44, 45, 46, 47, 48, 49, 50, 51, 52, 53, 54, 55, 56, 57, 58, 59, 60, 61, 62, 63, 64, 65, 66, 67, 68, 69, 70, 71, 72, 73, 74, 75, 76, 77, 78, 79, 80, 81, 82, 83, 84, 85, 86] 1 (α := Nat) (fun n => [(11, .int .i64 n)]) (fun n => _) (fun n h_n => n ≤ 30 ∧ ∀ i, i < n → tooWarm s j w i = false) (fun n => 30 - n) (0) ⟨rfl, trivial⟩ (rfl) (⟨by omega, fun i hi => absurd hi (Nat.not_lt_zero i)⟩) ?_
        rintro n T1 h_n E_n J_n
        refine goes_norm [_] rfl ?_
        obtain ⟨K1, K2⟩ := J_n
        have E2n := (Ext.trans E3 E_n)
        refine xp_seq ?_
        refine xp_seq ?_
        refine xp_region rfl ?_
        refine op_pure (pv_move (v := .int .i64 _) rfl) ?_
        refine op_pure (pv_of (v := .bool _) rfl) ?_
        refine xp_cond rfl (fun ht => ?_) (fun ht => ?_)
        · skip
          have hn : n < 30 := ltI (n := 30) ht
          have SVw : SeasonV ({ s with heats := warmL s.heats s.heats.length ((n : Int) + 1), reports := [] } : Season) := by rw [← warmS_1]; exact warmS_v SV (by omega)
          have hwl := warmL_len s.heats s.heats.length ((n : Int) + 1)
          have hrl := raisedN_len s.heats 0 s.heats.length ((n : Int) + 1)
          refine xp_skip ?_
          refine xp_block ?_
          refine xp_seq ?_
          refine xp_dw [] rfl rfl rfl ?_
          refine dw_pure (i := 0) rfl (by decide +kernel) (pv_move (v := _) rfl) ?_
          refine dw_load (i := 1) rfl (by decide +kernel) ?_
          refine op_loadPA 0 (vs := [.slice _ _ _, .slice _ _ _, .slice _ _ _, .slice _ _ _]) rfl rfl rfl rfl rfl ?_
          refine dw_pure (i := 3) rfl (by decide +kernel) (pv_fieldAddr rfl rfl rfl rfl 0 rfl) ?_
          refine dw_load (i := 4) rfl (by decide +kernel) ?_
          refine op_loadP 0 (v := .slice _ _ _) rfl rfl rfl rfl ?_
          refine dw_pure (i := 5) rfl (by decide +kernel) (pv_len rfl rfl) ?_
          refine dw_pure (i := 6) rfl (by decide +kernel) (pv_arith rfl (by omega)) ?_
          refine dw_pure (i := 7) rfl (by decide +kernel) (pv_move (v := .int .i64 _) rfl) ?_
          refine dw_pure (i := 8) rfl (by decide +kernel) (pv_arith rfl (by omega)) ?_
          refine dw_eff (i := 2) rfl (by decide +kernel) ?_
          refine op_invoke rfl (by kernel_rfl) rfl rfl (waxWeather_ok (bare s) B0 B1 B2 none d0 d1 d2 0 h_n) ?_
          rintro _ h4 E4 rfl
          refine ⟨ext_wlm E4 _, ?_⟩
          refine dw_last (i := 9) rfl (by decide +kernel) (by decide +kernel) ?_
          refine op_fnMM [_] [] [] rfl rfl rfl (raised_ok s.heats (by omega) (by omega) (fun r hr => by obtain ⟨a1, a2, a3, a4⟩ := SV.b.hb r hr; omega) 0 s.heats.length (Nat.zero_le _) (by omega) _ rfl ((n : Int) + 1) (by omega) B0 d0 h4 (R2.heats.ext (Ext.trans (Ext.trans E3 E_n) E4))) ?_
          rintro _ h5 _ E5 ⟨b4, cap4, junk4, rfl, ev⟩
          refine dw_norm [_, _] rfl ?_
          rw [← hwl] at ev
          subst ev
          refine dw_pure (i := 10) rfl (by decide +kernel) (pv_assign (v := .slice _ _ _) rfl) ?_
          refine dw_end rfl ?_
          refine xp_seq ?_
          refine xp_seq ?_
          refine xp_region rfl ?_
          refine op_pure (pv_move (v := .slice _ _ _) rfl) ?_
          refine op_pure (pv_len rfl rfl) ?_
          refine op_pure (pv_move (v := .int .i64 _) rfl) ?_
          refine xp_block ?_
          refine xp_loopL [13, 14, 54, 55, 56, 57, 58, 59, 60, 61, 62, 63, 64, 65, 66, 67, 68, 69] 2 (α := Nat) (fun k => [(54, .int .i64 k)]) (fun k L => L.set 1 (some (b4, .cells ((capN (raisedN s.heats 0 s.heats.length ((n : Int) + 1)) k).flatMap rgC ++ junk4).toArray 51 (0, 0)))) (fun k h_k => k ≤ (warmL s.heats s.heats.length ((n : Int) + 1)).length) (fun k => (warmL s.heats s.heats.length ((n : Int) + 1)).length - k) (0) ⟨rfl, trivial⟩ (by rw [capN_zero]; rfl) (Nat.zero_le _) ?_
          rintro k T2 h_k E_k J_k
          refine goes_norm [_, _] rfl ?_
          refine xp_seq ?_
          refine xp_region rfl ?_
          refine op_pure (pv_of (v := .bool _) rfl) ?_
          refine xp_seq ?_
          refine xp_cond rfl (fun hk2 => ?_) (fun hk2 => ?_)
          · skip
            have hkw := ltI hk2
            have hkr : k < (raisedN s.heats 0 s.heats.length ((n : Int) + 1)).length := by omega
            have hkc : k < (capN (raisedN s.heats 0 s.heats.length ((n : Int) + 1)) k).length := by rw [capN_len]; exact hkr
            have hoff : 0 + (k : Int).toNat * 2 = k * 2 := by omega
            refine xp_skip ?_
            refine xp_seq ?_
            refine xp_block ?_
            refine xp_seq ?_
            refine xp_region rfl ?_
            refine op_pure (pv_move (v := .int .i64 _) rfl) ?_
            refine op_pure (pv_index rfl rfl rfl rfl (by omega) (by omega)) ?_
            refine op_loadW (cs := [.int .i64 (raisedN s.heats 0 s.heats.length ((n : Int) + 1))[k].mn, .int .i64 (raisedN s.heats 0 s.heats.length ((n : Int) + 1))[k].mx]) (off := 0 + (k : Int).toNat * 2) rfl rfl rfl rfl (fun V => by rw [hoff]; exact rg_cells (i := 1) rfl V (capN_at hkr)) ?_
            refine op_alloc (cs := [_, _]) rfl rfl fun b14 hb14 => ?_
            refine wp_norm [_, _, _] rfl ?_
            refine op_pure (pv_assign (v := .int .i64 _) rfl) ?_
            refine op_storeP 2 (v := .agg #[.int .i64 _, .int .i64 _]) (vs := [_, _]) (c' := [_, _]) rfl rfl rfl rfl rfl rfl rfl rfl rfl ?_
            refine wp_norm [_, _, _] rfl ?_
            refine xp_region rfl ?_
            refine op_pure (pv_move (v := .slice _ _ _) rfl) ?_
            refine op_pure (pv_move (v := .int .i64 _) rfl) ?_
            refine op_pure (pv_fieldAddr rfl rfl rfl rfl 0 rfl) ?_
            refine op_loadP 2 (v := .int .i64 _) rfl rfl rfl rfl ?_
            refine op_pure (pv_min rfl rfl) ?_
            refine op_pure (pv_fieldAddr rfl rfl rfl rfl 1 rfl) ?_
            refine op_loadP 2 (v := .int .i64 _) rfl rfl rfl rfl ?_
            refine op_pure (pv_min rfl rfl) ?_
            refine op_pure (pv_build (zc := [_, _]) (vs := [(0, .int .i64 _), (1, .int .i64 _)]) (cs := [_, _]) rfl rfl rfl rfl rfl rfl) ?_
            refine op_pure (pv_index rfl rfl rfl rfl (by omega) (by omega)) ?_
            refine op_storeP 1 (v := .agg #[.int .i64 _, .int .i64 _]) (vs := [.int .i64 (min (raisedN s.heats 0 s.heats.length ((n : Int) + 1))[k].mn 100), .int .i64 (min (raisedN s.heats 0 s.heats.length ((n : Int) + 1))[k].mx 100)]) (off := 0 + (k : Int).toNat * 2) (c' := (capN (raisedN s.heats 0 s.heats.length ((n : Int) + 1)) (k + 1)).flatMap rgC ++ junk4) rfl rfl rfl rfl rfl rfl (Nat.ble_eq_true_of_le (by show 0 + (k : Int).toNat * 2 + 2 ≤ _; rw [List.length_append, flat_len (m := 2) (fun _ _ => rfl)]; omega)) rfl (by rw [hoff, rg_wr hkc, ← capN_succ hkr]; rfl) ?_
            refine wp_norm [_, _, _] rfl ?_
            refine xp_region rfl ?_
            refine op_pure (pv_arith rfl (by omega)) ?_
            refine op_pure (pv_move (v := .int .i64 _) rfl) ?_
            refine ⟨k + 1, ⟨rfl, trivial⟩, rfl, rfl, E_k, fun h3 E3 => hkw, by first | omega | (dsimp only; omega), ?_⟩
            repeat (first | exact off_base _ _ _ | refine off_upd (by decide) ?_ | refine off_updL rfl ?_ | refine off_mix rfl ?_)
          · skip
            have hk3 : k = (warmL s.heats s.heats.length ((n : Int) + 1)).length := by have := geI hk2; omega
            subst hk3
            have ecap : capN (raisedN s.heats 0 s.heats.length ((n : Int) + 1)) (warmL s.heats s.heats.length ((n : Int) + 1)).length = warmL s.heats s.heats.length ((n : Int) + 1) := by rw [hwl.trans (hrl.symm), capN_all]; rfl
            refine goes_pub 1 rfl ?_
            intro h6 E6 p6
            rw [ecap] at p6
            have Rw : SeasonR h6 (some ⟨b4, 0, none⟩) B1 B2 none ({ s with heats := warmL s.heats s.heats.length ((n : Int) + 1), reports := [] } : Season) := ⟨rg_row p6, R2.damps.ext (Ext.trans (Ext.trans (Ext.trans (Ext.trans (Ext.trans E3 E_n) E4) E5) E_k) E6), R2.joints.ext (Ext.trans (Ext.trans (Ext.trans (Ext.trans (Ext.trans E3 E_n) E4) E5) E_k) E6), ⟨fun _ h => (by cases h), Rd.nil _ _⟩⟩
            refine xp_exit ?_
            refine xp_seq ?_
            refine xp_region rfl ?_
            refine op_pure (pv_move (v := _) rfl) ?_
            refine op_loadPA 0 (vs := [.slice _ _ _, .slice _ _ _, .slice _ _ _, .slice _ _ _]) rfl rfl rfl rfl rfl ?_
            refine op_pure (pv_move (v := .slice _ _ _) rfl) ?_
            refine op_invoke rfl (by kernel_rfl) rfl rfl (waxUnder_ok (bare s) B0 B1 B2 none (some ⟨b4, 0, none⟩) d0 d1 d2 0 _ cap4 h6) ?_
            rintro _ h7 E7 rfl
            refine op_alloc (cs := [_, _, _, _]) rfl rfl fun b15 hb15 => ?_
            refine wp_norm [_, _, _] rfl ?_
            refine op_storeP 2 (v := .agg #[.slice _ _ _, .slice _ _ _, .slice _ _ _, .slice _ _ _]) (vs := [_, _, _, _]) (c' := [_, _, _, _]) rfl rfl rfl rfl rfl rfl rfl rfl rfl ?_
            refine wp_norm [_, _, _] rfl ?_
            refine xp_seq ?_
            refine xp_seq ?_
            refine xp_region rfl ?_
            refine op_loadPA 2 (vs := [.slice _ _ _, .slice _ _ _, .slice _ _ _, .slice _ _ _]) rfl rfl rfl rfl rfl ?_
            refine op_fn (caps := []) (vs := [.agg #[.slice _ _ _, .slice _ _ _, .slice _ _ _, .slice _ _ _]]) rfl rfl rfl (bothOf_ok ({ s with heats := warmL s.heats s.heats.length ((n : Int) + 1), reports := [] } : Season) SVw.b (some ⟨b4, 0, none⟩) B1 B2 none cap4 d1 d2 0 h7 (Rw.ext E7)) ?_
            rintro _ h8 E8 ⟨_, rfl, A, c, mf, fm, fl, A', c', mf', fm', fl', rfl, X, X'⟩
            refine op_pure (pv_move (v := .tuple #[.agg #[.slice _ _ _, .map _, .map _, .map _, .map _, .slice _ _ _, .map _, .map _, .map _, .map _], .bool _]) rfl) ?_
            refine op_pure (pv_of (v := .agg #[.slice _ _ _, .map _, .map _, .map _, .map _, .slice _ _ _, .map _, .map _, .map _, .map _]) rfl) ?_
            refine op_pure (pv_of (v := .bool _) rfl) ?_
            refine op_alloc (cs := [_, _, _, _, _, _, _, _, _, _]) rfl rfl fun b16 hb16 => ?_
            refine wp_norm [_, _, _, _] rfl ?_
            refine op_storeP 3 (v := .agg #[.slice _ _ _, .map _, .map _, .map _, .map _, .slice _ _ _, .map _, .map _, .map _, .map _]) (vs := [_, _, _, _, _, _, _, _, _, _]) (c' := [_, _, _, _, _, _, _, _, _, _]) rfl rfl rfl rfl rfl rfl rfl rfl rfl ?_
            refine wp_norm [_, _, _, _] rfl ?_
            refine op_pure (pv_assign (v := .bool _) rfl) ?_
            refine xp_seq ?_
            refine xp_region rfl ?_
            refine op_loadPA 3 (vs := [.slice _ _ _, .map _, .map _, .map _, .map _, .slice _ _ _, .map _, .map _, .map _, .map _]) rfl rfl rfl rfl rfl ?_
            refine op_loadPA 2 (vs := [.slice _ _ _, .slice _ _ _, .slice _ _ _, .slice _ _ _]) rfl rfl rfl rfl rfl ?_
            refine op_pure (pv_move (v := .int .i64 _) rfl) ?_
            refine op_pure (pv_move (v := .int .i64 _) rfl) ?_
            refine op_fn (caps := []) (vs := [.agg #[.slice _ _ _, .map _, .map _, .map _, .map _, .slice _ _ _, .map _, .map _, .map _, .map _], .agg #[.slice _ _ _, .slice _ _ _, .slice _ _ _, .slice _ _ _], .int .i64 _, .int .i64 _]) rfl rfl rfl (failed_ok ({ s with heats := warmL s.heats s.heats.length ((n : Int) + 1), reports := [] } : Season) SVw j w hj (by show w < (warmL _ _ _).length; omega) A c mf fm fl A' c' mf' fm' fl' (some ⟨b4, 0, none⟩) B1 B2 none cap4 d1 d2 0 h8 (Rw.ext (Ext.trans E7 E8)) (X.ext (Ext.refl _)) (X'.ext (Ext.refl _))) ?_
            rintro _ h9 E9 rfl
            refine op_pure (pv_of (v := .bool _) rfl) ?_
            refine xp_cond rfl (fun hf => ?_) (fun hf => ?_)
            · skip
              refine xp_exit ?_
              refine xp_seq ?_
              refine xp_region rfl ?_
              refine op_pure (pv_move (v := .int .i64 _) rfl) ?_
              refine op_pure (pv_assign (v := .int .i64 _) rfl) ?_
              refine op_pure (pv_assign (v := .int .i64 _) rfl) ?_
              refine xp_ret ?_
              refine res_list (vs := [_, _]) Try.results33 ⟨resV_tmp rfl rfl, resV_tmp rfl rfl, trivial⟩ fun V => ?_
              refine ⟨(Ext.trans (Ext.trans (Ext.trans (Ext.trans (Ext.trans (Ext.trans (Ext.trans (Ext.trans (Ext.trans (Ext.trans (Ext.trans E1 E2) E3) E_n) E4) E5) E_k) E6) E7) E8) E9) (ext_wl V)), ?_⟩
              rw [hm0, hval, marginM, find_range hn K2 (by rw [tooWarm, hka, warmS_1]; simpa using hf)]
              rfl
            · skip
              have K3 : ∀ i, i < n + 1 → tooWarm s j w i = false := by
                intro i hi
                rcases Nat.lt_succ_iff_lt_or_eq.1 hi with h1 | h1
                · exact K2 i h1
                · rw [h1, tooWarm, hka, warmS_1]; simpa using hf
              refine xp_skip ?_
              refine xp_region rfl ?_
              refine op_pure (pv_move (v := .int .i64 _) rfl) ?_
              refine op_pure (pv_arith rfl (by omega)) ?_
              refine op_pure (pv_assign (v := .int .i64 _) rfl) ?_
              refine ⟨n + 1, ⟨rfl, trivial⟩, rfl, rfl, (Ext.trans (Ext.trans (Ext.trans (Ext.trans (Ext.trans (Ext.trans (Ext.trans E_n E4) E5) E_k) E6) E7) E8) E9), fun h3 E3 => ⟨hn, K3⟩, by first | omega | (dsimp only; omega), ?_⟩
              repeat (first | exact off_base _ _ _ | refine off_upd (by decide) ?_ | refine off_updL rfl ?_ | refine off_mix rfl ?_)
        · skip
          have hn : n = 30 := by have := geI (n := 30) ht; omega
          subst hn
          refine xp_exit ?_
          refine xp_seq ?_
          refine xp_region rfl ?_
          refine op_pure (pv_move (v := .int .i64 _) rfl) ?_
          refine op_pure (pv_assign (v := .int .i64 _) rfl) ?_
          refine op_pure (pv_assign (v := .int .i64 _) rfl) ?_
          refine xp_ret ?_
          refine res_list (vs := [_, _]) Try.results33 ⟨resV_tmp rfl rfl, resV_tmp rfl rfl, trivial⟩ fun V => ?_
          refine ⟨(Ext.trans (Ext.trans (Ext.trans (Ext.trans E1 E2) E3) E_n) (ext_wl V)), ?_⟩
          rw [hm0, hval, marginM, find_range_none K2]
          rfl
      · skip
        rw [hki] at hka ⊢
        refine op_pure (pv_assign (v := _) rfl) ?_
        refine xp_seq ?_
        refine xp_region rfl ?_
        refine op_pure (pv_assign (v := .int .i64 _) rfl) ?_
        refine xp_seq ?_
        refine xp_block ?_
        refine xp_loopB [11, 12, 13, 14, 15, 16, 17, 40, 41, 42, 43, 44, 45, 46, 47, 48, 49, 50, 51, 52, 53, 54, 55, 56, 57, 58, 59, 60, 61, 62, 63, 64, 65, 66, 67, 68, 69, 70, 71, 72, 73, 74, 75, 76, 77, 78, 79, 80, 81, 82, 83, 84, 85, 86] 1 (α := Nat) (fun n => [(11, .int .i64 n)]) (fun n => _) (fun n h_n => n ≤ 30 ∧ ∀ i, i < n → tooWarm s j w i = false) (fun n => 30 - n) (0) ⟨rfl, trivial⟩ (rfl) (⟨by omega, fun i hi => absurd hi (Nat.not_lt_zero i)⟩) ?_
        rintro n T3 h_n E_n J_n
        refine goes_norm [_] rfl ?_
        obtain ⟨K1, K2⟩ := J_n
        have E2n := (Ext.trans E3 E_n)
        refine xp_seq ?_
        refine xp_seq ?_
        refine xp_region rfl ?_
        refine op_pure (pv_move (v := .int .i64 _) rfl) ?_
        refine op_pure (pv_of (v := .bool _) rfl) ?_
        refine xp_cond rfl (fun ht => ?_) (fun ht => ?_)
        · skip
          have hn : n < 30 := ltI (n := 30) ht
          have SVw : SeasonV ({ s with damps := warmL s.damps s.heats.length ((n : Int) + 1), reports := [] } : Season) := by rw [← warmS_2]; exact warmS_v SV (by omega)
          have hwl := warmL_len s.damps s.heats.length ((n : Int) + 1)
          have hrl := raisedN_len s.damps 0 s.heats.length ((n : Int) + 1)
          refine xp_skip ?_
          refine xp_block ?_
          refine xp_seq ?_
          refine xp_dw [] rfl rfl rfl ?_
          refine dw_pure (i := 0) rfl (by decide +kernel) (pv_move (v := _) rfl) ?_
          refine dw_load (i := 1) rfl (by decide +kernel) ?_
          refine op_loadPA 0 (vs := [.slice _ _ _, .slice _ _ _, .slice _ _ _, .slice _ _ _]) rfl rfl rfl rfl rfl ?_
          refine dw_pure (i := 3) rfl (by decide +kernel) (pv_fieldAddr rfl rfl rfl rfl 0 rfl) ?_
          refine dw_load (i := 4) rfl (by decide +kernel) ?_
          refine op_loadP 0 (v := .slice _ _ _) rfl rfl rfl rfl ?_
          refine dw_pure (i := 5) rfl (by decide +kernel) (pv_len rfl rfl) ?_
          refine dw_pure (i := 6) rfl (by decide +kernel) (pv_arith rfl (by omega)) ?_
          refine dw_pure (i := 7) rfl (by decide +kernel) (pv_move (v := .int .i64 _) rfl) ?_
          refine dw_pure (i := 8) rfl (by decide +kernel) (pv_arith rfl (by omega)) ?_
          refine dw_eff (i := 2) rfl (by decide +kernel) ?_
          refine op_invoke rfl (by kernel_rfl) rfl rfl (leatherWeather_ok (bare s) B0 B1 B2 none d0 d1 d2 0 h_n) ?_
          rintro _ h4 E4 rfl
          refine ⟨ext_wlm E4 _, ?_⟩
          refine dw_last (i := 9) rfl (by decide +kernel) (by decide +kernel) ?_
          refine op_fnMM [_] [] [] rfl rfl rfl (raised_ok s.damps (by omega) (by omega) (fun r hr => by obtain ⟨a1, a2, a3, a4⟩ := SV.b.db r hr; omega) 0 s.heats.length (Nat.zero_le _) (by omega) _ rfl ((n : Int) + 1) (by omega) B1 d1 h4 (R2.damps.ext (Ext.trans (Ext.trans E3 E_n) E4))) ?_
          rintro _ h5 _ E5 ⟨b4, cap4, junk4, rfl, ev⟩
          refine dw_norm [_, _] rfl ?_
          rw [← hwl] at ev
          subst ev
          refine dw_pure (i := 10) rfl (by decide +kernel) (pv_assign (v := .slice _ _ _) rfl) ?_
          refine dw_end rfl ?_
          refine xp_seq ?_
          refine xp_seq ?_
          refine xp_region rfl ?_
          refine op_pure (pv_move (v := .slice _ _ _) rfl) ?_
          refine op_pure (pv_len rfl rfl) ?_
          refine op_pure (pv_move (v := .int .i64 _) rfl) ?_
          refine xp_block ?_
          refine xp_loopL [13, 14, 54, 55, 56, 57, 58, 59, 60, 61, 62, 63, 64, 65, 66, 67, 68, 69] 2 (α := Nat) (fun k => [(54, .int .i64 k)]) (fun k L => L.set 1 (some (b4, .cells ((capN (raisedN s.damps 0 s.heats.length ((n : Int) + 1)) k).flatMap rgC ++ junk4).toArray 51 (0, 0)))) (fun k h_k => k ≤ (warmL s.damps s.heats.length ((n : Int) + 1)).length) (fun k => (warmL s.damps s.heats.length ((n : Int) + 1)).length - k) (0) ⟨rfl, trivial⟩ (by rw [capN_zero]; rfl) (Nat.zero_le _) ?_
          rintro k T4 h_k E_k J_k
          refine goes_norm [_, _] rfl ?_
          refine xp_seq ?_
          refine xp_region rfl ?_
          refine op_pure (pv_of (v := .bool _) rfl) ?_
          refine xp_seq ?_
          refine xp_cond rfl (fun hk2 => ?_) (fun hk2 => ?_)
          · skip
            have hkw := ltI hk2
            have hkr : k < (raisedN s.damps 0 s.heats.length ((n : Int) + 1)).length := by omega
            have hkc : k < (capN (raisedN s.damps 0 s.heats.length ((n : Int) + 1)) k).length := by rw [capN_len]; exact hkr
            have hoff : 0 + (k : Int).toNat * 2 = k * 2 := by omega
            refine xp_skip ?_
            refine xp_seq ?_
            refine xp_block ?_
            refine xp_seq ?_
            refine xp_region rfl ?_
            refine op_pure (pv_move (v := .int .i64 _) rfl) ?_
            refine op_pure (pv_index rfl rfl rfl rfl (by omega) (by omega)) ?_
            refine op_loadW (cs := [.int .i64 (raisedN s.damps 0 s.heats.length ((n : Int) + 1))[k].mn, .int .i64 (raisedN s.damps 0 s.heats.length ((n : Int) + 1))[k].mx]) (off := 0 + (k : Int).toNat * 2) rfl rfl rfl rfl (fun V => by rw [hoff]; exact rg_cells (i := 1) rfl V (capN_at hkr)) ?_
            refine op_alloc (cs := [_, _]) rfl rfl fun b14_1 hb14_1 => ?_
            refine wp_norm [_, _, _] rfl ?_
            refine op_pure (pv_assign (v := .int .i64 _) rfl) ?_
            refine op_storeP 2 (v := .agg #[.int .i64 _, .int .i64 _]) (vs := [_, _]) (c' := [_, _]) rfl rfl rfl rfl rfl rfl rfl rfl rfl ?_
            refine wp_norm [_, _, _] rfl ?_
            refine xp_region rfl ?_
            refine op_pure (pv_move (v := .slice _ _ _) rfl) ?_
            refine op_pure (pv_move (v := .int .i64 _) rfl) ?_
            refine op_pure (pv_fieldAddr rfl rfl rfl rfl 0 rfl) ?_
            refine op_loadP 2 (v := .int .i64 _) rfl rfl rfl rfl ?_
            refine op_pure (pv_min rfl rfl) ?_
            refine op_pure (pv_fieldAddr rfl rfl rfl rfl 1 rfl) ?_
            refine op_loadP 2 (v := .int .i64 _) rfl rfl rfl rfl ?_
            refine op_pure (pv_min rfl rfl) ?_
            refine op_pure (pv_build (zc := [_, _]) (vs := [(0, .int .i64 _), (1, .int .i64 _)]) (cs := [_, _]) rfl rfl rfl rfl rfl rfl) ?_
            refine op_pure (pv_index rfl rfl rfl rfl (by omega) (by omega)) ?_
            refine op_storeP 1 (v := .agg #[.int .i64 _, .int .i64 _]) (vs := [.int .i64 (min (raisedN s.damps 0 s.heats.length ((n : Int) + 1))[k].mn 100), .int .i64 (min (raisedN s.damps 0 s.heats.length ((n : Int) + 1))[k].mx 100)]) (off := 0 + (k : Int).toNat * 2) (c' := (capN (raisedN s.damps 0 s.heats.length ((n : Int) + 1)) (k + 1)).flatMap rgC ++ junk4) rfl rfl rfl rfl rfl rfl (Nat.ble_eq_true_of_le (by show 0 + (k : Int).toNat * 2 + 2 ≤ _; rw [List.length_append, flat_len (m := 2) (fun _ _ => rfl)]; omega)) rfl (by rw [hoff, rg_wr hkc, ← capN_succ hkr]; rfl) ?_
            refine wp_norm [_, _, _] rfl ?_
            refine xp_region rfl ?_
            refine op_pure (pv_arith rfl (by omega)) ?_
            refine op_pure (pv_move (v := .int .i64 _) rfl) ?_
            refine ⟨k + 1, ⟨rfl, trivial⟩, rfl, rfl, E_k, fun h3 E3 => hkw, by first | omega | (dsimp only; omega), ?_⟩
            repeat (first | exact off_base _ _ _ | refine off_upd (by decide) ?_ | refine off_updL rfl ?_ | refine off_mix rfl ?_)
          · skip
            have hk3 : k = (warmL s.damps s.heats.length ((n : Int) + 1)).length := by have := geI hk2; omega
            subst hk3
            have ecap : capN (raisedN s.damps 0 s.heats.length ((n : Int) + 1)) (warmL s.damps s.heats.length ((n : Int) + 1)).length = warmL s.damps s.heats.length ((n : Int) + 1) := by rw [hwl.trans (hrl.symm), capN_all]; rfl
            refine goes_pub 1 rfl ?_
            intro h6 E6 p6
            rw [ecap] at p6
            have Rw : SeasonR h6 B0 (some ⟨b4, 0, none⟩) B2 none ({ s with damps := warmL s.damps s.heats.length ((n : Int) + 1), reports := [] } : Season) := ⟨R2.heats.ext (Ext.trans (Ext.trans (Ext.trans (Ext.trans (Ext.trans E3 E_n) E4) E5) E_k) E6), rg_row p6, R2.joints.ext (Ext.trans (Ext.trans (Ext.trans (Ext.trans (Ext.trans E3 E_n) E4) E5) E_k) E6), ⟨fun _ h => (by cases h), Rd.nil _ _⟩⟩
            refine xp_exit ?_
            refine xp_seq ?_
            refine xp_region rfl ?_
            refine op_pure (pv_move (v := _) rfl) ?_
            refine op_loadPA 0 (vs := [.slice _ _ _, .slice _ _ _, .slice _ _ _, .slice _ _ _]) rfl rfl rfl rfl rfl ?_
            refine op_pure (pv_move (v := .slice _ _ _) rfl) ?_
            refine op_invoke rfl (by kernel_rfl) rfl rfl (leatherUnder_ok (bare s) B0 B1 B2 none (some ⟨b4, 0, none⟩) d0 d1 d2 0 _ cap4 h6) ?_
            rintro _ h7 E7 rfl
            refine op_alloc (cs := [_, _, _, _]) rfl rfl fun b15_1 hb15_1 => ?_
            refine wp_norm [_, _, _] rfl ?_
            refine op_storeP 2 (v := .agg #[.slice _ _ _, .slice _ _ _, .slice _ _ _, .slice _ _ _]) (vs := [_, _, _, _]) (c' := [_, _, _, _]) rfl rfl rfl rfl rfl rfl rfl rfl rfl ?_
            refine wp_norm [_, _, _] rfl ?_
            refine xp_seq ?_
            refine xp_seq ?_
            refine xp_region rfl ?_
            refine op_loadPA 2 (vs := [.slice _ _ _, .slice _ _ _, .slice _ _ _, .slice _ _ _]) rfl rfl rfl rfl rfl ?_
            refine op_fn (caps := []) (vs := [.agg #[.slice _ _ _, .slice _ _ _, .slice _ _ _, .slice _ _ _]]) rfl rfl rfl (bothOf_ok ({ s with damps := warmL s.damps s.heats.length ((n : Int) + 1), reports := [] } : Season) SVw.b B0 (some ⟨b4, 0, none⟩) B2 none d0 cap4 d2 0 h7 (Rw.ext E7)) ?_
            rintro _ h8 E8 ⟨_, rfl, A, c, mf, fm, fl, A', c', mf', fm', fl', rfl, X, X'⟩
            refine op_pure (pv_move (v := .tuple #[.agg #[.slice _ _ _, .map _, .map _, .map _, .map _, .slice _ _ _, .map _, .map _, .map _, .map _], .bool _]) rfl) ?_
            refine op_pure (pv_of (v := .agg #[.slice _ _ _, .map _, .map _, .map _, .map _, .slice _ _ _, .map _, .map _, .map _, .map _]) rfl) ?_
            refine op_pure (pv_of (v := .bool _) rfl) ?_
            refine op_alloc (cs := [_, _, _, _, _, _, _, _, _, _]) rfl rfl fun b16_1 hb16_1 => ?_
            refine wp_norm [_, _, _, _] rfl ?_
            refine op_storeP 3 (v := .agg #[.slice _ _ _, .map _, .map _, .map _, .map _, .slice _ _ _, .map _, .map _, .map _, .map _]) (vs := [_, _, _, _, _, _, _, _, _, _]) (c' := [_, _, _, _, _, _, _, _, _, _]) rfl rfl rfl rfl rfl rfl rfl rfl rfl ?_
            refine wp_norm [_, _, _, _] rfl ?_
            refine op_pure (pv_assign (v := .bool _) rfl) ?_
            refine xp_seq ?_
            refine xp_region rfl ?_
            refine op_loadPA 3 (vs := [.slice _ _ _, .map _, .map _, .map _, .map _, .slice _ _ _, .map _, .map _, .map _, .map _]) rfl rfl rfl rfl rfl ?_
            refine op_loadPA 2 (vs := [.slice _ _ _, .slice _ _ _, .slice _ _ _, .slice _ _ _]) rfl rfl rfl rfl rfl ?_
            refine op_pure (pv_move (v := .int .i64 _) rfl) ?_
            refine op_pure (pv_move (v := .int .i64 _) rfl) ?_
            refine op_fn (caps := []) (vs := [.agg #[.slice _ _ _, .map _, .map _, .map _, .map _, .slice _ _ _, .map _, .map _, .map _, .map _], .agg #[.slice _ _ _, .slice _ _ _, .slice _ _ _, .slice _ _ _], .int .i64 _, .int .i64 _]) rfl rfl rfl (failed_ok ({ s with damps := warmL s.damps s.heats.length ((n : Int) + 1), reports := [] } : Season) SVw j w hj (by exact hw) A c mf fm fl A' c' mf' fm' fl' B0 (some ⟨b4, 0, none⟩) B2 none d0 cap4 d2 0 h8 (Rw.ext (Ext.trans E7 E8)) (X.ext (Ext.refl _)) (X'.ext (Ext.refl _))) ?_
            rintro _ h9 E9 rfl
            refine op_pure (pv_of (v := .bool _) rfl) ?_
            refine xp_cond rfl (fun hf => ?_) (fun hf => ?_)
            · skip
              refine xp_exit ?_
              refine xp_seq ?_
              refine xp_region rfl ?_
              refine op_pure (pv_move (v := .int .i64 _) rfl) ?_
              refine op_pure (pv_assign (v := .int .i64 _) rfl) ?_
              refine op_pure (pv_assign (v := .int .i64 _) rfl) ?_
              refine xp_ret ?_
              refine res_list (vs := [_, _]) Try.results33 ⟨resV_tmp rfl rfl, resV_tmp rfl rfl, trivial⟩ fun V => ?_
              refine ⟨(Ext.trans (Ext.trans (Ext.trans (Ext.trans (Ext.trans (Ext.trans (Ext.trans (Ext.trans (Ext.trans (Ext.trans (Ext.trans E1 E2) E3) E_n) E4) E5) E_k) E6) E7) E8) E9) (ext_wl V)), ?_⟩
              rw [hm0, hval, marginM, find_range hn K2 (by rw [tooWarm, hka, warmS_2]; simpa using hf)]
              rfl
            · skip
              have K3 : ∀ i, i < n + 1 → tooWarm s j w i = false := by
                intro i hi
                rcases Nat.lt_succ_iff_lt_or_eq.1 hi with h1 | h1
                · exact K2 i h1
                · rw [h1, tooWarm, hka, warmS_2]; simpa using hf
              refine xp_skip ?_
              refine xp_region rfl ?_
              refine op_pure (pv_move (v := .int .i64 _) rfl) ?_
              refine op_pure (pv_arith rfl (by omega)) ?_
              refine op_pure (pv_assign (v := .int .i64 _) rfl) ?_
              refine ⟨n + 1, ⟨rfl, trivial⟩, rfl, rfl, (Ext.trans (Ext.trans (Ext.trans (Ext.trans (Ext.trans (Ext.trans (Ext.trans E_n E4) E5) E_k) E6) E7) E8) E9), fun h3 E3 => ⟨hn, K3⟩, by first | omega | (dsimp only; omega), ?_⟩
              repeat (first | exact off_base _ _ _ | refine off_upd (by decide) ?_ | refine off_updL rfl ?_ | refine off_mix rfl ?_)
        · skip
          have hn : n = 30 := by have := geI (n := 30) ht; omega
          subst hn
          refine xp_exit ?_
          refine xp_seq ?_
          refine xp_region rfl ?_
          refine op_pure (pv_move (v := .int .i64 _) rfl) ?_
          refine op_pure (pv_assign (v := .int .i64 _) rfl) ?_
          refine op_pure (pv_assign (v := .int .i64 _) rfl) ?_
          refine xp_ret ?_
          refine res_list (vs := [_, _]) Try.results33 ⟨resV_tmp rfl rfl, resV_tmp rfl rfl, trivial⟩ fun V => ?_
          refine ⟨(Ext.trans (Ext.trans (Ext.trans (Ext.trans E1 E2) E3) E_n) (ext_wl V)), ?_⟩
          rw [hm0, hval, marginM, find_range_none K2]
          rfl
    · have hm0 : marginE s joint week = 11 := by rw [marginE, if_pos he, if_neg hv]
      refine call_body Try.func33 rfl Try.ntmps33 rfl ?_
      refine xp_seq ?_
      refine xp_region rfl ?_
      refine op_box (v := .agg #[.slice _ _ _, .slice _ _ _, .slice _ _ _, .slice _ _ _]) (cs := [_, _, _, _]) rfl rfl fun b3 hb3 => ?_
      refine wp_norm [_] rfl ?_
      refine op_pure (pv_assign (v := .int .i64 _) rfl) ?_
      refine op_pure (pv_assign (v := .int .i64 _) rfl) ?_
      refine xp_seq ?_
      refine xp_region rfl ?_
      refine op_loadPA 0 (vs := [.slice _ _ _, .slice _ _ _, .slice _ _ _, .slice _ _ _]) rfl rfl rfl rfl rfl ?_
      refine op_pure (pv_move (v := .int .i64 _) rfl) ?_
      refine op_pure (pv_move (v := .int .i64 _) rfl) ?_
      refine op_fn (caps := []) (vs := [.agg #[.slice _ _ _, .slice _ _ _, .slice _ _ _, .slice _ _ _], .int .i64 _, .int .i64 _]) rfl rfl rfl (Failed_ok s Sm _ _ A0 A1 A2 A3 c0 c1 c2 c3 h R) ?_
      rintro _ h1 E1 rfl
      refine op_pure (pv_move (v := .tuple #[.int .i64 _, .int .i64 _]) rfl) ?_
      refine op_pure (pv_of (v := .int .i64 _) rfl) ?_
      refine op_pure (pv_of (v := .int .i64 _) rfl) ?_
      refine op_pure (pv_assign (v := .int .i64 _) rfl) ?_
      refine op_pure (pv_assign (v := .int .i64 _) rfl) ?_
      refine xp_seq ?_
      refine xp_seq ?_
      refine xp_region rfl ?_
      refine op_pure (pv_move (v := .int .i64 _) rfl) ?_
      refine op_pure (pv_of (v := .bool _) rfl) ?_
      refine xp_condF rfl (by simp [he]) ?_
      refine xp_skip ?_
      refine xp_seq ?_
      refine xp_seq ?_
      refine xp_region rfl ?_
      refine op_pure (pv_move (v := .int .i64 _) rfl) ?_
      refine op_pure (pv_of (v := .bool _) rfl) ?_
      refine xp_condT rfl (by simp [hv]) ?_
      refine xp_seq ?_
      refine xp_region rfl ?_
      refine op_pure (pv_assign (v := .int .i64 _) rfl) ?_
      refine op_pure (pv_assign (v := .int .i64 _) rfl) ?_
      refine xp_ret ?_
      refine res_list (vs := [_, _]) Try.results33 ⟨resV_tmp rfl rfl, resV_tmp rfl rfl, trivial⟩ fun V => ?_
      refine ⟨(Ext.trans E1 (ext_wl V)), ?_⟩
      rw [marginV, hm0]; rfl
  · have hm0 : marginE s joint week = failedE s joint week := by rw [marginE, if_neg he]
    refine call_body Try.func33 rfl Try.ntmps33 rfl ?_
    refine xp_seq ?_
    refine xp_region rfl ?_
    refine op_box (v := .agg #[.slice _ _ _, .slice _ _ _, .slice _ _ _, .slice _ _ _]) (cs := [_, _, _, _]) rfl rfl fun b3 hb3 => ?_
    refine wp_norm [_] rfl ?_
    refine op_pure (pv_assign (v := .int .i64 _) rfl) ?_
    refine op_pure (pv_assign (v := .int .i64 _) rfl) ?_
    refine xp_seq ?_
    refine xp_region rfl ?_
    refine op_loadPA 0 (vs := [.slice _ _ _, .slice _ _ _, .slice _ _ _, .slice _ _ _]) rfl rfl rfl rfl rfl ?_
    refine op_pure (pv_move (v := .int .i64 _) rfl) ?_
    refine op_pure (pv_move (v := .int .i64 _) rfl) ?_
    refine op_fn (caps := []) (vs := [.agg #[.slice _ _ _, .slice _ _ _, .slice _ _ _, .slice _ _ _], .int .i64 _, .int .i64 _]) rfl rfl rfl (Failed_ok s Sm _ _ A0 A1 A2 A3 c0 c1 c2 c3 h R) ?_
    rintro _ h1 E1 rfl
    refine op_pure (pv_move (v := .tuple #[.int .i64 _, .int .i64 _]) rfl) ?_
    refine op_pure (pv_of (v := .int .i64 _) rfl) ?_
    refine op_pure (pv_of (v := .int .i64 _) rfl) ?_
    refine op_pure (pv_assign (v := .int .i64 _) rfl) ?_
    refine op_pure (pv_assign (v := .int .i64 _) rfl) ?_
    refine xp_seq ?_
    refine xp_seq ?_
    refine xp_region rfl ?_
    refine op_pure (pv_move (v := .int .i64 _) rfl) ?_
    refine op_pure (pv_of (v := .bool _) rfl) ?_
    refine xp_condT rfl (by simp [he]) ?_
    refine xp_seq ?_
    refine xp_region rfl ?_
    refine op_pure (pv_move (v := .int .i64 _) rfl) ?_
    refine op_pure (pv_assign (v := .int .i64 _) rfl) ?_
    refine op_pure (pv_assign (v := .int .i64 _) rfl) ?_
    refine xp_ret ?_
    refine res_list (vs := [_, _]) Try.results33 ⟨resV_tmp rfl rfl, resV_tmp rfl rfl, trivial⟩ fun V => ?_
    refine ⟨(Ext.trans E1 (ext_wl V)), ?_⟩
    rw [marginV, hm0, if_neg he]; rfl
end Go.Proofs.Ytndfkbapoinmkaa
/- Walks: the known season of the laws. Conditions: as each theorem states. -/
namespace Go.Proofs.Ytndfkbapoinmkaa
open Go Go.HL Go.Proofs Go.Wx
set_option maxRecDepth 100000
theorem row_of_block {α : Type} {enc : α → List Value} {m : Nat} {l : List α} (hl : ∀ x ∈ l, (enc x).length = m) {h : AH} {b : Nat} {t : TypeId} (hb : h b = some (.cells (l.flatMap enc).toArray t (0, 0))) : Row h m enc (some ⟨b, 0, none⟩) l :=
  ⟨hl, fun _ => ⟨b, 0, rfl, cells_blk hb⟩⟩
def season0 : Season := ⟨[⟨20, 21⟩, ⟨28, 30⟩, ⟨10, 10⟩], [⟨50, 50⟩, ⟨50, 50⟩, ⟨50, 50⟩], [⟨1, ⟨30, 31⟩, ⟨10, 10⟩, ⟨1, 2⟩, ⟨9, 9⟩⟩, ⟨2, ⟨60, 60⟩, ⟨40, 40⟩, ⟨1, 1⟩, ⟨1, 2⟩⟩], []⟩
def told0 : Season := { season0 with reports := [⟨0, 1, true⟩] }
theorem to_ok (a b : Int) (h : AH) : FnT Try.prog 56 #[.int .i64 a, .int .i64 b] h (fun v _ => v = .agg #[.int .i64 a, .int .i64 b]) := by
  refine call_body Try.func56 rfl Try.ntmps56 rfl ?_
  refine xp_seq ?_
  refine xp_region rfl ?_
  refine op_alloc (cs := [_, _]) rfl rfl fun b4 hb4 => ?_
  refine wp_norm [_] rfl ?_
  refine xp_seq ?_
  refine xp_region rfl ?_
  refine op_pure (pv_move (v := .int .i64 _) rfl) ?_
  refine op_pure (pv_move (v := .int .i64 _) rfl) ?_
  refine op_pure (pv_build (zc := [_, _]) (vs := [(0, .int .i64 _), (1, .int .i64 _)]) (cs := [_, _]) rfl rfl rfl rfl rfl rfl) ?_
  refine op_storeP 0 (v := .agg #[.int .i64 _, .int .i64 _]) (vs := [_, _]) (c' := [_, _]) rfl rfl rfl rfl rfl rfl rfl rfl rfl ?_
  refine wp_norm [_] rfl ?_
  refine xp_ret ?_
  refine res_list (vs := [_]) Try.results56 ⟨resV_agg 0 rfl rfl rfl rfl rfl (vs := [.int .i64 _, .int .i64 _]) rfl, trivial⟩ fun V => ?_
  exact ⟨(ext_wl V), rfl⟩
theorem season0_ok (h : AH) : FnT Try.prog 72 #[] h (fun v h' => SeasonS h' season0 v) := by
  refine call_body Try.func72 rfl Try.ntmps72 rfl ?_
  refine xp_seq ?_
  refine xp_region rfl ?_
  refine op_alloc (cs := [_, _, _, _]) rfl rfl fun b0 hb0 => ?_
  refine wp_norm [_] rfl ?_
  refine xp_seq ?_
  refine xp_region rfl ?_
  refine op_fn (caps := []) (vs := [.int .i64 _, .int .i64 _]) rfl rfl rfl (to_ok _ _ h) ?_
  rintro _ h1 E1 rfl
  refine op_fn (caps := []) (vs := [.int .i64 _, .int .i64 _]) rfl rfl rfl (to_ok _ _ h1) ?_
  rintro _ h2 E2 rfl
  refine op_fn (caps := []) (vs := [.int .i64 _, .int .i64 _]) rfl rfl rfl (to_ok _ _ h2) ?_
  rintro _ h3 E3 rfl
  refine op_buildSlice (zc := [_, _]) (vs := [(0, .agg #[.int .i64 _, .int .i64 _]), (1, .agg #[.int .i64 _, .int .i64 _]), (2, .agg #[.int .i64 _, .int .i64 _])]) (cs := [_, _, _, _, _, _]) rfl rfl rfl rfl rfl rfl rfl fun b4 hb4 => ?_
  refine wp_norm [_, _] rfl ?_
  refine op_fn (caps := []) (vs := [.int .i64 _, .int .i64 _]) rfl rfl rfl (to_ok _ _ h3) ?_
  rintro _ h4 E4 rfl
  refine op_fn (caps := []) (vs := [.int .i64 _, .int .i64 _]) rfl rfl rfl (to_ok _ _ h4) ?_
  rintro _ h5 E5 rfl
  refine op_fn (caps := []) (vs := [.int .i64 _, .int .i64 _]) rfl rfl rfl (to_ok _ _ h5) ?_
  rintro _ h6 E6 rfl
  refine op_buildSlice (zc := [_, _]) (vs := [(0, .agg #[.int .i64 _, .int .i64 _]), (1, .agg #[.int .i64 _, .int .i64 _]), (2, .agg #[.int .i64 _, .int .i64 _])]) (cs := [_, _, _, _, _, _]) rfl rfl rfl rfl rfl rfl rfl fun b8 hb8 => ?_
  refine wp_norm [_, _, _] rfl ?_
  refine op_fn (caps := []) (vs := [.int .i64 _, .int .i64 _]) rfl rfl rfl (to_ok _ _ h6) ?_
  rintro _ h7 E7 rfl
  refine op_fn (caps := []) (vs := [.int .i64 _, .int .i64 _]) rfl rfl rfl (to_ok _ _ h7) ?_
  rintro _ h8 E8 rfl
  refine op_fn (caps := []) (vs := [.int .i64 _, .int .i64 _]) rfl rfl rfl (to_ok _ _ h8) ?_
  rintro _ h9 E9 rfl
  refine op_fn (caps := []) (vs := [.int .i64 _, .int .i64 _]) rfl rfl rfl (to_ok _ _ h9) ?_
  rintro _ h10 E10 rfl
  refine op_pure (pv_build (zc := [_, _, _, _, _, _, _, _, _]) (vs := [(0, .int .i64 _), (1, .agg #[.int .i64 _, .int .i64 _]), (2, .agg #[.int .i64 _, .int .i64 _]), (3, .agg #[.int .i64 _, .int .i64 _]), (4, .agg #[.int .i64 _, .int .i64 _])]) (cs := [_, _, _, _, _, _, _, _, _]) rfl rfl rfl rfl rfl rfl) ?_
  refine op_fn (caps := []) (vs := [.int .i64 _, .int .i64 _]) rfl rfl rfl (to_ok _ _ h10) ?_
  rintro _ h11 E11 rfl
  refine op_fn (caps := []) (vs := [.int .i64 _, .int .i64 _]) rfl rfl rfl (to_ok _ _ h11) ?_
  rintro _ h12 E12 rfl
  refine op_fn (caps := []) (vs := [.int .i64 _, .int .i64 _]) rfl rfl rfl (to_ok _ _ h12) ?_
  rintro _ h13 E13 rfl
  refine op_fn (caps := []) (vs := [.int .i64 _, .int .i64 _]) rfl rfl rfl (to_ok _ _ h13) ?_
  rintro _ h14 E14 rfl
  refine op_pure (pv_build (zc := [_, _, _, _, _, _, _, _, _]) (vs := [(0, .int .i64 _), (1, .agg #[.int .i64 _, .int .i64 _]), (2, .agg #[.int .i64 _, .int .i64 _]), (3, .agg #[.int .i64 _, .int .i64 _]), (4, .agg #[.int .i64 _, .int .i64 _])]) (cs := [_, _, _, _, _, _, _, _, _]) rfl rfl rfl rfl rfl rfl) ?_
  refine op_buildSlice (zc := [_, _, _, _, _, _, _, _, _]) (vs := [(0, .agg #[.int .i64 _, .int .i64 _, .int .i64 _, .int .i64 _, .int .i64 _, .int .i64 _, .int .i64 _, .int .i64 _, .int .i64 _]), (1, .agg #[.int .i64 _, .int .i64 _, .int .i64 _, .int .i64 _, .int .i64 _, .int .i64 _, .int .i64 _, .int .i64 _, .int .i64 _])]) (cs := [_, _, _, _, _, _, _, _, _, _, _, _, _, _, _, _, _, _]) rfl rfl rfl rfl rfl rfl rfl fun b19 hb19 => ?_
  refine wp_norm [_, _, _, _] rfl ?_
  refine op_pure (pv_build (zc := [_, _, _, _]) (vs := [(0, .slice _ _ _), (1, .slice _ _ _), (2, .slice _ _ _)]) (cs := [_, _, _, _]) rfl rfl rfl rfl rfl rfl) ?_
  refine op_storeP 0 (v := .agg #[.slice _ _ _, .slice _ _ _, .slice _ _ _, .slice _ _ _]) (vs := [_, _, _, _]) (c' := [_, _, _, _]) rfl rfl rfl rfl rfl rfl rfl rfl rfl ?_
  refine wp_norm [_, _, _, _] rfl ?_
  refine xp_ret ?_
  refine res_list (vs := [_]) Try.results72 ⟨resV_agg 0 rfl rfl rfl rfl rfl (vs := [.slice _ _ _, .slice _ _ _, .slice _ _ _, .slice _ _ _]) rfl, trivial⟩ fun V => ?_
  exact ⟨(Ext.trans (Ext.trans (Ext.trans (Ext.trans (Ext.trans (Ext.trans (Ext.trans (Ext.trans (Ext.trans (Ext.trans (Ext.trans (Ext.trans (Ext.trans (Ext.trans E1 E2) E3) E4) E5) E6) E7) E8) E9) E10) E11) E12) E13) E14) (ext_wl V)), some ⟨b4, 0, none⟩, some ⟨b8, 0, none⟩, some ⟨b19, 0, none⟩, none, 3, 3, 2, 0, rfl, row_of_block (enc := rgC) (m := 2) (l := season0.heats) (fun _ _ => rfl) (wl_get V (i := 1) rfl), row_of_block (enc := rgC) (m := 2) (l := season0.damps) (fun _ _ => rfl) (wl_get V (i := 2) rfl), row_of_block (enc := jointC) (m := 9) (l := season0.joints) (fun _ _ => rfl) (wl_get V (i := 3) rfl), fun _ h => (by cases h), Rd.nil _ _⟩
theorem told0_ok (h : AH) : FnT Try.prog 73 #[] h (fun v h' => SeasonS h' told0 v) := by
  refine call_body Try.func73 rfl Try.ntmps73 rfl ?_
  refine xp_seq ?_
  refine xp_region rfl ?_
  refine op_alloc (cs := [_, _, _, _]) rfl rfl fun b0 hb0 => ?_
  refine wp_norm [_] rfl ?_
  refine xp_seq ?_
  refine xp_region rfl ?_
  refine op_fn (caps := []) (vs := []) rfl rfl rfl (season0_ok h) ?_
  rintro _ h1 E1 ⟨A0, A1, A2, A3, c0, c1, c2, c3, rfl, R⟩
  refine op_alloc (cs := [_, _, _, _]) rfl rfl fun b1 hb1 => ?_
  refine wp_norm [_, _] rfl ?_
  refine op_storeP 1 (v := .agg #[.slice _ _ _, .slice _ _ _, .slice _ _ _, .slice _ _ _]) (vs := [_, _, _, _]) (c' := [_, _, _, _]) rfl rfl rfl rfl rfl rfl rfl rfl rfl ?_
  refine wp_norm [_, _] rfl ?_
  refine xp_seq ?_
  refine xp_region rfl ?_
  refine op_pure (pv_build (zc := [_, _, _]) (vs := [(1, .int .i64 _), (2, .bool _)]) (cs := [_, _, _]) rfl rfl rfl rfl rfl rfl) ?_
  refine op_buildSlice (zc := [_, _, _]) (vs := [(0, .agg #[.int .i64 _, .int .i64 _, .bool _])]) (cs := [_, _, _]) rfl rfl rfl rfl rfl rfl rfl fun b4 hb4 => ?_
  refine wp_norm [_, _, _] rfl ?_
  refine op_pure (pv_fieldAddr rfl rfl rfl rfl 3 rfl) ?_
  refine op_storeP 1 (v := .slice _ _ _) (vs := [_]) (c' := [_, _, _, _]) rfl rfl rfl rfl rfl rfl rfl rfl rfl ?_
  refine wp_norm [_, _, _] rfl ?_
  refine xp_seq ?_
  refine xp_region rfl ?_
  refine op_loadPA 1 (vs := [.slice _ _ _, .slice _ _ _, .slice _ _ _, .slice _ _ _]) rfl rfl rfl rfl rfl ?_
  refine op_storeP 0 (v := .agg #[.slice _ _ _, .slice _ _ _, .slice _ _ _, .slice _ _ _]) (vs := [_, _, _, _]) (c' := [_, _, _, _]) rfl rfl rfl rfl rfl rfl rfl rfl rfl ?_
  refine wp_norm [_, _, _] rfl ?_
  refine xp_ret ?_
  refine res_list (vs := [_]) Try.results73 ⟨resV_agg 0 rfl rfl rfl rfl rfl (vs := [.slice _ _ _, .slice _ _ _, .slice _ _ _, .slice _ _ _]) rfl, trivial⟩ fun V => ?_
  exact ⟨(Ext.trans E1 (ext_wl V)), A0, A1, A2, some ⟨b4, 0, none⟩, c0, c1, c2, 1, rfl, R.heats.ext (ext_wl V), R.damps.ext (ext_wl V), R.joints.ext (ext_wl V), row_of_block (enc := seenC) (m := 3) (l := told0.reports) (fun _ _ => rfl) (wl_get V (i := 2) rfl)⟩
theorem w_fails : failsL season0 0 = [1, 2, 3] ∧ failsE season0 0 = 0 := by decide +kernel
theorem w_first : firstL told0 = [1, 3] ∧ firstE told0 = 0 := by decide +kernel
theorem w_inspect : inspectL season0 0 = [1, 2] ∧ inspectE season0 0 = 0 := by decide +kernel
theorem w_margin : marginV season0 0 0 = 8 ∧ marginE season0 0 0 = 0 := by decide +kernel
theorem w_causes : causesL season0 0 = [3, 3, 2] := by decide +kernel
theorem small0 : Small season0 := ⟨by decide, by decide, by decide, by decide⟩
theorem smallT : Small told0 := ⟨by decide, by decide, by decide, by decide⟩
section
variable (A0 A1 A2 A3 : Option Addr) (c0 c1 c2 c3 : Nat) (h : AH)
theorem wFails (R : SeasonR h A0 A1 A2 A3 season0) : FnT Try.prog 24 #[seasonV A0 A1 A2 A3 c0 c1 c2 c3 season0, .int .i64 0] h (fun v h' => ∃ w, v = .tuple #[w, .int .i64 0] ∧ SlR h' 1 intC [1, 2, 3] w) := by
  have := Fails_ok season0 small0 0 A0 A1 A2 A3 c0 c1 c2 c3 h R
  rw [w_fails.1, w_fails.2] at this
  exact this
theorem wFirst (R : SeasonR h A0 A1 A2 A3 told0) : FnT Try.prog 43 #[seasonV A0 A1 A2 A3 c0 c1 c2 c3 told0] h (fun v h' => ∃ w, v = .tuple #[w, .int .i64 0] ∧ SlR h' 1 intC [1, 3] w) := by
  have := First_ok told0 smallT A0 A1 A2 A3 c0 c1 c2 c3 h R
  rw [w_first.1, w_first.2] at this
  exact this
theorem wInspect (R : SeasonR h A0 A1 A2 A3 season0) : FnT Try.prog 38 #[seasonV A0 A1 A2 A3 c0 c1 c2 c3 season0, .int .i64 0] h (fun v h' => ∃ w, v = .tuple #[w, .int .i64 0] ∧ SlR h' 1 intC [1, 2] w) := by
  have := Inspect_ok season0 small0 0 A0 A1 A2 A3 c0 c1 c2 c3 h R
  rw [w_inspect.1, w_inspect.2] at this
  exact this
theorem wMargin (R : SeasonR h A0 A1 A2 A3 season0) : FnT Try.prog 33 #[seasonV A0 A1 A2 A3 c0 c1 c2 c3 season0, .int .i64 0, .int .i64 0] h (fun v _ => v = .tuple #[.int .i64 8, .int .i64 0]) := by
  have := Margin_ok season0 small0 0 0 A0 A1 A2 A3 c0 c1 c2 c3 h R
  rw [w_margin.1, w_margin.2] at this
  exact this
theorem wCauses (R : SeasonR h A0 A1 A2 A3 season0) : FnT Try.prog 28 #[seasonV A0 A1 A2 A3 c0 c1 c2 c3 season0, .int .i64 0] h (fun v h' => ∃ w, v = .tuple #[w, .int .i64 0] ∧ SlR h' 1 intC [3, 3, 2] w) := by
  have := Causes_ok season0 small0 0 A0 A1 A2 A3 c0 c1 c2 c3 h R
  rw [w_causes, w_fails.2] at this
  exact this
end
end Go.Proofs.Ytndfkbapoinmkaa
/- Walks: the laws' check at the known season. Conditions: none. -/
namespace Go.Proofs.Ytndfkbapoinmkaa
open Go Go.HL Go.Proofs Go.Wx
set_option maxRecDepth 100000
set_option maxHeartbeats 4000000 in
theorem warm_ok (h : AH) : FnT Try.prog 19 #[] h (fun v _ => v = .bool true) := by
  refine call_body Try.func19 rfl Try.ntmps19 rfl ?_
  refine xp_seq ?_
  refine xp_region rfl ?_
  refine op_pure (pv_assign (v := .bool _) rfl) ?_
  refine xp_seq ?_
  refine xp_region rfl ?_
  refine op_fn (caps := []) (vs := []) rfl rfl rfl (season0_ok h) ?_
  rintro _ h1 E1 ⟨A0, A1, A2, A3, c0, c1, c2, c3, rfl, R1⟩
  refine op_fn (caps := []) (vs := [.agg #[.slice _ _ _, .slice _ _ _, .slice _ _ _, .slice _ _ _], .int .i64 _]) rfl rfl rfl (wFails _ _ _ _ _ _ _ _ h1 R1) ?_
  rintro _ h2 E2 ⟨_, rfl, B2, d2, rfl, S2⟩
  refine op_pure (pv_move (v := .tuple #[.slice _ _ _, .int .i64 _]) rfl) ?_
  refine op_pure (pv_of (v := .slice _ _ _) rfl) ?_
  refine op_pure (pv_of (v := .int .i64 _) rfl) ?_
  refine op_pure (pv_assign (v := .slice _ _ _) rfl) ?_
  refine op_pure (pv_assign (v := .int .i64 _) rfl) ?_
  refine xp_seq ?_
  refine xp_region rfl ?_
  refine op_fn (caps := []) (vs := []) rfl rfl rfl (told0_ok h2) ?_
  rintro _ h3 E3 ⟨A0, A1, A2, A3, c0, c1, c2, c3, rfl, R3⟩
  refine op_fn (caps := []) (vs := [.agg #[.slice _ _ _, .slice _ _ _, .slice _ _ _, .slice _ _ _]]) rfl rfl rfl (wFirst _ _ _ _ _ _ _ _ h3 R3) ?_
  rintro _ h4 E4 ⟨_, rfl, B4, d4, rfl, S4⟩
  refine op_pure (pv_move (v := .tuple #[.slice _ _ _, .int .i64 _]) rfl) ?_
  refine op_pure (pv_of (v := .slice _ _ _) rfl) ?_
  refine op_pure (pv_of (v := .int .i64 _) rfl) ?_
  refine op_pure (pv_assign (v := .slice _ _ _) rfl) ?_
  refine op_pure (pv_assign (v := .int .i64 _) rfl) ?_
  refine xp_seq ?_
  refine xp_region rfl ?_
  refine op_fn (caps := []) (vs := []) rfl rfl rfl (season0_ok h4) ?_
  rintro _ h5 E5 ⟨A0, A1, A2, A3, c0, c1, c2, c3, rfl, R5⟩
  refine op_fn (caps := []) (vs := [.agg #[.slice _ _ _, .slice _ _ _, .slice _ _ _, .slice _ _ _], .int .i64 _]) rfl rfl rfl (wInspect _ _ _ _ _ _ _ _ h5 R5) ?_
  rintro _ h6 E6 ⟨_, rfl, B6, d6, rfl, S6⟩
  refine op_pure (pv_move (v := .tuple #[.slice _ _ _, .int .i64 _]) rfl) ?_
  refine op_pure (pv_of (v := .slice _ _ _) rfl) ?_
  refine op_pure (pv_of (v := .int .i64 _) rfl) ?_
  refine op_pure (pv_assign (v := .slice _ _ _) rfl) ?_
  refine op_pure (pv_assign (v := .int .i64 _) rfl) ?_
  refine xp_seq ?_
  refine xp_region rfl ?_
  refine op_fn (caps := []) (vs := []) rfl rfl rfl (season0_ok h6) ?_
  rintro _ h7 E7 ⟨A0, A1, A2, A3, c0, c1, c2, c3, rfl, R7⟩
  refine op_fn (caps := []) (vs := [.agg #[.slice _ _ _, .slice _ _ _, .slice _ _ _, .slice _ _ _], .int .i64 _, .int .i64 _]) rfl rfl rfl (wMargin _ _ _ _ _ _ _ _ h7 R7) ?_
  rintro _ h8 E8 rfl
  refine op_pure (pv_move (v := .tuple #[.int .i64 _, .int .i64 _]) rfl) ?_
  refine op_pure (pv_of (v := .int .i64 _) rfl) ?_
  refine op_pure (pv_of (v := .int .i64 _) rfl) ?_
  refine op_pure (pv_assign (v := .int .i64 _) rfl) ?_
  refine op_pure (pv_assign (v := .int .i64 _) rfl) ?_
  refine xp_seq ?_
  refine xp_region rfl ?_
  refine op_fn (caps := []) (vs := []) rfl rfl rfl (season0_ok h8) ?_
  rintro _ h9 E9 ⟨A0, A1, A2, A3, c0, c1, c2, c3, rfl, R9⟩
  refine op_fn (caps := []) (vs := [.agg #[.slice _ _ _, .slice _ _ _, .slice _ _ _, .slice _ _ _], .int .i64 _]) rfl rfl rfl (wCauses _ _ _ _ _ _ _ _ h9 R9) ?_
  rintro _ h10 E10 ⟨_, rfl, B10, d10, rfl, S10⟩
  refine op_pure (pv_move (v := .tuple #[.slice _ _ _, .int .i64 _]) rfl) ?_
  refine op_pure (pv_of (v := .slice _ _ _) rfl) ?_
  refine op_pure (pv_of (v := .int .i64 _) rfl) ?_
  refine op_pure (pv_assign (v := .slice _ _ _) rfl) ?_
  refine op_pure (pv_assign (v := .int .i64 _) rfl) ?_
  refine xp_seq ?_
  refine xp_region rfl ?_
  refine op_pure (pv_move (v := .int .i64 _) rfl) ?_
  refine op_pure (pv_of (v := .bool _) rfl) ?_
  refine op_pure (pv_move (v := .bool _) rfl) ?_
  refine guard_yes rfl rfl ?_
  refine op_pure (pv_move (v := .int .i64 _) rfl) ?_
  refine guard_yes rfl rfl ?_
  refine op_pure (pv_of (v := .bool _) rfl) ?_
  refine op_pure (pv_pickT rfl rfl (v := .bool _) rfl) ?_
  refine op_pure (pv_move (v := .bool _) rfl) ?_
  refine guard_yes rfl rfl ?_
  refine op_pure (pv_move (v := .int .i64 _) rfl) ?_
  refine guard_yes rfl rfl ?_
  refine op_pure (pv_of (v := .bool _) rfl) ?_
  refine op_pure (pv_pickT rfl rfl (v := .bool _) rfl) ?_
  refine op_pure (pv_move (v := .bool _) rfl) ?_
  refine guard_yes rfl rfl ?_
  refine op_pure (pv_move (v := .int .i64 _) rfl) ?_
  refine guard_yes rfl rfl ?_
  refine op_pure (pv_of (v := .bool _) rfl) ?_
  refine op_pure (pv_pickT rfl rfl (v := .bool _) rfl) ?_
  refine op_pure (pv_move (v := .bool _) rfl) ?_
  refine guard_yes rfl rfl ?_
  refine op_pure (pv_move (v := .int .i64 _) rfl) ?_
  refine guard_yes rfl rfl ?_
  refine op_pure (pv_of (v := .bool _) rfl) ?_
  refine op_pure (pv_pickT rfl rfl (v := .bool _) rfl) ?_
  refine op_pure (pv_move (v := .bool _) rfl) ?_
  refine guard_yes rfl rfl ?_
  refine op_pure (pv_move (v := .int .i64 _) rfl) ?_
  refine guard_yes rfl rfl ?_
  refine op_pure (pv_of (v := .bool _) rfl) ?_
  refine op_pure (pv_pickT rfl rfl (v := .bool _) rfl) ?_
  refine op_pure (pv_move (v := .bool _) rfl) ?_
  refine guard_yes rfl rfl ?_
  refine op_pure (pv_move (v := .slice _ _ _) rfl) ?_
  refine guard_yes rfl rfl ?_
  refine op_buildSlice (zc := [_]) (vs := [(0, .int .i64 _), (1, .int .i64 _), (2, .int .i64 _)]) (cs := [_, _, _]) rfl rfl rfl rfl rfl rfl rfl fun b60 hb60 => ?_
  refine wp_norm [_] rfl ?_
  refine guard_yes rfl rfl ?_
  refine wp_pub 0 rfl rfl ?_
  intro g1 F1 p1
  refine wp_norm [_] rfl ?_
  refine op_fn (caps := []) (vs := [.slice _ _ _, .slice _ _ _]) rfl rfl rfl (sameInts_ok [1, 2, 3] [1, 2, 3] _ _ _ _ g1 (S2.ext (Ext.trans (Ext.trans (Ext.trans (Ext.trans (Ext.trans (Ext.trans (Ext.trans (Ext.trans E3 E4) E5) E6) E7) E8) E9) E10) F1)) (row_of_block (enc := intC) (m := 1) (l := [1, 2, 3]) (fun _ _ => rfl) p1) (by decide)) ?_
  rintro _ g2 F2 rfl
  refine op_pure (pv_pickT rfl rfl (v := .bool _) rfl) ?_
  refine op_pure (pv_move (v := .bool _) rfl) ?_
  refine guard_yes rfl rfl ?_
  refine op_pure (pv_move (v := .slice _ _ _) rfl) ?_
  refine guard_yes rfl rfl ?_
  refine op_buildSlice (zc := [_]) (vs := [(0, .int .i64 _), (1, .int .i64 _)]) (cs := [_, _]) rfl rfl rfl rfl rfl rfl rfl fun b65 hb65 => ?_
  refine wp_norm [_, _] rfl ?_
  refine guard_yes rfl rfl ?_
  refine wp_pub 1 rfl rfl ?_
  intro g3 F3 p3
  refine wp_norm [_, _] rfl ?_
  refine op_fn (caps := []) (vs := [.slice _ _ _, .slice _ _ _]) rfl rfl rfl (sameInts_ok [1, 3] [1, 3] _ _ _ _ g3 (S4.ext (Ext.trans (Ext.trans (Ext.trans (Ext.trans (Ext.trans (Ext.trans (Ext.trans (Ext.trans E5 E6) E7) E8) E9) E10) F1) F2) F3)) (row_of_block (enc := intC) (m := 1) (l := [1, 3]) (fun _ _ => rfl) p3) (by decide)) ?_
  rintro _ g4 F4 rfl
  refine op_pure (pv_pickT rfl rfl (v := .bool _) rfl) ?_
  refine op_pure (pv_move (v := .bool _) rfl) ?_
  refine guard_yes rfl rfl ?_
  refine op_pure (pv_move (v := .slice _ _ _) rfl) ?_
  refine guard_yes rfl rfl ?_
  refine op_buildSlice (zc := [_]) (vs := [(0, .int .i64 _), (1, .int .i64 _)]) (cs := [_, _]) rfl rfl rfl rfl rfl rfl rfl fun b70 hb70 => ?_
  refine wp_norm [_, _, _] rfl ?_
  refine guard_yes rfl rfl ?_
  refine wp_pub 2 rfl rfl ?_
  intro g5 F5 p5
  refine wp_norm [_, _, _] rfl ?_
  refine op_fn (caps := []) (vs := [.slice _ _ _, .slice _ _ _]) rfl rfl rfl (sameInts_ok [1, 2] [1, 2] _ _ _ _ g5 (S6.ext (Ext.trans (Ext.trans (Ext.trans (Ext.trans (Ext.trans (Ext.trans (Ext.trans (Ext.trans E7 E8) E9) E10) F1) F2) F3) F4) F5)) (row_of_block (enc := intC) (m := 1) (l := [1, 2]) (fun _ _ => rfl) p5) (by decide)) ?_
  rintro _ g6 F6 rfl
  refine op_pure (pv_pickT rfl rfl (v := .bool _) rfl) ?_
  refine op_pure (pv_move (v := .bool _) rfl) ?_
  refine guard_yes rfl rfl ?_
  refine op_pure (pv_move (v := .slice _ _ _) rfl) ?_
  refine guard_yes rfl rfl ?_
  refine op_buildSlice (zc := [_]) (vs := [(0, .int .i64 _), (1, .int .i64 _), (2, .int .i64 _)]) (cs := [_, _, _]) rfl rfl rfl rfl rfl rfl rfl fun b75 hb75 => ?_
  refine wp_norm [_, _, _, _] rfl ?_
  refine guard_yes rfl rfl ?_
  refine wp_pub 3 rfl rfl ?_
  intro g7 F7 p7
  refine wp_norm [_, _, _, _] rfl ?_
  refine op_fn (caps := []) (vs := [.slice _ _ _, .slice _ _ _]) rfl rfl rfl (sameInts_ok [3, 3, 2] [3, 3, 2] _ _ _ _ g7 (S10.ext (Ext.trans (Ext.trans (Ext.trans (Ext.trans (Ext.trans (Ext.trans F1 F2) F3) F4) F5) F6) F7)) (row_of_block (enc := intC) (m := 1) (l := [3, 3, 2]) (fun _ _ => rfl) p7) (by decide)) ?_
  rintro _ g8 F8 rfl
  refine op_pure (pv_pickT rfl rfl (v := .bool _) rfl) ?_
  refine op_pure (pv_assign (v := .bool _) rfl) ?_
  refine xp_ret ?_
  refine res_list (vs := [_]) Try.results19 ⟨resV_tmp rfl rfl, trivial⟩ fun V => ?_
  exact ⟨(Ext.trans (Ext.trans (Ext.trans (Ext.trans (Ext.trans (Ext.trans (Ext.trans (Ext.trans (Ext.trans (Ext.trans (Ext.trans (Ext.trans (Ext.trans (Ext.trans (Ext.trans (Ext.trans (Ext.trans (Ext.trans E1 E2) E3) E4) E5) E6) E7) E8) E9) E10) F1) F2) F3) F4) F5) F6) F7) F8) (ext_wl V)), rfl⟩
end Go.Proofs.Ytndfkbapoinmkaa
/- The own logic, part BB: words whose value does not matter. Conditions: none. -/
namespace Go.HL
open Go
section
variable {P : Program} {n : Nat} {ops : Array Oper} {d : Option Tmp} {op : Op} {ty : TypeId} {ps : String} {af : Array Edge} {os : List Oper} {K : Sl → Pv → AH → Prop} {E : Value → Sl → Pv → AH → Prop} {S : Sl} {L : Pv} {h : AH}
theorem wrap_u64 (z : Int) : ∃ r : Nat, r < 2 ^ 64 ∧ IntKind.wrap .u64 z = (r : Int) := by
  have e : IntKind.wrap .u64 z = z % 2 ^ 64 := by simp [IntKind.wrap, IntKind.bits, IntKind.signed]
  have h1 : 0 ≤ z % 2 ^ 64 := Int.emod_nonneg _ (by decide)
  have h2 : z % 2 ^ 64 < 2 ^ 64 := Int.emod_lt_of_pos _ (by decide)
  exact ⟨(z % 2 ^ 64).toNat, by omega, by rw [e]; omega⟩
theorem op_some {z : Int} (hv : pev P (execOp (ev n S) ⟨d, op, ty, ps, af, none⟩) = some (.value (.int .u64 (IntKind.wrap .u64 z))))
    (k : ∀ r : Nat, r < 2 ^ 64 → wpL P n ops os K E (put S d (.int .u64 (r : Int))) L h) : wpL P n ops (⟨d, op, ty, ps, af, none⟩ :: os) K E S L h := by
  obtain ⟨r, hr, e⟩ := wrap_u64 z
  rw [e] at hv
  exact op_pure hv (k r hr)
theorem dw_some {mask : List Bool} {X : Sl → AH → Prop} {dn ac : List Nat} {i : Nat} {z : Int} (hoi : ops[i]? = some ⟨d, op, ty, ps, af, none⟩) (hok : okS ops dn ac i = true) (hv : pev P (execOp (ev n S) ⟨d, op, ty, ps, af, none⟩) = some (.value (.int .u64 (IntKind.wrap .u64 z))))
    (k : ∀ r : Nat, r < 2 ^ 64 → Dw P n ops mask X (i :: dn) ac (put S d (.int .u64 (r : Int))) L h) : Dw P n ops mask X dn ac S L h := by
  obtain ⟨r, hr, e⟩ := wrap_u64 z
  rw [e] at hv
  exact dw_pure hoi hok hv (k r hr)
theorem pv_rem {t u : TypeId} {x y : Operand} {a b : Nat} {b' : Int} (hx : ev n S x = .int .u64 (a : Int)) (hy : ev n S y = .int .u64 b') (eb : b' = b) (hb : 0 < b) :
    pev P (execOp (ev n S) ⟨d, .binOp .rem t x y u, ty, ps, af, none⟩) = some (.value (.int .u64 ((a % b : Nat) : Int))) := by
  subst eb
  have h0 : ¬ ((b : Nat) : Int) = 0 := by omega
  simp only [execOp, hx, hy, binOp, Op.intDiv, if_neg h0]
  rfl
end
end Go.HL
/- Walks: the pot of numbers. Conditions: as each theorem states. -/
namespace Go.Proofs.Ytndfkbapoinmkaa
open Go Go.HL Go.Proofs Go.Wx
set_option maxRecDepth 100000
theorem step_ok (b x : Nat) (h : AH) : FnM Try.prog (.func (.func 76) #[] ([] : List Value).toArray) [.pointer (some ⟨b, 0, none⟩)] h [some (b, .cells #[.int .u64 (x : Int)] 95 (0, 0))]
    (fun v h' M' => ∃ x' r : Nat, M' = [some (b, .cells #[.int .u64 (x' : Int)] 95 (0, 0))] ∧ v = .int .u64 (r : Int)) := by
  refine fnM_body rfl rfl Try.func76 rfl Try.ntmps76 rfl ?_
  refine xp_seq ?_
  refine xp_region rfl ?_
  refine op_pure (pv_assign (v := .int .u64 _) rfl) ?_
  refine xp_seq ?_
  refine xp_region rfl ?_
  refine op_pure (pv_move (v := .pointer (some ⟨b, 0, none⟩)) rfl) ?_
  refine op_pure (pv_move (v := .pointer (some ⟨b, 0, none⟩)) rfl) ?_
  refine op_pure (pv_of (v := .pointer (some ⟨b, 0, none⟩)) rfl) ?_
  refine op_pure (pv_fieldAddr rfl rfl rfl rfl 0 rfl) ?_
  refine op_loadP 0 (v := .int .u64 _) rfl rfl rfl rfl ?_
  refine op_some rfl fun r1 hr1 => ?_
  refine op_some rfl fun r2 hr2 => ?_
  refine op_pure (pv_of (v := .pointer (some ⟨b, 0, none⟩)) rfl) ?_
  refine op_pure (pv_fieldAddr rfl rfl rfl rfl 0 rfl) ?_
  refine op_storeP 0 (v := .int .u64 _) (vs := [_]) (c' := [_]) rfl rfl rfl rfl rfl rfl rfl rfl rfl ?_
  refine wp_norm [_] rfl ?_
  refine xp_seq ?_
  refine xp_region rfl ?_
  refine op_pure (pv_move (v := .pointer (some ⟨b, 0, none⟩)) rfl) ?_
  refine op_pure (pv_of (v := .pointer (some ⟨b, 0, none⟩)) rfl) ?_
  refine op_pure (pv_fieldAddr rfl rfl rfl rfl 0 rfl) ?_
  refine op_loadP 0 (v := .int .u64 _) rfl rfl rfl rfl ?_
  refine op_pure (pv_assign (v := .int .u64 _) rfl) ?_
  refine xp_seq ?_
  refine xp_region rfl ?_
  refine op_pure (pv_move (v := .int .u64 _) rfl) ?_
  refine op_pure (pv_move (v := .int .u64 _) rfl) ?_
  refine op_pure (pv_shr _ 33 (.inr rfl) rfl rfl rfl rfl (by omega)) ?_
  refine op_some rfl fun r3 hr3 => ?_
  refine op_some rfl fun r4 hr4 => ?_
  refine op_pure (pv_assign (v := .int .u64 _) rfl) ?_
  refine xp_seq ?_
  refine xp_region rfl ?_
  refine op_pure (pv_move (v := .int .u64 _) rfl) ?_
  refine op_pure (pv_move (v := .int .u64 _) rfl) ?_
  refine op_pure (pv_shr _ 33 (.inr rfl) rfl rfl rfl rfl (by omega)) ?_
  refine op_some rfl fun r5 hr5 => ?_
  refine op_some rfl fun r6 hr6 => ?_
  refine op_pure (pv_assign (v := .int .u64 _) rfl) ?_
  refine xp_seq ?_
  refine xp_region rfl ?_
  refine op_pure (pv_move (v := .int .u64 _) rfl) ?_
  refine op_pure (pv_move (v := .int .u64 _) rfl) ?_
  refine op_pure (pv_shr _ 33 (.inr rfl) rfl rfl rfl rfl (by omega)) ?_
  refine op_some rfl fun r7 hr7 => ?_
  refine op_pure (pv_assign (v := .int .u64 _) rfl) ?_
  refine xp_ret ?_
  refine res_list (vs := [_]) Try.results76 ⟨resV_tmp rfl rfl, trivial⟩ fun V => ?_
  exact ⟨_, [_], rfl, V, (Ext.refl _), r2, r7, rfl, rfl⟩
theorem Upto_ok (b x : Nat) (n : Int) (hn : n < 2 ^ 40) (h : AH) : FnM Try.prog (.func (.func 22) #[] ([] : List Value).toArray) [.pointer (some ⟨b, 0, none⟩), .int .i64 n] h [some (b, .cells #[.int .u64 (x : Int)] 95 (0, 0))]
    (fun v h' M' => ∃ (x' : Nat) (k : Int), M' = [some (b, .cells #[.int .u64 (x' : Int)] 95 (0, 0))] ∧ v = .int .i64 k ∧ 0 ≤ k ∧ k ≤ max n 0) := by
  refine fnM_body rfl rfl Try.func22 rfl Try.ntmps22 rfl ?_
  refine xp_seq ?_
  refine xp_region rfl ?_
  refine op_pure (pv_assign (v := .int .i64 _) rfl) ?_
  refine xp_seq ?_
  refine xp_seq ?_
  refine xp_region rfl ?_
  refine op_pure (pv_move (v := .int .i64 _) rfl) ?_
  refine op_pure (pv_of (v := .bool _) rfl) ?_
  refine xp_cond rfl (fun ht => ?_) (fun ht => ?_)
  · skip
    refine xp_seq ?_
    refine xp_region rfl ?_
    refine op_pure (pv_assign (v := .int .i64 _) rfl) ?_
    refine xp_ret ?_
    refine res_list (vs := [_]) Try.results22 ⟨resV_tmp rfl rfl, trivial⟩ fun V => ?_
    exact ⟨_, [_], rfl, V, (Ext.refl _), x, 0, rfl, rfl, by omega, by omega⟩
  · skip
    have h1 : 1 ≤ n := by simpa using ht
    refine xp_skip ?_
    refine xp_seq ?_
    refine xp_region rfl ?_
    refine op_pure (pv_move (v := .pointer (some ⟨b, 0, none⟩)) rfl) ?_
    refine op_fnMM [] [_] [] (vs := _) rfl rfl rfl ((step_ok b x h)) ?_
    rintro _ h2 _ E2 ⟨x2, r, rfl, rfl⟩
    refine wp_norm [_] rfl ?_
    refine op_pure (pv_shr _ 11 (.inr rfl) rfl rfl rfl rfl (by omega)) ?_
    refine op_pure (pv_move (v := .int .i64 _) rfl) ?_
    refine op_pure (pv_arith rfl (by omega)) ?_
    refine op_pure (pv_val (intE (show IntKind.wrap .u64 (n + 1) = (((n + 1).toNat : Nat) : Int) by rw [IntWalk.u64_in _ (by omega)]; omega)) rfl) ?_
    refine op_pure (pv_rem (b := (n + 1).toNat) rfl rfl rfl (by omega)) ?_
    have hm : r / 2 ^ 11 % (n + 1).toNat < (n + 1).toNat := Nat.mod_lt _ (by omega)
    refine op_pure (pv_val (intE (show IntKind.wrap .i64 ((r / 2 ^ 11 % (n + 1).toNat : Nat) : Int) = ((r / 2 ^ 11 % (n + 1).toNat : Nat) : Int) by rw [IntWalk.i64_in _ (by omega)])) rfl) ?_
    refine op_pure (pv_assign (v := .int .i64 _) rfl) ?_
    refine xp_ret ?_
    refine res_list (vs := [_]) Try.results22 ⟨resV_tmp rfl rfl, trivial⟩ fun V => ?_
    exact ⟨_, [_], rfl, V, E2, x2, _, rfl, rfl, by omega, by omega⟩
theorem Within_ok (b x : Nat) (lo hi : Int) (h1 : -2 ^ 30 ≤ lo) (h2 : lo ≤ hi) (h3 : hi ≤ 2 ^ 30) (h : AH) : FnM Try.prog (.func (.func 47) #[] ([] : List Value).toArray) [.pointer (some ⟨b, 0, none⟩), .int .i64 lo, .int .i64 hi] h [some (b, .cells #[.int .u64 (x : Int)] 95 (0, 0))]
    (fun v h' M' => ∃ (x' : Nat) (k : Int), M' = [some (b, .cells #[.int .u64 (x' : Int)] 95 (0, 0))] ∧ v = .int .i64 k ∧ lo ≤ k ∧ k ≤ hi) := by
  refine fnM_body rfl rfl Try.func47 rfl Try.ntmps47 rfl ?_
  refine xp_seq ?_
  refine xp_region rfl ?_
  refine op_pure (pv_assign (v := .int .i64 _) rfl) ?_
  refine xp_seq ?_
  refine xp_region rfl ?_
  refine op_pure (pv_move (v := .int .i64 _) rfl) ?_
  refine op_pure (pv_move (v := .pointer (some ⟨b, 0, none⟩)) rfl) ?_
  refine op_pure (pv_move (v := .int .i64 _) rfl) ?_
  refine op_pure (pv_move (v := .int .i64 _) rfl) ?_
  refine op_pure (pv_arith rfl (by omega)) ?_
  refine op_fnMM [] [_] [] (vs := [.pointer _, .int .i64 _]) rfl rfl rfl ((Upto_ok b x (hi - lo) (by omega) h)) ?_
  rintro _ h2 _ E2 ⟨x2, k, rfl, rfl, k1, k2⟩
  refine wp_norm [_] rfl ?_
  refine op_pure (pv_arith rfl (by omega)) ?_
  refine op_pure (pv_assign (v := .int .i64 _) rfl) ?_
  refine xp_ret ?_
  refine res_list (vs := [_]) Try.results47 ⟨resV_tmp rfl rfl, trivial⟩ fun V => ?_
  exact ⟨_, [_], rfl, V, E2, x2, lo + k, rfl, rfl, by omega, by omega⟩
theorem Of_ok (b x : Nat) (l : List Int) (hl : 0 < l.length) (hl2 : l.length < 2 ^ 20) (A : Option Addr) (c : Nat) (h : AH) (R : Row h 1 intC A l) : FnM Try.prog (.func (.func 75) #[] ([] : List Value).toArray) [.pointer (some ⟨b, 0, none⟩), .slice A l.length c] h [some (b, .cells #[.int .u64 (x : Int)] 95 (0, 0))]
    (fun v h' M' => ∃ (x' : Nat) (k : Int), M' = [some (b, .cells #[.int .u64 (x' : Int)] 95 (0, 0))] ∧ v = .int .i64 k ∧ k ∈ l) := by
  refine fnM_body rfl rfl Try.func75 rfl Try.ntmps75 rfl ?_
  refine xp_seq ?_
  refine xp_region rfl ?_
  refine op_pure (pv_assign (v := .int .i64 _) rfl) ?_
  refine xp_seq ?_
  refine xp_seq ?_
  refine xp_region rfl ?_
  refine op_pure (pv_move (v := .slice _ _ _) rfl) ?_
  refine op_pure (pv_len rfl rfl) ?_
  refine op_pure (pv_of (v := .bool _) rfl) ?_
  refine xp_condF rfl (by first | (rw [decide_eq_false_iff_not]; omega) | (rw [beq_eq_false_iff_ne]; omega)) ?_
  refine xp_skip ?_
  refine xp_seq ?_
  refine xp_region rfl ?_
  refine op_pure (pv_move (v := .slice _ _ _) rfl) ?_
  refine op_pure (pv_move (v := .pointer (some ⟨b, 0, none⟩)) rfl) ?_
  refine op_pure (pv_move (v := .slice _ _ _) rfl) ?_
  refine op_pure (pv_len rfl rfl) ?_
  refine op_pure (pv_arith rfl (by omega)) ?_
  refine op_fnMM [] [_] [] (vs := [.pointer _, .int .i64 _]) rfl rfl rfl ((Upto_ok b x (l.length - 1) (by omega) h)) ?_
  rintro _ h2 _ E2 ⟨x2, k, rfl, rfl, k1, k2⟩
  refine wp_norm [_] rfl ?_
  obtain ⟨q, rfl⟩ : ∃ q : Nat, k = q := ⟨k.toNat, by omega⟩
  have hq : q < l.length := by omega
  obtain ⟨g, off, hA, hc⟩ := (R.ext E2).at (by omega) hq
  refine op_pure (pv_indexE rfl hA rfl rfl rfl (by omega) (by omega)) ?_
  refine op_load (v := .int .i64 _) rfl rfl ((hc) 0 _ rfl) ?_
  refine op_pure (pv_assign (v := .int .i64 _) rfl) ?_
  refine xp_ret ?_
  refine res_list (vs := [_]) Try.results75 ⟨resV_tmp rfl rfl, trivial⟩ fun V => ?_
  exact ⟨_, [_], rfl, V, E2, x2, l[q], rfl, rfl, List.getElem_mem hq⟩
theorem Near_ok (b x : Nat) (a lo hi d : Int) (ha : -2 ^ 30 ≤ a ∧ a ≤ 2 ^ 30) (hd : 0 ≤ d ∧ d ≤ 2 ^ 30) (h : AH) : FnM Try.prog (.func (.func 74) #[] ([] : List Value).toArray) [.pointer (some ⟨b, 0, none⟩), .int .i64 a, .int .i64 lo, .int .i64 hi, .int .i64 d] h [some (b, .cells #[.int .u64 (x : Int)] 95 (0, 0))]
    (fun v h' M' => ∃ (x' : Nat) (u w : Int), M' = [some (b, .cells #[.int .u64 (x' : Int)] 95 (0, 0))] ∧ v = .agg #[.int .i64 (max lo (a - u)), .int .i64 (min hi (a + w))] ∧ 0 ≤ u ∧ u ≤ d ∧ 0 ≤ w ∧ w ≤ d) := by
  refine fnM_body rfl rfl Try.func74 rfl Try.ntmps74 rfl ?_
  refine xp_seq ?_
  refine xp_region rfl ?_
  refine op_alloc (cs := [_, _]) rfl rfl fun b10 hb10 => ?_
  refine wp_norm [_, _] rfl ?_
  refine xp_seq ?_
  refine xp_region rfl ?_
  refine op_pure (pv_move (v := .int .i64 _) rfl) ?_
  refine op_pure (pv_move (v := .int .i64 _) rfl) ?_
  refine op_pure (pv_move (v := .pointer (some ⟨b, 0, none⟩)) rfl) ?_
  refine op_pure (pv_move (v := .pointer (some ⟨b, 0, none⟩)) rfl) ?_
  refine op_pure (pv_move (v := .int .i64 _) rfl) ?_
  refine op_fnMM [] [_] [_] (vs := [.pointer _, .int .i64 _]) rfl rfl rfl ((Upto_ok b x d (by omega) h)) ?_
  rintro _ h2 _ E2 ⟨x2, k2, rfl, rfl, k21, k22⟩
  refine wp_norm [_, _] rfl ?_
  refine op_buildSlice (zc := [_]) (vs := [(0, .int .i64 _), (1, .int .i64 _), (2, .int .i64 _)]) (cs := [_, _, _]) rfl rfl rfl rfl rfl rfl rfl fun b17 hb17 => ?_
  refine wp_norm [_, _, _] rfl ?_
  refine wp_pub 2 rfl rfl ?_
  intro h3 E3 p3
  refine wp_norm [_, _, _] rfl ?_
  refine op_fnMM [] [_] [_, _] (vs := [.pointer _, .slice _ _ _]) rfl rfl rfl ((Of_ok b x2 [0, 0, k2] (by simp) (by simp) _ _ h3 (row_of_block (enc := intC) (m := 1) (l := [0, 0, k2]) (fun _ _ => rfl) p3))) ?_
  rintro _ h4 _ E4 ⟨x4, k4, rfl, rfl, k4m⟩
  refine wp_norm [_, _, _] rfl ?_
  have k4b : 0 ≤ k4 ∧ k4 ≤ d := by simp at k4m; omega
  refine op_pure (pv_arith rfl (by omega)) ?_
  refine op_pure (pv_max rfl rfl) ?_
  refine op_pure (pv_move (v := .int .i64 _) rfl) ?_
  refine op_pure (pv_move (v := .int .i64 _) rfl) ?_
  refine op_pure (pv_move (v := .pointer (some ⟨b, 0, none⟩)) rfl) ?_
  refine op_pure (pv_move (v := .pointer (some ⟨b, 0, none⟩)) rfl) ?_
  refine op_pure (pv_move (v := .int .i64 _) rfl) ?_
  refine op_fnMM [] [_] [_, _] (vs := [.pointer _, .int .i64 _]) rfl rfl rfl ((Upto_ok b x4 d (by omega) h4)) ?_
  rintro _ h5 _ E5 ⟨x5, k5, rfl, rfl, k51, k52⟩
  refine wp_norm [_, _, _] rfl ?_
  refine op_buildSlice (zc := [_]) (vs := [(0, .int .i64 _), (1, .int .i64 _), (2, .int .i64 _)]) (cs := [_, _, _]) rfl rfl rfl rfl rfl rfl rfl fun b27 hb27 => ?_
  refine wp_norm [_, _, _, _] rfl ?_
  refine wp_pub 3 rfl rfl ?_
  intro h6 E6 p6
  refine wp_norm [_, _, _, _] rfl ?_
  refine op_fnMM [] [_] [_, _, _] (vs := [.pointer _, .slice _ _ _]) rfl rfl rfl ((Of_ok b x5 [0, 0, k5] (by simp) (by simp) _ _ h6 (row_of_block (enc := intC) (m := 1) (l := [0, 0, k5]) (fun _ _ => rfl) p6))) ?_
  rintro _ h7 _ E7 ⟨x7, k7, rfl, rfl, k7m⟩
  refine wp_norm [_, _, _, _] rfl ?_
  have k7b : 0 ≤ k7 ∧ k7 ≤ d := by simp at k7m; omega
  refine op_pure (pv_arith rfl (by omega)) ?_
  refine op_pure (pv_min rfl rfl) ?_
  refine op_pure (pv_build (zc := [_, _]) (vs := [(0, .int .i64 _), (1, .int .i64 _)]) (cs := [_, _]) rfl rfl rfl rfl rfl rfl) ?_
  refine op_storeP 1 (v := .agg #[.int .i64 _, .int .i64 _]) (vs := [_, _]) (c' := [_, _]) rfl rfl rfl rfl rfl rfl rfl rfl rfl ?_
  refine wp_norm [_, _, _, _] rfl ?_
  refine xp_ret ?_
  refine res_list (vs := [_]) Try.results74 ⟨resV_agg 1 rfl rfl rfl rfl rfl (vs := [.int .i64 _, .int .i64 _]) rfl, trivial⟩ fun V => ?_
  obtain ⟨h9, E9, e9, V9⟩ := wl_drop [_, _, _] [_] V
  exact ⟨h9, _, e9, V9, Ext.trans (Ext.trans (Ext.trans (Ext.trans (Ext.trans (Ext.trans E2 E3) E4) E5) E6) E7) E9, x7, k4, k7, rfl, rfl, k4b.1, k4b.2, k7b.1, k7b.2⟩
theorem NewPot_ok (l : List Int) (hl : l.length < 2 ^ 63) (A : Option Addr) (c : Nat) (h : AH) (R : Row h 1 intC A l) : FnM Try.prog (.func (.func 20) #[] ([] : List Value).toArray) [.slice A l.length c] h []
    (fun v h' M' => ∃ b x : Nat, M' = [some (b, .cells #[.int .u64 (x : Int)] 95 (0, 0))] ∧ v = .pointer (some ⟨b, 0, none⟩)) := by
  refine fnM_body rfl rfl Try.func20 rfl Try.ntmps20 rfl ?_
  refine xp_seq ?_
  refine xp_region rfl ?_
  refine op_pure (pv_assign (v := .pointer _) rfl) ?_
  refine xp_seq ?_
  refine xp_region rfl ?_
  refine op_pure (pv_build (zc := [_]) (vs := [(0, .int .u64 _)]) (cs := [_]) rfl rfl rfl rfl rfl rfl) ?_
  refine op_box (v := .agg #[.int .u64 _]) (cs := [_]) rfl rfl fun b6 hb6 => ?_
  refine wp_norm [_] rfl ?_
  refine op_pure (pv_assign (v := .pointer (some ⟨b6, 0, none⟩)) rfl) ?_
  refine xp_seq ?_
  refine xp_seq ?_
  refine xp_region rfl ?_
  refine op_pure (pv_assign (v := .int .i64 _) rfl) ?_
  refine xp_block ?_
  refine xp_loopL [4, 7, 8, 9, 10, 11, 12, 13, 14, 15, 16, 17, 18, 19, 20, 21, 22, 23, 24, 25, 26, 27, 28, 29, 30, 31, 32, 33, 34, 35, 36, 37, 38, 39] 1 (α := Nat × Nat) (fun ⟨k, x⟩ => [(4, .int .i64 k)]) (fun ⟨k, x⟩ L => L.set 0 (some (b6, .cells #[.int .u64 (x : Int)] 95 (0, 0)))) (fun ⟨k, x⟩ h_k => k ≤ l.length) (fun ⟨k, x⟩ => l.length - k) ((0, 2611923443488327891)) ⟨rfl, trivial⟩ (rfl) (Nat.zero_le _) ?_
  rintro ⟨k, x⟩ T1 h_k E_k J_k
  refine goes_norm [_] rfl ?_
  refine xp_seq ?_
  refine xp_seq ?_
  refine xp_region rfl ?_
  refine op_pure (pv_move (v := .int .i64 _) rfl) ?_
  refine op_pure (pv_move (v := .slice _ _ _) rfl) ?_
  refine op_pure (pv_len rfl rfl) ?_
  refine op_pure (pv_of (v := .bool _) rfl) ?_
  refine xp_cond rfl (fun ht => ?_) (fun ht => ?_)
  · skip
    have hlt := ltI ht
    obtain ⟨g, off, hA, hc⟩ := (R.ext E_k).at (by omega) hlt
    refine xp_skip ?_
    refine xp_seq ?_
    refine xp_block ?_
    refine xp_seq ?_
    refine xp_dw [] rfl rfl rfl ?_
    refine dw_pure (i := 0) rfl (by decide +kernel) (pv_move (v := .pointer (some ⟨b6, 0, none⟩)) rfl) ?_
    refine dw_pure (i := 1) rfl (by decide +kernel) (pv_move (v := .pointer (some ⟨b6, 0, none⟩)) rfl) ?_
    refine dw_pure (i := 2) rfl (by decide +kernel) (pv_of (v := .pointer (some ⟨b6, 0, none⟩)) rfl) ?_
    refine dw_pure (i := 3) rfl (by decide +kernel) (pv_fieldAddr rfl rfl rfl rfl 0 rfl) ?_
    refine dw_load (i := 4) rfl (by decide +kernel) ?_
    refine op_loadP 0 (v := .int .u64 _) rfl rfl rfl rfl ?_
    refine dw_pure (i := 5) rfl (by decide +kernel) (pv_move (v := .slice _ _ _) rfl) ?_
    refine dw_pure (i := 6) rfl (by decide +kernel) (pv_move (v := .int .i64 _) rfl) ?_
    refine dw_pure (i := 7) rfl (by decide +kernel) (pv_indexE rfl hA rfl rfl rfl (by omega) (by omega)) ?_
    refine dw_load (i := 8) rfl (by decide +kernel) ?_
    refine op_load (v := .int .i64 _) rfl rfl ((hc) 0 _ rfl) ?_
    refine dw_some (i := 9) rfl (by decide +kernel) rfl fun r1 hr1 => ?_
    refine dw_some (i := 10) rfl (by decide +kernel) rfl fun r2 hr2 => ?_
    refine dw_some (i := 11) rfl (by decide +kernel) rfl fun r3 hr3 => ?_
    refine dw_pure (i := 12) rfl (by decide +kernel) (pv_of (v := .pointer (some ⟨b6, 0, none⟩)) rfl) ?_
    refine dw_pure (i := 13) rfl (by decide +kernel) (pv_fieldAddr rfl rfl rfl rfl 0 rfl) ?_
    refine dw_last (i := 14) rfl (by decide +kernel) (by decide +kernel) ?_
    refine op_storeP 0 (v := .int .u64 _) (vs := [_]) (c' := [_]) rfl rfl rfl rfl rfl rfl rfl rfl rfl ?_
    refine dw_norm [_] rfl ?_
    refine dw_end rfl ?_
    refine xp_dw [] rfl rfl rfl ?_
    refine dw_pure (i := 0) rfl (by decide +kernel) (pv_move (v := .pointer (some ⟨b6, 0, none⟩)) rfl) ?_
    refine dw_pure (i := 1) rfl (by decide +kernel) (pv_move (v := .pointer (some ⟨b6, 0, none⟩)) rfl) ?_
    refine dw_pure (i := 2) rfl (by decide +kernel) (pv_of (v := .pointer (some ⟨b6, 0, none⟩)) rfl) ?_
    refine dw_pure (i := 3) rfl (by decide +kernel) (pv_fieldAddr rfl rfl rfl rfl 0 rfl) ?_
    refine dw_load (i := 4) rfl (by decide +kernel) ?_
    refine op_loadP 0 (v := .int .u64 _) rfl rfl rfl rfl ?_
    refine dw_pure (i := 5) rfl (by decide +kernel) (pv_move (v := .pointer (some ⟨b6, 0, none⟩)) rfl) ?_
    refine dw_pure (i := 6) rfl (by decide +kernel) (pv_of (v := .pointer (some ⟨b6, 0, none⟩)) rfl) ?_
    refine dw_pure (i := 7) rfl (by decide +kernel) (pv_fieldAddr rfl rfl rfl rfl 0 rfl) ?_
    refine dw_load (i := 8) rfl (by decide +kernel) ?_
    refine op_loadP 0 (v := .int .u64 _) rfl rfl rfl rfl ?_
    refine dw_pure (i := 9) rfl (by decide +kernel) (pv_shr _ 32 (.inr rfl) rfl rfl rfl rfl (by omega)) ?_
    refine dw_some (i := 10) rfl (by decide +kernel) rfl fun r4 hr4 => ?_
    refine dw_pure (i := 11) rfl (by decide +kernel) (pv_of (v := .pointer (some ⟨b6, 0, none⟩)) rfl) ?_
    refine dw_pure (i := 12) rfl (by decide +kernel) (pv_fieldAddr rfl rfl rfl rfl 0 rfl) ?_
    refine dw_last (i := 13) rfl (by decide +kernel) (by decide +kernel) ?_
    refine op_storeP 0 (v := .int .u64 _) (vs := [_]) (c' := [_]) rfl rfl rfl rfl rfl rfl rfl rfl rfl ?_
    refine dw_norm [_] rfl ?_
    refine dw_end rfl ?_
    refine xp_region rfl ?_
    refine op_pure (pv_move (v := .int .i64 _) rfl) ?_
    refine op_pure (pv_arith rfl (by omega)) ?_
    refine op_pure (pv_assign (v := .int .i64 _) rfl) ?_
    refine ⟨(k + 1, r4), ⟨rfl, trivial⟩, rfl, rfl, E_k, fun h3 E3 => hlt, by first | omega | (dsimp only; omega), ?_⟩
    repeat (first | exact off_base _ _ _ | refine off_upd (by decide) ?_ | refine off_updL rfl ?_ | refine off_mix rfl ?_)
  · skip
    refine xp_exit ?_
    refine xp_seq ?_
    refine xp_region rfl ?_
    refine op_pure (pv_move (v := .pointer (some ⟨b6, 0, none⟩)) rfl) ?_
    refine op_pure (pv_assign (v := .pointer (some ⟨b6, 0, none⟩)) rfl) ?_
    refine xp_ret ?_
    refine res_list (vs := [_]) Try.results20 ⟨resV_tmp rfl rfl, trivial⟩ fun V => ?_
    exact ⟨_, [_], rfl, V, E_k, b6, x, rfl, rfl⟩
end Go.Proofs.Ytndfkbapoinmkaa
/- Walks: a report that is right. Conditions: as each theorem states. -/
namespace Go.Proofs.Ytndfkbapoinmkaa
open Go Go.HL Go.Proofs Go.Wx
set_option maxRecDepth 100000
theorem SeenOf_ok (b x : Nat) (W dn : Nat) (hW : 0 < W) (hW2 : W < 2 ^ 20) (f : List Int) (hf : 0 < f.length) (hf2 : f.length < 2 ^ 20) (HA DA FA : Option Addr) (hc dc fc : Nat) (h : AH) (R : Row h 1 intC FA f) :
    FnM Try.prog (.func (.func 59) #[] ([] : List Value).toArray) [.pointer (some ⟨b, 0, none⟩), .agg #[.slice HA W hc, .slice DA dn dc, .slice FA f.length fc]] h [some (b, .cells #[.int .u64 (x : Int)] 95 (0, 0))]
    (fun v h' M' => ∃ (x' : Nat) (r : Seen), M' = [some (b, .cells #[.int .u64 (x' : Int)] 95 (0, 0))] ∧ v = .agg (seenC r).toArray ∧ 0 ≤ r.joint ∧ r.joint < f.length ∧ 0 ≤ r.week ∧ r.week < W ∧ r.failed = decide (f.getD r.joint.toNat 0 ≤ r.week)) := by
  refine fnM_body rfl rfl Try.func59 rfl Try.ntmps59 rfl ?_
  refine xp_seq ?_
  refine xp_region rfl ?_
  refine op_box (v := .agg #[.slice _ _ _, .slice _ _ _, .slice _ _ _]) (cs := [_, _, _]) rfl rfl fun b3 hb3 => ?_
  refine wp_norm [_, _] rfl ?_
  refine op_alloc (cs := [_, _, _]) rfl rfl fun b4 hb4 => ?_
  refine wp_norm [_, _, _] rfl ?_
  refine xp_seq ?_
  refine xp_dw [true, false, false] rfl rfl rfl ?_
  refine dw_pure (i := 0) rfl (by decide +kernel) (pv_move (v := .pointer (some ⟨b, 0, none⟩)) rfl) ?_
  refine dw_pure (i := 1) rfl (by decide +kernel) (pv_fieldAddr rfl rfl rfl rfl 2 rfl) ?_
  refine dw_load (i := 2) rfl (by decide +kernel) ?_
  refine op_loadP 1 (v := .slice _ _ _) rfl rfl rfl rfl ?_
  refine dw_pure (i := 3) rfl (by decide +kernel) (pv_len rfl rfl) ?_
  refine dw_pure (i := 4) rfl (by decide +kernel) (pv_arith rfl (by omega)) ?_
  refine dw_pure (i := 6) rfl (by decide +kernel) (pv_move (v := .pointer (some ⟨b, 0, none⟩)) rfl) ?_
  refine dw_pure (i := 7) rfl (by decide +kernel) (pv_fieldAddr rfl rfl rfl rfl 0 rfl) ?_
  refine dw_load (i := 8) rfl (by decide +kernel) ?_
  refine op_loadP 1 (v := .slice _ _ _) rfl rfl rfl rfl ?_
  refine dw_pure (i := 9) rfl (by decide +kernel) (pv_len rfl rfl) ?_
  refine dw_pure (i := 10) rfl (by decide +kernel) (pv_arith rfl (by omega)) ?_
  refine dw_eff (i := 5) rfl (by decide +kernel) ?_
  refine op_fnMM [] [_] [_, _] (vs := [.pointer _, .int .i64 _]) rfl rfl rfl ((Upto_ok b x (f.length - 1) (by omega) h)) ?_
  rintro _ h2 _ E2 ⟨x2, k, rfl, rfl, k1, k2⟩
  refine ⟨ext_wlm E2 _, ?_⟩
  refine dw_norm [_, _, _] rfl ?_
  refine dw_last (i := 11) rfl (by decide +kernel) (by decide +kernel) ?_
  refine op_fnMM [] [_] [_, _] (vs := [.pointer _, .int .i64 _]) rfl rfl rfl ((Upto_ok b x2 (W - 1) (by omega) h2)) ?_
  rintro _ h3 _ E3 ⟨x3, w, rfl, rfl, w1, w2⟩
  refine dw_norm [_, _, _] rfl ?_
  obtain ⟨q, rfl⟩ : ∃ q : Nat, k = q := ⟨k.toNat, by omega⟩
  have hq : q < f.length := by omega
  obtain ⟨g, off, hA, hcq⟩ := (R.ext (Ext.trans E2 E3)).at (by omega) hq
  refine dw_pure (i := 12) rfl (by decide +kernel) (pv_build (zc := [_, _, _]) (vs := [(0, .int .i64 _), (1, .int .i64 _)]) (cs := [_, _, _]) rfl rfl rfl rfl rfl rfl) ?_
  refine dw_eff (i := 13) rfl (by decide +kernel) ?_
  refine op_alloc (cs := [_, _, _]) rfl rfl fun b5 hb5 => ?_
  refine ⟨ext_newM hb5 _, ?_⟩
  refine dw_norm [_, _, _, _] rfl ?_
  refine dw_last (i := 14) rfl (by decide +kernel) (by decide +kernel) ?_
  refine op_storeP 3 (v := .agg #[.int .i64 _, .int .i64 _, .bool _]) (vs := [_, _, _]) (c' := [_, _, _]) rfl rfl rfl rfl rfl rfl rfl rfl rfl ?_
  refine dw_norm [_, _, _, _] rfl ?_
  refine dw_end rfl ?_
  refine xp_seq ?_
  refine xp_dw [] rfl rfl rfl ?_
  refine dw_pure (i := 0) rfl (by decide +kernel) (pv_fieldAddr rfl rfl rfl rfl 2 rfl) ?_
  refine dw_load (i := 1) rfl (by decide +kernel) ?_
  refine op_loadP 1 (v := .slice _ _ _) rfl rfl rfl rfl ?_
  refine dw_pure (i := 2) rfl (by decide +kernel) (pv_fieldAddr rfl rfl rfl rfl 0 rfl) ?_
  refine dw_load (i := 3) rfl (by decide +kernel) ?_
  refine op_loadP 3 (v := .int .i64 _) rfl rfl rfl rfl ?_
  refine dw_pure (i := 4) rfl (by decide +kernel) (pv_indexE rfl hA rfl rfl rfl (by omega) (by omega)) ?_
  refine dw_load (i := 5) rfl (by decide +kernel) ?_
  refine op_load (v := .int .i64 _) rfl rfl ((hcq) 0 _ rfl) ?_
  refine dw_pure (i := 6) rfl (by decide +kernel) (pv_fieldAddr rfl rfl rfl rfl 1 rfl) ?_
  refine dw_load (i := 7) rfl (by decide +kernel) ?_
  refine op_loadP 3 (v := .int .i64 _) rfl rfl rfl rfl ?_
  refine dw_pure (i := 8) rfl (by decide +kernel) (pv_of (v := .bool _) rfl) ?_
  refine dw_pure (i := 9) rfl (by decide +kernel) (pv_fieldAddr rfl rfl rfl rfl 2 rfl) ?_
  refine dw_last (i := 10) rfl (by decide +kernel) (by decide +kernel) ?_
  refine op_storeP 3 (v := .bool _) (vs := [_]) (c' := [_, _, _]) rfl rfl rfl rfl rfl rfl rfl rfl rfl ?_
  refine dw_norm [_, _, _, _] rfl ?_
  refine dw_end rfl ?_
  refine xp_seq ?_
  refine xp_region rfl ?_
  refine op_loadPA 3 (vs := [.int .i64 _, .int .i64 _, .bool _]) rfl rfl rfl rfl rfl ?_
  refine op_storeP 2 (v := .agg #[.int .i64 _, .int .i64 _, .bool _]) (vs := [_, _, _]) (c' := [_, _, _]) rfl rfl rfl rfl rfl rfl rfl rfl rfl ?_
  refine wp_norm [_, _, _, _] rfl ?_
  refine xp_ret ?_
  refine res_list (vs := [_]) Try.results59 ⟨resV_agg 2 rfl rfl rfl rfl rfl (vs := [.int .i64 _, .int .i64 _, .bool _]) rfl, trivial⟩ fun V => ?_
  obtain ⟨h9, E9, e9, V9⟩ := wl_drop [_, _, _] [_] V
  refine ⟨h9, _, e9, V9, Ext.trans (Ext.trans E2 E3) E9, x3, ⟨q, w, decide (f[q] ≤ w)⟩, rfl, rfl, by simp, by simp; omega, w1, by simp; omega, ?_⟩
  simp [List.getD_eq_getElem?_getD, List.getElem?_eq_getElem hq]
end Go.Proofs.Ytndfkbapoinmkaa
/- Plain: a season with its truth. Conditions: as each theorem states. -/
namespace Go.Wx
open Go Go.HL
/-- A range about a true value. -/
def NearR (t lo hi d : Int) (r : Rg) : Prop := ∃ u w : Int, 0 ≤ u ∧ u ≤ d ∧ 0 ≤ w ∧ w ≤ d ∧ r = ⟨max lo (t - u), min hi (t + w)⟩
structure NearL (ts : List Int) (rs : List Rg) : Prop where
  len : rs.length = ts.length
  at' : ∀ (i : Nat) t r, ts[i]? = some t → rs[i]? = some r → NearR t (-50) 100 1 r
theorem NearL.nil : NearL [] [] := ⟨rfl, fun i t r h => by simp at h⟩
theorem NearL.snoc {ts : List Int} {rs : List Rg} (n : NearL ts rs) {t : Int} {r : Rg} (h : NearR t (-50) 100 1 r) : NearL (ts ++ [t]) (rs ++ [r]) := by
  refine ⟨by simp [n.len], fun i t' r' h1 h2 => ?_⟩
  by_cases hi : i < ts.length
  · rw [List.getElem?_append_left hi] at h1
    rw [List.getElem?_append_left (by rw [n.len]; exact hi)] at h2
    exact n.at' i t' r' h1 h2
  · have hl := (List.getElem?_eq_some_iff.1 h1).1
    have hi2 : i = ts.length := by simp at hl; omega
    subst hi2
    rw [List.getElem?_append_right (by omega)] at h1
    rw [List.getElem?_append_right (by rw [n.len]; omega)] at h2
    simp [n.len] at h1 h2
    subst h1 h2
    exact h
/-- How many of the first k weeks were cold. -/
def coldN (x : List Int) (lo : Int) (k : Nat) : Nat := ((x.take k).filter fun t => decide (t ≤ lo)).length
def failW (x : List Int) (hi lo many life : Int) (w : Nat) : Bool := decide (x.getD w 0 ≥ hi) || decide ((w : Int) = life) || (decide (x.getD w 0 ≤ lo) && decide ((coldN x lo (w + 1) : Int) = many))
/-- The first failing week among the last k. -/
def failP (x : List Int) (hi lo many life : Int) : Nat → Nat
  | 0 => x.length
  | k + 1 => if failW x hi lo many life (x.length - (k + 1)) then x.length - (k + 1) else failP x hi lo many life k
def failT (x : List Int) (hi lo many life : Int) : Nat := failP x hi lo many life x.length
theorem coldN_succ {x : List Int} {lo : Int} {k : Nat} (hk : k < x.length) : coldN x lo (k + 1) = coldN x lo k + if x[k] ≤ lo then 1 else 0 := by
  unfold coldN
  rw [take_snoc hk, List.filter_append, List.length_append]
  by_cases h : x[k] ≤ lo <;> simp [h]
theorem coldN_le (x : List Int) (lo : Int) (k : Nat) : coldN x lo k ≤ k := by
  unfold coldN
  exact Nat.le_trans (List.length_filter_le _ _) (by simp; omega)
structure JointT (ht dt : List Int) (j : Joint) (f : Int) (hi lo many life : Int) : Prop where
  k : (j.kind = 1 ∧ 25 ≤ hi ∧ hi ≤ 38 ∧ -5 ≤ lo ∧ lo ≤ 8) ∨ (j.kind = 2 ∧ 60 ≤ hi ∧ hi ≤ 72 ∧ 28 ≤ lo ∧ lo ≤ 42)
  m : 1 ≤ many ∧ many ≤ 3
  l : 0 ≤ life ∧ life ≤ 9
  h1 : NearR hi (-50) 100 1 j.high
  h2 : NearR lo (-50) 100 1 j.low
  h3 : NearR many 1 6 1 j.weeks
  h4 : NearR life 0 9 2 j.life
  f : f = (failT (if j.kind = 1 then ht else dt) hi lo many life : Nat)
structure JointsT (ht dt : List Int) (js : List Joint) (fs : List Int) : Prop where
  len : fs.length = js.length
  at' : ∀ (i : Nat) j f, js[i]? = some j → fs[i]? = some f → ∃ hi lo many life, JointT ht dt j f hi lo many life
theorem JointsT.nil {ht dt : List Int} : JointsT ht dt [] [] := ⟨rfl, fun i j f h => by simp at h⟩
theorem JointsT.snoc {ht dt : List Int} {js : List Joint} {fs : List Int} (n : JointsT ht dt js fs) {j : Joint} {f hi lo many life : Int} (h : JointT ht dt j f hi lo many life) : JointsT ht dt (js ++ [j]) (fs ++ [f]) := by
  refine ⟨by simp [n.len], fun i j' f' h1 h2 => ?_⟩
  by_cases hi' : i < js.length
  · rw [List.getElem?_append_left hi'] at h1
    rw [List.getElem?_append_left (by rw [n.len]; exact hi')] at h2
    exact n.at' i j' f' h1 h2
  · have hl := (List.getElem?_eq_some_iff.1 h1).1
    have hi2 : i = js.length := by simp at hl; omega
    subst hi2
    rw [List.getElem?_append_right (by omega)] at h1
    rw [List.getElem?_append_right (by rw [n.len]; omega)] at h2
    simp [n.len] at h1 h2
    subst h1 h2
    exact ⟨_, _, _, _, h⟩
def SeenT (w : Nat) (fs : List Int) (r : Seen) : Prop := 0 ≤ r.joint ∧ r.joint < fs.length ∧ 0 ≤ r.week ∧ r.week < w ∧ r.failed = decide (fs.getD r.joint.toNat 0 ≤ r.week)
/-- A season that its truth bears out. -/
structure SeasonT (weeks joints reports : Nat) (s : Season) (ht dt fs : List Int) : Prop where
  w1 : 1 ≤ ht.length
  ww : ht.length ≤ weeks
  dl : dt.length = ht.length
  hn : NearL ht s.heats
  dn : NearL dt s.damps
  hb : ∀ t ∈ ht, -5 ≤ t ∧ t ≤ 35
  db : ∀ t ∈ dt, 30 ≤ t ∧ t ≤ 70
  jl : s.joints.length ≤ joints
  js : JointsT ht dt s.joints fs
  rl : s.reports.length ≤ reports
  rs : ∀ r ∈ s.reports, SeenT ht.length fs r
/-- The weeks made so far. -/
structure WA where
  i : Int
  x : Nat
  ht : List Int
  dt : List Int
  hs : List Rg
  ds : List Rg
  a1 : Acc
  a2 : Acc
  a3 : Acc
  a4 : Acc
structure WOk (weeks : Nat) (q : WA) : Prop where
  i0 : 0 ≤ q.i
  iw : q.i + q.ht.length ≤ weeks
  pos : 1 ≤ q.i + q.ht.length
  dl : q.dt.length = q.ht.length
  hn : NearL q.ht q.hs
  dn : NearL q.dt q.ds
  hb : ∀ t ∈ q.ht, -5 ≤ t ∧ t ≤ 35
  db : ∀ t ∈ q.dt, 30 ≤ t ∧ t ≤ 70
end Go.Wx
/- Walks: a season with its truth. Conditions: as each theorem states. -/
namespace Go.Proofs.Ytndfkbapoinmkaa
open Go Go.HL Go.Proofs Go.Wx
set_option maxRecDepth 100000
structure WAc (q : WA) : Prop where
  r1 : AccR 3 1 (q.ht.flatMap intC) q.a1
  r2 : AccR 3 1 (q.dt.flatMap intC) q.a2
  r3 : AccR 51 2 (q.hs.flatMap rgC) q.a3
  r4 : AccR 51 2 (q.ds.flatMap rgC) q.a4
theorem memS {α : Type} {l : List α} {p : α → Prop} (h : ∀ x ∈ l, p x) {y : α} (hy : p y) : ∀ x ∈ l ++ [y], p x := fun x hx => by
  rcases List.mem_append.1 hx with h1 | h1
  · exact h x h1
  · rw [List.mem_singleton.1 h1]; exact hy
structure CutJ where
  x : Nat
  hi : Int
  lo : Int
  A : Option Addr
  c : Nat
  l : List Int
theorem perm_two {α : Type} (l1 l2 l3 : List α) (p q : α) : (l1 ++ p :: (l2 ++ q :: l3)).Perm (p :: q :: (l1 ++ (l2 ++ l3))) := by
  refine List.perm_middle.trans (List.Perm.cons p ?_)
  rw [← List.append_assoc, ← List.append_assoc]
  exact List.perm_middle
/-- Three of the private blocks are kept. -/
theorem wl_two {h : AH} {a p q : Option (Nat × Obj)} (l1 l2 l3 : Pv) (V : Valid h (a :: (l1 ++ p :: (l2 ++ q :: l3)))) : ∃ h', Ext h h' ∧ wl h (a :: (l1 ++ p :: (l2 ++ q :: l3))) = wl h' [a, p, q] ∧ Valid h' [a, p, q] := by
  obtain ⟨e, V'⟩ := wl_perm (L' := [a, p, q] ++ (l1 ++ (l2 ++ l3))) (((perm_two l1 l2 l3 p q).cons a).filterMap _) V
  obtain ⟨h', E, e2, V2⟩ := wl_drop (l1 ++ (l2 ++ l3)) [a, p, q] V'
  exact ⟨h', E, e.trans e2, V2⟩
/-- Two of three private blocks are laid open. -/
theorem wl_open {h : AH} {a p q : Option (Nat × Obj)} (V : Valid h [a, p, q]) : ∃ h', Ext h h' ∧ wl h [a, p, q] = wl h' [a] ∧ Valid h' [a] ∧ (∀ b o, p = some (b, o) → h' b = some o) ∧ (∀ b o, q = some (b, o) → h' b = some o) := by
  obtain ⟨h', E, e, V'⟩ := wl_drop [p, q] [a] V
  have key : ∀ z, z ∈ [p, q] → ∀ b o, z = some (b, o) → h' b = some o := by
    intro z hz b o hzb
    have hm : (b, o) ∈ cl [a, p, q] := List.mem_filterMap.2 ⟨z, List.mem_cons_of_mem _ hz, hzb⟩
    have h1 : wl h [a, p, q] b = some o := by
      obtain ⟨i, hi⟩ := List.mem_iff_getElem?.1 (List.mem_cons_of_mem a hz)
      exact wl_get V (i := i) (by rw [hi, hzb])
    change wl h [a, p, q] = wl h' [a] at e
    rw [e] at h1
    have ha : ∀ o', a ≠ some (b, o') := by
      intro o' ha
      have nd := V.nd
      subst ha
      have h2 : cl [some (b, o'), p, q] = (b, o') :: cl [p, q] := rfl
      rw [h2, List.map_cons, List.nodup_cons] at nd
      refine nd.1 (List.mem_map.2 ⟨(b, o), List.mem_filterMap.2 ⟨z, hz, hzb⟩, rfl⟩)
    cases a with
    | none =>
      have : wl h' [none] = h' := rfl
      rw [this] at h1; exact h1
    | some c =>
      obtain ⟨b', o'⟩ := c
      have hne : b ≠ b' := fun e => ha o' (by rw [e])
      have : wl h' [some (b', o')] b = h' b := by
        unfold wl wl0
        have : (cl [some (b', o')]).lookup b = none := by
          show List.lookup b [(b', o')] = none
          rw [List.lookup_cons]
          have : (b == b') = false := by simpa using hne
          rw [this]; rfl
        simp only [this]
      rw [this] at h1; exact h1
  exact ⟨h', E, e, V', key p (by simp), key q (by simp)⟩
def wa0 (i : Int) (x : Nat) : WA := ⟨i, x, [], [], [], [], acc0, acc0, acc0, acc0⟩
set_option maxHeartbeats 8000000 in
theorem SeasonOf_okM (b x weeks joints reports : Nat) (hw : 1 ≤ weeks) (hw2 : weeks ≤ 6) (hj : joints ≤ 3) (hr : reports ≤ 100) (h : AH) :
    FnM Try.prog (.func (.func 21) #[] ([] : List Value).toArray) [.pointer (some ⟨b, 0, none⟩), .int .i64 weeks, .int .i64 joints, .int .i64 reports] h [some (b, .cells #[.int .u64 (x : Int)] 95 (0, 0))]
    (fun v h' M' => ∃ (x' : Nat) (s : Season) (ht dt fs : List Int) (u w : Value) (a5 a7 : Acc), M' = [some (b, .cells #[.int .u64 (x' : Int)] 95 (0, 0)), a5.p, a7.p] ∧ v = .tuple #[u, w] ∧ SeasonT weeks joints reports s ht dt fs
      ∧ AccR 53 9 (s.joints.flatMap jointC) a5 ∧ AccR 56 3 (s.reports.flatMap seenC) a7
      ∧ (∃ A0 c0 A1 c1, u = .agg #[.slice A0 s.heats.length c0, .slice A1 s.damps.length c1, .slice a5.A s.joints.length a5.c, .slice a7.A s.reports.length a7.c] ∧ Row h' 2 rgC A0 s.heats ∧ Row h' 2 rgC A1 s.damps)
      ∧ ∃ HA hc DA dc FA fc, w = .agg #[.slice HA ht.length hc, .slice DA dt.length dc, .slice FA fs.length fc] ∧ Row h' 1 intC HA ht ∧ Row h' 1 intC DA dt ∧ Row h' 1 intC FA fs) := by
  refine fnM_body rfl rfl Try.func21 rfl Try.ntmps21 rfl ?_
  refine xp_seq ?_
  refine xp_region rfl ?_
  refine op_alloc (cs := [_, _, _, _]) rfl rfl fun b8 hb8 => ?_
  refine wp_norm [_, _] rfl ?_
  refine op_alloc (cs := [_, _, _]) rfl rfl fun b9 hb9 => ?_
  refine wp_norm [_, _, _] rfl ?_
  refine xp_seq ?_
  refine xp_region rfl ?_
  refine op_alloc (cs := [_, _, _, _]) rfl rfl fun b10 hb10 => ?_
  refine wp_norm [_, _, _, _] rfl ?_
  refine xp_seq ?_
  refine xp_region rfl ?_
  refine op_alloc (cs := [_, _, _]) rfl rfl fun b11 hb11 => ?_
  refine wp_norm [_, _, _, _, _] rfl ?_
  refine goes_more ?_
  refine goes_norm [_, _, _, _, _, _] rfl ?_
  refine goes_more ?_
  refine goes_norm [_, _, _, _, _, _, _] rfl ?_
  refine goes_more ?_
  refine goes_norm [_, _, _, _, _, _, _, _] rfl ?_
  refine goes_more ?_
  refine goes_norm [_, _, _, _, _, _, _, _, _] rfl ?_
  refine xp_seq ?_
  refine xp_seq ?_
  refine xp_region rfl ?_
  refine op_pure (pv_move (v := .pointer (some ⟨b, 0, none⟩)) rfl) ?_
  refine op_pure (pv_move (v := .int .i64 _) rfl) ?_
  refine op_fnMM [] [_] [_, _, _, _, _, _, _, _] (vs := [.pointer _, .int .i64 _, .int .i64 _]) rfl rfl rfl ((Within_ok b x 1 weeks (by omega) (by omega) (by omega) h)) ?_
  rintro _ h1 _ E1 ⟨x1, i0, rfl, rfl, i01, i02⟩
  refine wp_norm [_, _, _, _, _, _, _, _, _] rfl ?_
  refine op_pure (pv_assign (v := .int .i64 _) rfl) ?_
  refine xp_block ?_
  refine xp_loopL [12, 13, 14, 30, 31, 32, 33, 34, 35, 36, 37, 38, 39, 40, 41, 42, 43, 44, 45, 46, 47, 48, 49, 50, 51, 52, 53, 54, 55, 56, 57, 58, 59, 60, 61, 62, 63, 64, 65] 9 (α := WA) (fun q => [(12, .int .i64 q.i)]) (fun q L => ((((((L.set 0 (some (b, .cells #[.int .u64 (q.x : Int)] 95 (0, 0)))).set 3 (some (b10, .cells #[.slice q.a3.A q.a3.n q.a3.c, .slice q.a4.A q.a4.n q.a4.c, .slice none 0 0, .slice none 0 0] 26 (0, 0)))).set 4 (some (b11, .cells #[.slice q.a1.A q.a1.n q.a1.c, .slice q.a2.A q.a2.n q.a2.c, .slice none 0 0] 33 (0, 0)))).set 5 (q.a1.p)).set 6 (q.a2.p)).set 7 (q.a3.p)).set 8 (q.a4.p)) (fun q h_q => WOk weeks q ∧ WAc q) (fun q => q.i.toNat) (wa0 i0 x1) ⟨rfl, trivial⟩ (rfl) (⟨⟨by show 0 ≤ i0; omega, by show i0 + 0 ≤ _; omega, by show 1 ≤ i0 + 0; omega, rfl, NearL.nil, NearL.nil, fun _ h => (by cases h), fun _ h => (by cases h)⟩, ⟨accR0, accR0, accR0, accR0⟩⟩) ?_
  rintro q T1 h_q E_q J_q
  refine goes_norm [_, _, _, _, _, _, _, _, _] rfl ?_
  obtain ⟨⟨j1, j2, j3, j4, j5, j6, j7, j8⟩, ⟨r1, r2, r3, r4⟩⟩ := J_q
  refine xp_seq ?_
  refine xp_seq ?_
  refine xp_region rfl ?_
  refine op_pure (pv_move (v := .int .i64 _) rfl) ?_
  refine op_pure (pv_of (v := .bool _) rfl) ?_
  refine xp_cond rfl (fun ht => ?_) (fun ht => ?_)
  · skip
    have hi : 0 < q.i := of_decide_eq_true ht
    have hl : q.ht.length ≤ 6 := by omega
    refine xp_skip ?_
    refine xp_seq ?_
    refine xp_block ?_
    refine xp_seq ?_
    refine xp_region rfl ?_
    refine op_pure (pv_move (v := .pointer (some ⟨b, 0, none⟩)) rfl) ?_
    refine op_fnMM [] [_] [_, _, _, _, _, _, _, _] (vs := [.pointer _, .int .i64 _, .int .i64 _]) rfl rfl rfl ((Within_ok b q.x (-5) 35 (by omega) (by omega) (by omega) h_q)) ?_
    rintro _ h2 _ E2 ⟨x2, t, rfl, rfl, t1, t2⟩
    refine wp_norm [_, _, _, _, _, _, _, _, _] rfl ?_
    refine op_pure (pv_move (v := .pointer (some ⟨b, 0, none⟩)) rfl) ?_
    refine op_fnMM [] [_] [_, _, _, _, _, _, _, _] (vs := [.pointer _, .int .i64 _, .int .i64 _]) rfl rfl rfl ((Within_ok b x2 30 70 (by omega) (by omega) (by omega) h2)) ?_
    rintro _ h3 _ E3 ⟨x3, d, rfl, rfl, d1, d2⟩
    refine wp_norm [_, _, _, _, _, _, _, _, _] rfl ?_
    refine op_pure (pv_assign (v := .int .i64 _) rfl) ?_
    refine op_pure (pv_assign (v := .int .i64 _) rfl) ?_
    refine xp_seq ?_
    refine xp_dw [false, false, false, false, false, true, true] rfl rfl rfl ?_
    refine dw_pure (i := 0) rfl (by decide +kernel) (pv_fieldAddr rfl rfl rfl rfl 0 rfl) ?_
    refine dw_load (i := 1) rfl (by decide +kernel) ?_
    refine op_loadP 4 (v := .slice _ _ _) rfl rfl rfl rfl ?_
    refine dw_pure (i := 2) rfl (by decide +kernel) (pv_move (v := .int .i64 _) rfl) ?_
    refine dw_pure (i := 5) rfl (by decide +kernel) (pv_fieldAddr rfl rfl rfl rfl 1 rfl) ?_
    refine dw_load (i := 6) rfl (by decide +kernel) ?_
    refine op_loadP 4 (v := .slice _ _ _) rfl rfl rfl rfl ?_
    refine dw_pure (i := 7) rfl (by decide +kernel) (pv_move (v := .int .i64 _) rfl) ?_
    refine dw_eff (i := 3) rfl (by decide +kernel) ?_
    refine op_buildSlice (zc := [_]) (vs := [(0, .int .i64 _)]) (cs := [_]) rfl rfl rfl rfl rfl rfl rfl fun b41 hb41 => ?_
    refine ⟨ext_newM hb41 _, ?_⟩
    refine dw_norm [_, _, _, _, _, _, _, _, _, _] rfl ?_
    refine dw_eff (i := 4) rfl (by decide +kernel) ?_
    refine op_appendR 5 r1 rfl rfl rfl (fun V => rdP V (i := 9) rfl) rfl rfl rfl rfl rfl rfl rfl rfl rfl (by omega) rfl (by rw [flat_len (m := 1) (fun _ _ => rfl)]; simp; omega) fun a1 h2a E2a ra1 => ?_
    refine ⟨ext_wlm E2a _, ?_⟩
    refine dw_norm [_, _, _, _, _, _, _, _, _, _] rfl ?_
    refine dw_pure (i := 10) rfl (by decide +kernel) (pv_fieldAddr rfl rfl rfl rfl 0 rfl) ?_
    refine dw_eff (i := 8) rfl (by decide +kernel) ?_
    refine op_buildSlice (zc := [_]) (vs := [(0, .int .i64 _)]) (cs := [_]) rfl rfl rfl rfl rfl rfl rfl fun b46 hb46 => ?_
    refine ⟨ext_newM hb46 _, ?_⟩
    refine dw_norm [_, _, _, _, _, _, _, _, _, _, _] rfl ?_
    refine dw_last (i := 9) rfl (by decide +kernel) (by decide +kernel) ?_
    refine op_appendR 6 r2 rfl rfl rfl (fun V => rdP V (i := 10) rfl) rfl rfl rfl rfl rfl rfl rfl rfl rfl (by omega) rfl (by rw [flat_len (m := 1) (fun _ _ => rfl)]; simp; omega) fun a2 h3a E3a ra2 => ?_
    refine dw_norm [_, _, _, _, _, _, _, _, _, _, _] rfl ?_
    refine dw_last (i := 11) rfl (by decide +kernel) (by decide +kernel) ?_
    refine op_storeP 4 (v := .slice _ _ _) (vs := [_]) (c' := [_, _, _]) rfl rfl rfl rfl rfl rfl rfl rfl rfl ?_
    refine dw_norm [_, _, _, _, _, _, _, _, _, _, _] rfl ?_
    refine dw_pure (i := 12) rfl (by decide +kernel) (pv_fieldAddr rfl rfl rfl rfl 1 rfl) ?_
    refine dw_last (i := 13) rfl (by decide +kernel) (by decide +kernel) ?_
    refine op_storeP 4 (v := .slice _ _ _) (vs := [_]) (c' := [_, _, _]) rfl rfl rfl rfl rfl rfl rfl rfl rfl ?_
    refine dw_norm [_, _, _, _, _, _, _, _, _, _, _] rfl ?_
    refine dw_end rfl ?_
    refine xp_dw [true, false, false, false, false, false, false, true, true] rfl rfl rfl ?_
    refine dw_pure (i := 0) rfl (by decide +kernel) (pv_fieldAddr rfl rfl rfl rfl 0 rfl) ?_
    refine dw_load (i := 1) rfl (by decide +kernel) ?_
    refine op_loadP 3 (v := .slice _ _ _) rfl rfl rfl rfl ?_
    refine dw_pure (i := 2) rfl (by decide +kernel) (pv_move (v := .pointer (some ⟨b, 0, none⟩)) rfl) ?_
    refine dw_pure (i := 3) rfl (by decide +kernel) (pv_move (v := .int .i64 _) rfl) ?_
    refine dw_pure (i := 7) rfl (by decide +kernel) (pv_fieldAddr rfl rfl rfl rfl 1 rfl) ?_
    refine dw_load (i := 8) rfl (by decide +kernel) ?_
    refine op_loadP 3 (v := .slice _ _ _) rfl rfl rfl rfl ?_
    refine dw_pure (i := 9) rfl (by decide +kernel) (pv_move (v := .pointer (some ⟨b, 0, none⟩)) rfl) ?_
    refine dw_pure (i := 10) rfl (by decide +kernel) (pv_move (v := .int .i64 _) rfl) ?_
    refine dw_eff (i := 4) rfl (by decide +kernel) ?_
    refine op_fnMM [] [_] [_, _, _, _, _, _, _, _, _, _] (vs := [.pointer _, .int .i64 _, .int .i64 _, .int .i64 _, .int .i64 _]) rfl rfl rfl ((Near_ok b x3 t (-50) 100 1 (by omega) (by omega) h3a)) ?_
    rintro _ h4 _ E4 ⟨x4, u4, w4, rfl, rfl, u41, u42, w41, w42⟩
    refine ⟨ext_wlm E4 _, ?_⟩
    refine dw_norm [_, _, _, _, _, _, _, _, _, _, _] rfl ?_
    refine dw_eff (i := 5) rfl (by decide +kernel) ?_
    refine op_buildSlice (zc := [_, _]) (vs := [(0, .agg #[.int .i64 _, .int .i64 _])]) (cs := [_, _]) rfl rfl rfl rfl rfl rfl rfl fun b55 hb55 => ?_
    refine ⟨ext_newM hb55 _, ?_⟩
    refine dw_norm [_, _, _, _, _, _, _, _, _, _, _, _] rfl ?_
    refine dw_eff (i := 6) rfl (by decide +kernel) ?_
    refine op_appendR 7 r3 rfl rfl rfl (fun V => rdP V (i := 11) rfl) rfl rfl rfl rfl rfl rfl rfl rfl rfl (by omega) rfl (by rw [flat_len (m := 2) (fun _ _ => rfl), j5.len]; simp; omega) fun a3 h4a E4a ra3 => ?_
    refine ⟨ext_wlm E4a _, ?_⟩
    refine dw_norm [_, _, _, _, _, _, _, _, _, _, _, _] rfl ?_
    refine dw_pure (i := 14) rfl (by decide +kernel) (pv_fieldAddr rfl rfl rfl rfl 0 rfl) ?_
    refine dw_eff (i := 11) rfl (by decide +kernel) ?_
    refine op_fnMM [] [_] [_, _, _, _, _, _, _, _, _, _, _] (vs := [.pointer _, .int .i64 _, .int .i64 _, .int .i64 _, .int .i64 _]) rfl rfl rfl ((Near_ok b x4 d (-50) 100 1 (by omega) (by omega) h4a)) ?_
    rintro _ h5 _ E5 ⟨x5, u5, w5, rfl, rfl, u51, u52, w51, w52⟩
    refine ⟨ext_wlm E5 _, ?_⟩
    refine dw_norm [_, _, _, _, _, _, _, _, _, _, _, _] rfl ?_
    refine dw_eff (i := 12) rfl (by decide +kernel) ?_
    refine op_buildSlice (zc := [_, _]) (vs := [(0, .agg #[.int .i64 _, .int .i64 _])]) (cs := [_, _]) rfl rfl rfl rfl rfl rfl rfl fun b62 hb62 => ?_
    refine ⟨ext_newM hb62 _, ?_⟩
    refine dw_norm [_, _, _, _, _, _, _, _, _, _, _, _, _] rfl ?_
    refine dw_last (i := 13) rfl (by decide +kernel) (by decide +kernel) ?_
    refine op_appendR 8 r4 rfl rfl rfl (fun V => rdP V (i := 12) rfl) rfl rfl rfl rfl rfl rfl rfl rfl rfl (by omega) rfl (by rw [flat_len (m := 2) (fun _ _ => rfl), j6.len, j4]; simp; omega) fun a4 h5a E5a ra4 => ?_
    refine dw_norm [_, _, _, _, _, _, _, _, _, _, _, _, _] rfl ?_
    refine dw_last (i := 15) rfl (by decide +kernel) (by decide +kernel) ?_
    refine op_storeP 3 (v := .slice _ _ _) (vs := [_]) (c' := [_, _, _, _]) rfl rfl rfl rfl rfl rfl rfl rfl rfl ?_
    refine dw_norm [_, _, _, _, _, _, _, _, _, _, _, _, _] rfl ?_
    refine dw_pure (i := 16) rfl (by decide +kernel) (pv_fieldAddr rfl rfl rfl rfl 1 rfl) ?_
    refine dw_last (i := 17) rfl (by decide +kernel) (by decide +kernel) ?_
    refine op_storeP 3 (v := .slice _ _ _) (vs := [_]) (c' := [_, _, _, _]) rfl rfl rfl rfl rfl rfl rfl rfl rfl ?_
    refine dw_norm [_, _, _, _, _, _, _, _, _, _, _, _, _] rfl ?_
    refine dw_end rfl ?_
    refine xp_region rfl ?_
    refine op_pure (pv_move (v := .int .i64 _) rfl) ?_
    refine op_pure (pv_arith rfl (by omega)) ?_
    refine op_pure (pv_assign (v := .int .i64 _) rfl) ?_
    refine ⟨⟨q.i - 1, x5, q.ht ++ [t], q.dt ++ [d], q.hs ++ [⟨max (-50) (t - u4), min 100 (t + w4)⟩], q.ds ++ [⟨max (-50) (d - u5), min 100 (d + w5)⟩], a1, a2, a3, a4⟩, ⟨rfl, trivial⟩, rfl, rfl, (Ext.trans (Ext.trans (Ext.trans (Ext.trans (Ext.trans (Ext.trans (Ext.trans (Ext.trans E_q E2) E3) E2a) E3a) E4) E4a) E5) E5a), fun h3 E3 => ⟨⟨by show 0 ≤ q.i - 1; omega, by show q.i - 1 + ((q.ht ++ [t]).length : Nat) ≤ _; simp; omega, by show 1 ≤ q.i - 1 + ((q.ht ++ [t]).length : Nat); simp; omega, by simp [j4], j5.snoc ⟨u4, w4, u41, u42, w41, w42, rfl⟩, j6.snoc ⟨u5, w5, u51, u52, w51, w52, rfl⟩, memS j7 ⟨t1, t2⟩, memS j8 ⟨d1, d2⟩⟩, ⟨by rw [List.flatMap_append]; exact ra1, by rw [List.flatMap_append]; exact ra2, by rw [List.flatMap_append]; exact ra3, by rw [List.flatMap_append]; exact ra4⟩⟩, by first | omega | (dsimp only; omega), ?_⟩
    repeat (first | exact off_base _ _ _ | refine off_upd (by decide) ?_ | refine off_updL rfl ?_ | refine off_mix rfl ?_)
  · skip
    have hi0 : q.i = 0 := by have := of_decide_eq_false ht; omega
    obtain ⟨qi, qx, wt, dt, hs, ds, ⟨p1, A1, n1, c1⟩, ⟨p2, A2, n2, c2⟩, ⟨p3, A3, n3, c3⟩, ⟨p4, A4, n4, c4⟩⟩ := q
    dsimp only at *
    have hwl : wt.length ≤ 6 := by omega
    obtain rfl : n1 = wt.length := by have := AccR.len r1; rw [flat_len (m := 1) (fun _ _ => rfl)] at this; dsimp only at this; omega
    obtain rfl : n2 = dt.length := by have := AccR.len r2; rw [flat_len (m := 1) (fun _ _ => rfl)] at this; dsimp only at this; omega
    obtain rfl : n3 = hs.length := by have := AccR.len r3; rw [flat_len (m := 2) (fun _ _ => rfl)] at this; dsimp only at this; omega
    obtain rfl : n4 = ds.length := by have := AccR.len r4; rw [flat_len (m := 2) (fun _ _ => rfl)] at this; dsimp only at this; omega
    refine goes_pubO 5 rfl ?_
    intro g1 G1 P1
    refine goes_norm [_, _, _, _, _, _, _, _, _] rfl ?_
    refine goes_pubO 6 rfl ?_
    intro g2 G2 P2
    refine goes_norm [_, _, _, _, _, _, _, _, _] rfl ?_
    refine goes_pubO 7 rfl ?_
    intro g3 G3 P3
    refine goes_norm [_, _, _, _, _, _, _, _, _] rfl ?_
    refine goes_pubO 8 rfl ?_
    intro g4 G4 P4
    refine goes_norm [_, _, _, _, _, _, _, _, _] rfl ?_
    have R1 : Row g4 1 intC A1 wt := ⟨fun _ _ => rfl, (AccR.rd r1 P1).ext (Ext.trans (Ext.trans G2 G3) G4)⟩
    have R2 : Row g4 1 intC A2 dt := ⟨fun _ _ => rfl, (AccR.rd r2 P2).ext (Ext.trans G3 G4)⟩
    have R3 : Row g4 2 rgC A3 hs := ⟨fun _ _ => rfl, (AccR.rd r3 P3).ext G4⟩
    have R4 : Row g4 2 rgC A4 ds := ⟨fun _ _ => rfl, AccR.rd r4 P4⟩
    refine goes_more ?_
    refine goes_norm [_, _, _, _, _, _, _, _, _, _] rfl ?_
    refine goes_more ?_
    refine goes_norm [_, _, _, _, _, _, _, _, _, _, _] rfl ?_
    refine xp_exit ?_
    refine xp_seq ?_
    refine xp_seq ?_
    refine xp_region rfl ?_
    refine op_pure (pv_move (v := .pointer (some ⟨b, 0, none⟩)) rfl) ?_
    refine op_pure (pv_move (v := .int .i64 _) rfl) ?_
    refine op_fnMM [] [_] [_, _, _, _, _, _, _, _, _, _] (vs := [.pointer _, .int .i64 _]) rfl rfl rfl ((Upto_ok b qx joints (by omega) g4)) ?_
    rintro _ k1 _ F1 ⟨y1, i1, rfl, rfl, i11, i12⟩
    refine wp_norm [_, _, _, _, _, _, _, _, _, _, _] rfl ?_
    refine op_pure (pv_assign (v := .int .i64 _) rfl) ?_
    refine xp_block ?_
    refine xp_loopL [15, 16, 17, 18, 19, 20, 21, 22, 23, 24, 25, 69, 70, 71, 72, 73, 74, 75, 76, 77, 78, 79, 80, 81, 82, 83, 84, 85, 86, 87, 88, 89, 90, 91, 92, 93, 94, 95, 96, 97, 98, 99, 100, 101, 102, 103, 104, 105, 106, 107, 108, 109, 110, 111, 112, 113, 114, 115, 116, 117, 118, 119, 120, 121, 122, 123, 124, 125, 126, 127, 128, 129, 130, 131, 132, 133, 134, 135, 136, 137, 138, 139, 140, 141, 142, 143, 144, 145, 146, 147, 148, 149, 150, 151, 152, 153, 154, 155, 156, 157, 158, 159, 160, 161, 162, 163, 164, 165, 166, 167, 168, 169, 170, 171, 172] 11 (α := Int × Nat × List Joint × List Int × Acc × Acc) (fun ⟨i, y, js, fs, a5, a6⟩ => [(15, .int .i64 i)]) (fun ⟨i, y, js, fs, a5, a6⟩ L => ((((L.set 0 (some (b, .cells #[.int .u64 (y : Int)] 95 (0, 0)))).set 3 (some (b10, .cells #[.slice A3 hs.length c3, .slice A4 ds.length c4, .slice a5.A a5.n a5.c, .slice none 0 0] 26 (0, 0)))).set 4 (some (b11, .cells #[.slice A1 wt.length c1, .slice A2 dt.length c2, .slice a6.A a6.n a6.c] 33 (0, 0)))).set 9 (a5.p)).set 10 (a6.p)) (fun ⟨i, y, js, fs, a5, a6⟩ h_i => (0 ≤ i ∧ i + js.length ≤ joints) ∧ JointsT wt dt js fs ∧ AccR 53 9 (js.flatMap jointC) a5 ∧ AccR 3 1 (fs.flatMap intC) a6) (fun ⟨i, y, js, fs, a5, a6⟩ => i.toNat) ((i1, y1, [], [], acc0, acc0)) ⟨rfl, trivial⟩ (rfl) (⟨⟨i11, by simp; omega⟩, JointsT.nil, accR0, accR0⟩) ?_
    rintro ⟨i, y, js, fs, a5, a6⟩ T6 h_i E_i J_i
    refine goes_norm [_, _, _, _, _, _, _, _, _, _, _] rfl ?_
    obtain ⟨⟨m1, m2⟩, m3, r5, r6⟩ := J_i
    have fl := m3.len
    refine xp_seq ?_
    refine xp_seq ?_
    refine xp_region rfl ?_
    refine op_pure (pv_move (v := .int .i64 _) rfl) ?_
    refine op_pure (pv_of (v := .bool _) rfl) ?_
    refine xp_cond rfl (fun ht2 => ?_) (fun ht2 => ?_)
    · skip
      have hi2 : 0 < i := of_decide_eq_true ht2
      refine xp_skip ?_
      refine xp_seq ?_
      refine xp_block ?_
      refine xp_seq ?_
      refine xp_region rfl ?_
      refine op_pure (pv_move (v := .pointer (some ⟨b, 0, none⟩)) rfl) ?_
      refine op_fnMM [] [_] [_, _, _, _, _, _, _, _, _, _] (vs := [.pointer _, .int .i64 _, .int .i64 _]) rfl rfl rfl ((Within_ok b y 1 2 (by omega) (by omega) (by omega) h_i)) ?_
      rintro _ k2 _ F2 ⟨y2, kd, rfl, rfl, kd1, kd2⟩
      refine wp_norm [_, _, _, _, _, _, _, _, _, _, _] rfl ?_
      refine op_pure (pv_build (zc := [_, _, _, _, _, _, _, _, _]) (vs := [(0, .int .i64 _)]) (cs := [_, _, _, _, _, _, _, _, _]) rfl rfl rfl rfl rfl rfl) ?_
      refine op_alloc (cs := [_, _, _, _, _, _, _, _, _]) rfl rfl fun b16 hb16 => ?_
      refine wp_norm [_, _, _, _, _, _, _, _, _, _, _, _] rfl ?_
      refine op_storeP 11 (v := .agg #[.int .i64 _, .int .i64 _, .int .i64 _, .int .i64 _, .int .i64 _, .int .i64 _, .int .i64 _, .int .i64 _, .int .i64 _]) (vs := [_, _, _, _, _, _, _, _, _]) (c' := [_, _, _, _, _, _, _, _, _]) rfl rfl rfl rfl rfl rfl rfl rfl rfl ?_
      refine wp_norm [_, _, _, _, _, _, _, _, _, _, _, _] rfl ?_
      refine xp_seq ?_
      refine xp_dw [true] rfl rfl rfl ?_
      refine dw_pure (i := 0) rfl (by decide +kernel) (pv_fieldAddr rfl rfl rfl rfl 0 rfl) ?_
      refine dw_load (i := 1) rfl (by decide +kernel) ?_
      refine op_loadP 4 (v := .slice _ _ _) rfl rfl rfl rfl ?_
      refine dw_pure (i := 2) rfl (by decide +kernel) (pv_move (v := .pointer (some ⟨b, 0, none⟩)) rfl) ?_
      refine dw_pure (i := 4) rfl (by decide +kernel) (pv_move (v := .pointer (some ⟨b, 0, none⟩)) rfl) ?_
      refine dw_eff (i := 3) rfl (by decide +kernel) ?_
      refine op_fnMM [] [_] [_, _, _, _, _, _, _, _, _, _, _] (vs := [.pointer _, .int .i64 _, .int .i64 _]) rfl rfl rfl ((Within_ok b y2 25 38 (by omega) (by omega) (by omega) k2)) ?_
      rintro _ k3 _ F3 ⟨y3, hi3, rfl, rfl, hi31, hi32⟩
      refine ⟨ext_wlm F3 _, ?_⟩
      refine dw_norm [_, _, _, _, _, _, _, _, _, _, _, _] rfl ?_
      refine dw_eff (i := 5) rfl (by decide +kernel) ?_
      refine op_fnMM [] [_] [_, _, _, _, _, _, _, _, _, _, _] (vs := [.pointer _, .int .i64 _, .int .i64 _]) rfl rfl rfl ((Within_ok b y3 (-5) 8 (by omega) (by omega) (by omega) k3)) ?_
      rintro _ k4 _ F4 ⟨y4, lo4, rfl, rfl, lo41, lo42⟩
      refine ⟨ext_wlm F4 _, ?_⟩
      refine dw_norm [_, _, _, _, _, _, _, _, _, _, _, _] rfl ?_
      refine dw_pure (i := 6) rfl (by decide +kernel) (pv_assign (v := .slice _ _ _) rfl) ?_
      refine dw_pure (i := 7) rfl (by decide +kernel) (pv_assign (v := .int .i64 _) rfl) ?_
      refine dw_pure (i := 8) rfl (by decide +kernel) (pv_assign (v := .int .i64 _) rfl) ?_
      refine dw_end rfl ?_
      refine xp_cutB [17, 18, 19, 82, 83, 84, 85, 86, 87, 88, 89, 90] 12 (α := CutJ) (fun z => [(17, .slice z.A z.l.length z.c), (18, .int .i64 z.hi), (19, .int .i64 z.lo)]) (fun z L => L.set 0 (some (b, .cells #[.int .u64 (z.x : Int)] 95 (0, 0)))) (fun z h_z => Row h_z 1 intC z.A z.l ∧ ((kd = 1 ∧ z.l = wt ∧ 25 ≤ z.hi ∧ z.hi ≤ 38 ∧ -5 ≤ z.lo ∧ z.lo ≤ 8) ∨ (kd = 2 ∧ z.l = dt ∧ 60 ≤ z.hi ∧ z.hi ≤ 72 ∧ 28 ≤ z.lo ∧ z.lo ≤ 42))) ?_ ?_
      · skip
        refine xp_seq ?_
        refine xp_region rfl ?_
        refine op_pure (pv_fieldAddr rfl rfl rfl rfl 0 rfl) ?_
        refine op_loadP 11 (v := .int .i64 _) rfl rfl rfl rfl ?_
        refine op_pure (pv_of (v := .bool _) rfl) ?_
        refine xp_cond rfl (fun hkd => ?_) (fun hkd => ?_)
        · skip
          have hkd' : kd = 2 := by simpa using hkd
          refine xp_dw [true] rfl rfl rfl ?_
          refine dw_pure (i := 0) rfl (by decide +kernel) (pv_fieldAddr rfl rfl rfl rfl 1 rfl) ?_
          refine dw_load (i := 1) rfl (by decide +kernel) ?_
          refine op_loadP 4 (v := .slice _ _ _) rfl rfl rfl rfl ?_
          refine dw_pure (i := 2) rfl (by decide +kernel) (pv_move (v := .pointer (some ⟨b, 0, none⟩)) rfl) ?_
          refine dw_pure (i := 4) rfl (by decide +kernel) (pv_move (v := .pointer (some ⟨b, 0, none⟩)) rfl) ?_
          refine dw_eff (i := 3) rfl (by decide +kernel) ?_
          refine op_fnMM [] [_] [_, _, _, _, _, _, _, _, _, _, _] (vs := [.pointer _, .int .i64 _, .int .i64 _]) rfl rfl rfl ((Within_ok b y4 60 72 (by omega) (by omega) (by omega) k4)) ?_
          rintro _ k5 _ F5 ⟨y5, hi5, rfl, rfl, hi51, hi52⟩
          refine ⟨ext_wlm F5 _, ?_⟩
          refine dw_norm [_, _, _, _, _, _, _, _, _, _, _, _] rfl ?_
          refine dw_eff (i := 5) rfl (by decide +kernel) ?_
          refine op_fnMM [] [_] [_, _, _, _, _, _, _, _, _, _, _] (vs := [.pointer _, .int .i64 _, .int .i64 _]) rfl rfl rfl ((Within_ok b y5 28 42 (by omega) (by omega) (by omega) k5)) ?_
          rintro _ k6 _ F6 ⟨y6, lo6, rfl, rfl, lo61, lo62⟩
          refine ⟨ext_wlm F6 _, ?_⟩
          refine dw_norm [_, _, _, _, _, _, _, _, _, _, _, _] rfl ?_
          refine dw_pure (i := 6) rfl (by decide +kernel) (pv_assign (v := .slice _ _ _) rfl) ?_
          refine dw_pure (i := 7) rfl (by decide +kernel) (pv_assign (v := .int .i64 _) rfl) ?_
          refine dw_pure (i := 8) rfl (by decide +kernel) (pv_assign (v := .int .i64 _) rfl) ?_
          refine dw_end rfl ?_
          refine ⟨⟨y6, hi5, lo6, A2, c2, dt⟩, ⟨rfl, rfl, rfl, trivial⟩, rfl, rfl, (Ext.trans F5 F6), fun h3 E3 => ⟨(R2.ext (Ext.trans (Ext.trans (Ext.trans (Ext.trans (Ext.trans (Ext.trans F1 E_i) F2) F3) F4) F5) F6)).ext E3, .inr ⟨hkd', rfl, hi51, hi52, lo61, lo62⟩⟩, ?_⟩
          repeat (first | exact off_refl _ _ | exact off_base _ _ _ | refine off_upd (by decide) ?_ | refine off_updL rfl ?_ | refine off_mix rfl ?_)
        · skip
          have hkd0 : ¬ kd = 2 := by simpa using hkd
          have hkd' : kd = 1 := by omega
          refine xp_skip ?_
          refine ⟨⟨y4, hi3, lo4, A1, c1, wt⟩, ⟨rfl, rfl, rfl, trivial⟩, rfl, rfl, (Ext.refl _), fun h3 E3 => ⟨(R1.ext (Ext.trans (Ext.trans (Ext.trans (Ext.trans F1 E_i) F2) F3) F4)).ext E3, .inl ⟨hkd', rfl, hi31, hi32, lo41, lo42⟩⟩, ?_⟩
          repeat (first | exact off_refl _ _ | exact off_base _ _ _ | refine off_upd (by decide) ?_ | refine off_updL rfl ?_ | refine off_mix rfl ?_)
      · rintro z T7 h_z E_z J_z
        refine goes_norm [_, _, _, _, _, _, _, _, _, _, _, _] rfl ?_
        obtain ⟨zx, hi, lo, WA', wc, l⟩ := z
        dsimp only at *
        obtain ⟨RW, hcase⟩ := J_z
        have hll : l.length = wt.length := by
          rcases hcase with h | h
          · rw [h.2.1]
          · rw [h.2.1, j4]
        have hhi : 25 ≤ hi ∧ hi ≤ 72 := by omega
        have hlo : -5 ≤ lo ∧ lo ≤ 42 := by omega
        refine xp_seq ?_
        refine xp_region rfl ?_
        refine op_pure (pv_move (v := .pointer (some ⟨b, 0, none⟩)) rfl) ?_
        refine op_fnMM [] [_] [_, _, _, _, _, _, _, _, _, _, _] (vs := [.pointer _, .int .i64 _, .int .i64 _]) rfl rfl rfl ((Within_ok b zx 1 3 (by omega) (by omega) (by omega) h_z)) ?_
        rintro _ k7 _ F7 ⟨y7, many, rfl, rfl, many1, many2⟩
        refine wp_norm [_, _, _, _, _, _, _, _, _, _, _, _] rfl ?_
        refine op_pure (pv_move (v := .pointer (some ⟨b, 0, none⟩)) rfl) ?_
        refine op_pure (pv_move (v := .pointer (some ⟨b, 0, none⟩)) rfl) ?_
        refine op_fnMM [] [_] [_, _, _, _, _, _, _, _, _, _, _] (vs := [.pointer _, .int .i64 _]) rfl rfl rfl ((Upto_ok b y7 9 (by omega) k7)) ?_
        rintro _ k8 _ F8 ⟨y8, u8, rfl, rfl, u81, u82⟩
        refine wp_norm [_, _, _, _, _, _, _, _, _, _, _, _] rfl ?_
        refine op_buildSlice (zc := [_]) (vs := [(0, .int .i64 _), (1, .int .i64 _)]) (cs := [_, _]) rfl rfl rfl rfl rfl rfl rfl fun b96 hb96 => ?_
        refine wp_norm [_, _, _, _, _, _, _, _, _, _, _, _, _] rfl ?_
        refine wp_pub 12 rfl rfl ?_
        intro k9 F9 p9
        refine wp_norm [_, _, _, _, _, _, _, _, _, _, _, _, _] rfl ?_
        refine op_fnMM [] [_] [_, _, _, _, _, _, _, _, _, _, _, _] (vs := [.pointer _, .slice _ _ _]) rfl rfl rfl ((Of_ok b y8 [u8, 9] (by simp) (by simp) _ _ k9 (row_of_block (enc := intC) (m := 1) (l := [u8, 9]) (fun _ _ => rfl) p9))) ?_
        rintro _ k10 _ F10 ⟨y10, life, rfl, rfl, lifem⟩
        refine wp_norm [_, _, _, _, _, _, _, _, _, _, _, _, _] rfl ?_
        have hlife : 0 ≤ life ∧ life ≤ 9 := by simp at lifem; omega
        refine op_pure (pv_assign (v := .int .i64 _) rfl) ?_
        refine op_pure (pv_assign (v := .int .i64 _) rfl) ?_
        refine xp_seq ?_
        refine xp_region rfl ?_
        refine op_pure (pv_move (v := .pointer (some ⟨b, 0, none⟩)) rfl) ?_
        refine op_pure (pv_move (v := .int .i64 _) rfl) ?_
        refine op_fnMM [] [_] [_, _, _, _, _, _, _, _, _, _, _, _] (vs := [.pointer _, .int .i64 _, .int .i64 _, .int .i64 _, .int .i64 _]) rfl rfl rfl ((Near_ok b y10 hi (-50) 100 1 (by omega) (by omega) k10)) ?_
        rintro _ k11 _ F11 ⟨y11, u11, w11, rfl, rfl, u111, u112, w111, w112⟩
        refine wp_norm [_, _, _, _, _, _, _, _, _, _, _, _, _] rfl ?_
        refine op_pure (pv_move (v := .pointer (some ⟨b, 0, none⟩)) rfl) ?_
        refine op_pure (pv_move (v := .int .i64 _) rfl) ?_
        refine op_fnMM [] [_] [_, _, _, _, _, _, _, _, _, _, _, _] (vs := [.pointer _, .int .i64 _, .int .i64 _, .int .i64 _, .int .i64 _]) rfl rfl rfl ((Near_ok b y11 lo (-50) 100 1 (by omega) (by omega) k11)) ?_
        rintro _ k12 _ F12 ⟨y12, u12, w12, rfl, rfl, u121, u122, w121, w122⟩
        refine wp_norm [_, _, _, _, _, _, _, _, _, _, _, _, _] rfl ?_
        refine op_pure (pv_fieldAddr rfl rfl rfl rfl 1 rfl) ?_
        refine op_storeP 11 (v := .agg #[.int .i64 _, .int .i64 _]) (vs := [_, _]) (c' := [_, _, _, _, _, _, _, _, _]) rfl rfl rfl rfl rfl rfl rfl rfl rfl ?_
        refine wp_norm [_, _, _, _, _, _, _, _, _, _, _, _, _] rfl ?_
        refine op_pure (pv_fieldAddr rfl rfl rfl rfl 3 rfl) ?_
        refine op_storeP 11 (v := .agg #[.int .i64 _, .int .i64 _]) (vs := [_, _]) (c' := [_, _, _, _, _, _, _, _, _]) rfl rfl rfl rfl rfl rfl rfl rfl rfl ?_
        refine wp_norm [_, _, _, _, _, _, _, _, _, _, _, _, _] rfl ?_
        refine xp_seq ?_
        refine xp_region rfl ?_
        refine op_pure (pv_move (v := .pointer (some ⟨b, 0, none⟩)) rfl) ?_
        refine op_pure (pv_move (v := .int .i64 _) rfl) ?_
        refine op_fnMM [] [_] [_, _, _, _, _, _, _, _, _, _, _, _] (vs := [.pointer _, .int .i64 _, .int .i64 _, .int .i64 _, .int .i64 _]) rfl rfl rfl ((Near_ok b y12 many 1 6 1 (by omega) (by omega) k12)) ?_
        rintro _ k13 _ F13 ⟨y13, u13, w13, rfl, rfl, u131, u132, w131, w132⟩
        refine wp_norm [_, _, _, _, _, _, _, _, _, _, _, _, _] rfl ?_
        refine op_pure (pv_move (v := .pointer (some ⟨b, 0, none⟩)) rfl) ?_
        refine op_pure (pv_move (v := .int .i64 _) rfl) ?_
        refine op_fnMM [] [_] [_, _, _, _, _, _, _, _, _, _, _, _] (vs := [.pointer _, .int .i64 _, .int .i64 _, .int .i64 _, .int .i64 _]) rfl rfl rfl ((Near_ok b y13 life 0 9 2 (by omega) (by omega) k13)) ?_
        rintro _ k14 _ F14 ⟨y14, u14, w14, rfl, rfl, u141, u142, w141, w142⟩
        refine wp_norm [_, _, _, _, _, _, _, _, _, _, _, _, _] rfl ?_
        refine op_pure (pv_fieldAddr rfl rfl rfl rfl 5 rfl) ?_
        refine op_storeP 11 (v := .agg #[.int .i64 _, .int .i64 _]) (vs := [_, _]) (c' := [_, _, _, _, _, _, _, _, _]) rfl rfl rfl rfl rfl rfl rfl rfl rfl ?_
        refine wp_norm [_, _, _, _, _, _, _, _, _, _, _, _, _] rfl ?_
        refine op_pure (pv_fieldAddr rfl rfl rfl rfl 7 rfl) ?_
        refine op_storeP 11 (v := .agg #[.int .i64 _, .int .i64 _]) (vs := [_, _]) (c' := [_, _, _, _, _, _, _, _, _]) rfl rfl rfl rfl rfl rfl rfl rfl rfl ?_
        refine wp_norm [_, _, _, _, _, _, _, _, _, _, _, _, _] rfl ?_
        refine xp_seq ?_
        refine xp_region rfl ?_
        refine op_pure (pv_fieldAddr rfl rfl rfl rfl 2 rfl) ?_
        refine op_loadP 3 (v := .slice _ _ _) rfl rfl rfl rfl ?_
        refine op_loadPA 11 (vs := [.int .i64 _, .int .i64 _, .int .i64 _, .int .i64 _, .int .i64 _, .int .i64 _, .int .i64 _, .int .i64 _, .int .i64 _]) rfl rfl rfl rfl rfl ?_
        refine op_buildSlice (zc := [_, _, _, _, _, _, _, _, _]) (vs := [(0, .agg #[.int .i64 _, .int .i64 _, .int .i64 _, .int .i64 _, .int .i64 _, .int .i64 _, .int .i64 _, .int .i64 _, .int .i64 _])]) (cs := [_, _, _, _, _, _, _, _, _]) rfl rfl rfl rfl rfl rfl rfl fun b117 hb117 => ?_
        refine wp_norm [_, _, _, _, _, _, _, _, _, _, _, _, _, _] rfl ?_
        refine op_appendR 9 r5 rfl rfl rfl (fun V => rdP V (i := 13) rfl) rfl rfl rfl rfl rfl rfl rfl rfl rfl (by omega) rfl (by rw [flat_len (m := 9) (fun _ _ => rfl)]; simp; omega) fun a5' h8a E8a ra5 => ?_
        refine wp_norm [_, _, _, _, _, _, _, _, _, _, _, _, _, _] rfl ?_
        refine op_pure (pv_fieldAddr rfl rfl rfl rfl 2 rfl) ?_
        refine op_storeP 3 (v := .slice _ _ _) (vs := [_]) (c' := [_, _, _, _]) rfl rfl rfl rfl rfl rfl rfl rfl rfl ?_
        refine wp_norm [_, _, _, _, _, _, _, _, _, _, _, _, _, _] rfl ?_
        refine xp_seq ?_
        refine xp_region rfl ?_
        refine op_pure (pv_move (v := .slice _ _ _) rfl) ?_
        refine op_pure (pv_len rfl rfl) ?_
        refine op_pure (pv_assign (v := .int .i64 _) rfl) ?_
        refine op_pure (pv_assign (v := .int .i64 _) rfl) ?_
        refine xp_seq ?_
        refine xp_seq ?_
        refine xp_region rfl ?_
        refine op_pure (pv_move (v := .slice _ _ _) rfl) ?_
        refine op_pure (pv_len rfl rfl) ?_
        refine op_pure (pv_arith rfl (by omega)) ?_
        refine op_pure (pv_assign (v := .int .i64 _) rfl) ?_
        refine xp_block ?_
        refine xp_loopB [22, 23, 24, 25, 125, 126, 127, 128, 129, 130, 131, 132, 133, 134, 135, 136, 137, 138, 139, 140, 141, 142, 143, 144, 145, 146, 147, 148, 149, 150, 151, 152, 153, 154, 155, 156, 157, 158, 159, 160, 161, 162, 163, 164, 165, 166] 14 (α := Nat) (fun kk => [(24, .int .i64 ((l.length : Int) - 1 - kk)), (22, .int .i64 (failP l hi lo many life kk : Nat))]) (fun kk => _) (fun kk h_kk => kk ≤ l.length) (fun kk => l.length - kk) (0) ⟨intE (by omega), rfl, trivial⟩ (rfl) (Nat.zero_le _) ?_
        rintro kk T9 h_kk E_kk J_kk
        refine goes_norm [_, _, _, _, _, _, _, _, _, _, _, _, _, _] rfl ?_
        refine xp_seq ?_
        refine xp_seq ?_
        refine xp_region rfl ?_
        refine op_pure (pv_move (v := .int .i64 _) rfl) ?_
        refine op_pure (pv_of (v := .bool _) rfl) ?_
        refine xp_cond rfl (fun hw3 => ?_) (fun hw3 => ?_)
        · skip
          have hkl : kk < l.length := by have := of_decide_eq_true hw3; omega
          have hwn : l.length - (kk + 1) < l.length := by omega
          have hsub : (l.length : Int) - 1 - kk = ((l.length - (kk + 1) : Nat) : Int) := by omega
          rw [hsub]
          have hgd : l.getD (l.length - (kk + 1)) 0 = l[l.length - (kk + 1)] := by rw [List.getD_eq_getElem?_getD, List.getElem?_eq_getElem hwn]; rfl
          refine xp_skip ?_
          refine xp_seq ?_
          refine xp_block ?_
          refine xp_seq ?_
          refine xp_region rfl ?_
          refine op_pure (pv_assign (v := .int .i64 _) rfl) ?_
          refine xp_seq ?_
          refine xp_seq ?_
          refine xp_region rfl ?_
          refine op_pure (pv_assign (v := .int .i64 _) rfl) ?_
          refine xp_block ?_
          refine xp_loopB [23, 25, 129, 130, 131, 132, 133, 134, 135, 136, 137, 138, 139, 140, 141] 14 (α := Nat) (fun v => [(25, .int .i64 v), (23, .int .i64 (coldN l lo v : Nat))]) (fun v => _) (fun v h_v => v ≤ l.length - (kk + 1) + 1) (fun v => l.length - (kk + 1) + 1 - v) (0) ⟨rfl, intE (by simp [coldN]), trivial⟩ (rfl) (Nat.zero_le _) ?_
          rintro v T10 h_v E_v J_v
          refine goes_norm [_, _, _, _, _, _, _, _, _, _, _, _, _, _] rfl ?_
          have hcn := coldN_le l lo v
          refine xp_seq ?_
          refine xp_seq ?_
          refine xp_region rfl ?_
          refine op_pure (pv_move (v := .int .i64 _) rfl) ?_
          refine op_pure (pv_move (v := .int .i64 _) rfl) ?_
          refine op_pure (pv_of (v := .bool _) rfl) ?_
          refine xp_cond rfl (fun hv3 => ?_) (fun hv3 => ?_)
          · skip
            have hvl : v < l.length := by have := of_decide_eq_true hv3; omega
            have hvw : v ≤ l.length - (kk + 1) := by have := of_decide_eq_true hv3; omega
            have hcs := coldN_succ (x := l) (lo := lo) hvl
            obtain ⟨gv, offv, hAv, hcv⟩ := (RW.ext (Ext.trans (Ext.trans (Ext.trans (Ext.trans (Ext.trans (Ext.trans (Ext.trans (Ext.trans (Ext.trans (Ext.trans F7 F8) F9) F10) F11) F12) F13) F14) E8a) E_kk) E_v)).at (by omega) hvl
            refine xp_skip ?_
            refine xp_seq ?_
            refine xp_block ?_
            refine xp_seq ?_
            refine xp_region rfl ?_
            refine op_pure (pv_move (v := .slice _ _ _) rfl) ?_
            refine op_pure (pv_move (v := .int .i64 _) rfl) ?_
            refine op_pure (pv_indexE rfl hAv rfl rfl rfl (by omega) (by omega)) ?_
            refine op_load (v := .int .i64 _) rfl rfl ((hcv) 0 _ rfl) ?_
            refine op_pure (pv_move (v := .int .i64 _) rfl) ?_
            refine op_pure (pv_of (v := .bool _) rfl) ?_
            refine xp_cond rfl (fun hcold => ?_) (fun hcold => ?_)
            · skip
              have hc1 : l[v] ≤ lo := of_decide_eq_true hcold
              refine xp_region rfl ?_
              refine op_pure (pv_move (v := .int .i64 _) rfl) ?_
              refine op_pure (pv_arith rfl (by omega)) ?_
              refine op_pure (pv_assign (v := .int .i64 _) rfl) ?_
              refine xp_region rfl ?_
              refine op_pure (pv_move (v := .int .i64 _) rfl) ?_
              refine op_pure (pv_arith rfl (by omega)) ?_
              refine op_pure (pv_assign (v := .int .i64 _) rfl) ?_
              refine ⟨v + 1, ⟨rfl, intE (by rw [hcs, if_pos hc1]; simp), trivial⟩, rfl, rfl, E_v, fun h3 E3 => by omega, by first | omega | (dsimp only; omega), ?_⟩
              repeat (first | exact off_base _ _ _ | refine off_upd (by decide) ?_ | refine off_updL rfl ?_ | refine off_mix rfl ?_)
            · skip
              have hc1 : ¬ l[v] ≤ lo := of_decide_eq_false hcold
              refine xp_skip ?_
              refine xp_region rfl ?_
              refine op_pure (pv_move (v := .int .i64 _) rfl) ?_
              refine op_pure (pv_arith rfl (by omega)) ?_
              refine op_pure (pv_assign (v := .int .i64 _) rfl) ?_
              refine ⟨v + 1, ⟨rfl, intE (by rw [hcs, if_neg hc1]; simp), trivial⟩, rfl, rfl, E_v, fun h3 E3 => by omega, by first | omega | (dsimp only; omega), ?_⟩
              repeat (first | exact off_base _ _ _ | refine off_upd (by decide) ?_ | refine off_updL rfl ?_ | refine off_mix rfl ?_)
          · skip
            have hve : v = l.length - (kk + 1) + 1 := by have := of_decide_eq_false hv3; omega
            subst hve
            obtain ⟨gw, offw, hAw, hcw⟩ := (RW.ext (Ext.trans (Ext.trans (Ext.trans (Ext.trans (Ext.trans (Ext.trans (Ext.trans (Ext.trans (Ext.trans (Ext.trans F7 F8) F9) F10) F11) F12) F13) F14) E8a) E_kk) E_v)).at (by omega) hwn
            have hfp : failP l hi lo many life (kk + 1) = if failW l hi lo many life (l.length - (kk + 1)) then l.length - (kk + 1) else failP l hi lo many life kk := rfl
            refine xp_exit ?_
            refine xp_seq ?_
            refine xp_region rfl ?_
            refine op_pure (pv_move (v := .slice _ _ _) rfl) ?_
            refine op_pure (pv_move (v := .int .i64 _) rfl) ?_
            refine op_pure (pv_indexE rfl hAw rfl rfl rfl (by omega) (by omega)) ?_
            refine op_load (v := .int .i64 _) rfl rfl ((hcw) 0 _ rfl) ?_
            refine op_pure (pv_move (v := .int .i64 _) rfl) ?_
            refine op_pure (pv_of (v := .bool _) rfl) ?_
            refine op_pure (pv_move (v := .bool _) rfl) ?_
            rcases Bool.eq_false_or_eq_true (decide (l[l.length - (kk + 1)] ≥ hi)) with c1 | c1
            · skip
              have hfw : failW l hi lo many life (l.length - (kk + 1)) = true := by unfold failW; rw [hgd, c1]; rfl
              refine guard_no rfl c1 ?_
              refine guard_no rfl c1 ?_
              refine guard_no rfl c1 ?_
              refine op_pure (pv_pickT rfl c1 (v := .bool _) rfl) ?_
              refine op_pure (pv_move (v := .bool _) rfl) ?_
              refine guard_no rfl rfl ?_
              refine guard_no rfl rfl ?_
              refine guard_no rfl rfl ?_
              refine guard_no rfl rfl ?_
              refine guard_no rfl rfl ?_
              refine guard_no rfl rfl ?_
              refine guard_no rfl rfl ?_
              refine guard_un rfl ?_
              refine guard_un rfl ?_
              refine guard_un rfl ?_
              refine guard_no rfl rfl ?_
              refine op_pure (pv_pickT rfl rfl (v := .bool _) rfl) ?_
              refine xp_condT rfl (rfl) ?_
              refine xp_region rfl ?_
              refine op_pure (pv_move (v := .int .i64 _) rfl) ?_
              refine op_pure (pv_assign (v := .int .i64 _) rfl) ?_
              refine xp_region rfl ?_
              refine op_pure (pv_move (v := .int .i64 _) rfl) ?_
              refine op_pure (pv_arith rfl (by omega)) ?_
              refine op_pure (pv_assign (v := .int .i64 _) rfl) ?_
              refine ⟨kk + 1, ⟨intE (by omega), intE (by rw [hfp, if_pos hfw]), trivial⟩, rfl, rfl, (Ext.trans E_kk E_v), fun h3 E3 => by omega, by first | omega | (dsimp only; omega), ?_⟩
              repeat (first | exact off_base _ _ _ | refine off_upd (by decide) ?_ | refine off_updL rfl ?_ | refine off_mix rfl ?_)
            · skip
              refine guard_yes rfl c1 ?_
              refine op_pure (pv_move (v := .int .i64 _) rfl) ?_
              refine guard_yes rfl c1 ?_
              refine op_pure (pv_move (v := .int .i64 _) rfl) ?_
              refine guard_yes rfl c1 ?_
              refine op_pure (pv_of (v := .bool _) rfl) ?_
              refine op_pure (pv_pickF rfl c1 (v := .bool _) rfl) ?_
              refine op_pure (pv_move (v := .bool _) rfl) ?_
              rcases Bool.eq_false_or_eq_true (decide (((l.length - (kk + 1) : Nat) : Int) = life)) with c2 | c2
              · skip
                have hfw : failW l hi lo many life (l.length - (kk + 1)) = true := by unfold failW; rw [hgd, c1, c2]; rfl
                refine guard_no rfl c2 ?_
                refine guard_no rfl c2 ?_
                refine guard_no rfl c2 ?_
                refine guard_no rfl c2 ?_
                refine guard_no rfl c2 ?_
                refine guard_no rfl c2 ?_
                refine guard_no rfl c2 ?_
                refine guard_un rfl ?_
                refine guard_un rfl ?_
                refine guard_un rfl ?_
                refine guard_no rfl c2 ?_
                refine op_pure (pv_pickT rfl c2 (v := .bool _) rfl) ?_
                refine xp_condT rfl (rfl) ?_
                refine xp_region rfl ?_
                refine op_pure (pv_move (v := .int .i64 _) rfl) ?_
                refine op_pure (pv_assign (v := .int .i64 _) rfl) ?_
                refine xp_region rfl ?_
                refine op_pure (pv_move (v := .int .i64 _) rfl) ?_
                refine op_pure (pv_arith rfl (by omega)) ?_
                refine op_pure (pv_assign (v := .int .i64 _) rfl) ?_
                refine ⟨kk + 1, ⟨intE (by omega), intE (by rw [hfp, if_pos hfw]), trivial⟩, rfl, rfl, (Ext.trans E_kk E_v), fun h3 E3 => by omega, by first | omega | (dsimp only; omega), ?_⟩
                repeat (first | exact off_base _ _ _ | refine off_upd (by decide) ?_ | refine off_updL rfl ?_ | refine off_mix rfl ?_)
              · skip
                refine guard_yes rfl c2 ?_
                refine op_pure (pv_move (v := .slice _ _ _) rfl) ?_
                refine guard_yes rfl c2 ?_
                refine op_pure (pv_move (v := .int .i64 _) rfl) ?_
                refine guard_yes rfl c2 ?_
                refine op_pure (pv_indexE rfl hAw rfl rfl rfl (by omega) (by omega)) ?_
                refine guard_yes rfl c2 ?_
                refine op_load (v := .int .i64 _) rfl rfl ((hcw) 0 _ rfl) ?_
                refine guard_yes rfl c2 ?_
                refine op_pure (pv_move (v := .int .i64 _) rfl) ?_
                refine guard_yes rfl c2 ?_
                refine op_pure (pv_of (v := .bool _) rfl) ?_
                refine guard_yes rfl c2 ?_
                refine op_pure (pv_move (v := .bool _) rfl) ?_
                rcases Bool.eq_false_or_eq_true (decide (l[l.length - (kk + 1)] ≤ lo)) with c3 | c3
                · skip
                  refine guard_yes rfl c3 ?_
                  refine op_pure (pv_move (v := .int .i64 _) rfl) ?_
                  refine guard_yes rfl c3 ?_
                  refine op_pure (pv_move (v := .int .i64 _) rfl) ?_
                  refine guard_yes rfl c3 ?_
                  refine op_pure (pv_of (v := .bool _) rfl) ?_
                  refine guard_yes rfl c2 ?_
                  refine op_pure (pv_pickT rfl c3 (v := .bool _) rfl) ?_
                  refine op_pure (pv_pickF rfl c2 (v := .bool _) rfl) ?_
                  refine xp_cond rfl (fun c4 => ?_) (fun c4 => ?_)
                  · skip
                    have hfw : failW l hi lo many life (l.length - (kk + 1)) = true := by unfold failW; rw [hgd, c1, c2, c3, show decide ((coldN l lo (l.length - (kk + 1) + 1) : Int) = many) = true from by simpa using c4]; rfl
                    refine xp_region rfl ?_
                    refine op_pure (pv_move (v := .int .i64 _) rfl) ?_
                    refine op_pure (pv_assign (v := .int .i64 _) rfl) ?_
                    refine xp_region rfl ?_
                    refine op_pure (pv_move (v := .int .i64 _) rfl) ?_
                    refine op_pure (pv_arith rfl (by omega)) ?_
                    refine op_pure (pv_assign (v := .int .i64 _) rfl) ?_
                    refine ⟨kk + 1, ⟨intE (by omega), intE (by rw [hfp, if_pos hfw]), trivial⟩, rfl, rfl, (Ext.trans E_kk E_v), fun h3 E3 => by omega, by first | omega | (dsimp only; omega), ?_⟩
                    repeat (first | exact off_base _ _ _ | refine off_upd (by decide) ?_ | refine off_updL rfl ?_ | refine off_mix rfl ?_)
                  · skip
                    have hfw : ¬ failW l hi lo many life (l.length - (kk + 1)) = true := by unfold failW; rw [hgd, c1, c2, c3, show decide ((coldN l lo (l.length - (kk + 1) + 1) : Int) = many) = false from by simpa using c4]; simp
                    refine xp_skip ?_
                    refine xp_region rfl ?_
                    refine op_pure (pv_move (v := .int .i64 _) rfl) ?_
                    refine op_pure (pv_arith rfl (by omega)) ?_
                    refine op_pure (pv_assign (v := .int .i64 _) rfl) ?_
                    refine ⟨kk + 1, ⟨intE (by omega), intE (by rw [hfp, if_neg hfw]), trivial⟩, rfl, rfl, (Ext.trans E_kk E_v), fun h3 E3 => by omega, by first | omega | (dsimp only; omega), ?_⟩
                    repeat (first | exact off_base _ _ _ | refine off_upd (by decide) ?_ | refine off_updL rfl ?_ | refine off_mix rfl ?_)
                · skip
                  have hfw : ¬ failW l hi lo many life (l.length - (kk + 1)) = true := by unfold failW; rw [hgd, c1, c2, c3]; simp
                  refine guard_no rfl c3 ?_
                  refine guard_no rfl c3 ?_
                  refine guard_no rfl c3 ?_
                  refine guard_yes rfl c2 ?_
                  refine op_pure (pv_pickF rfl c3 (v := .bool _) rfl) ?_
                  refine op_pure (pv_pickF rfl c2 (v := .bool _) rfl) ?_
                  refine xp_condF rfl (rfl) ?_
                  refine xp_skip ?_
                  refine xp_region rfl ?_
                  refine op_pure (pv_move (v := .int .i64 _) rfl) ?_
                  refine op_pure (pv_arith rfl (by omega)) ?_
                  refine op_pure (pv_assign (v := .int .i64 _) rfl) ?_
                  refine ⟨kk + 1, ⟨intE (by omega), intE (by rw [hfp, if_neg hfw]), trivial⟩, rfl, rfl, (Ext.trans E_kk E_v), fun h3 E3 => by omega, by first | omega | (dsimp only; omega), ?_⟩
                  repeat (first | exact off_base _ _ _ | refine off_upd (by decide) ?_ | refine off_updL rfl ?_ | refine off_mix rfl ?_)
        · skip
          have hkk : kk = l.length := by have := of_decide_eq_false hw3; omega
          subst hkk
          refine xp_exit ?_
          refine xp_region rfl ?_
          refine op_pure (pv_fieldAddr rfl rfl rfl rfl 2 rfl) ?_
          refine op_loadP 4 (v := .slice _ _ _) rfl rfl rfl rfl ?_
          refine op_pure (pv_move (v := .int .i64 _) rfl) ?_
          refine op_buildSlice (zc := [_]) (vs := [(0, .int .i64 _)]) (cs := [_]) rfl rfl rfl rfl rfl rfl rfl fun b170 hb170 => ?_
          refine wp_norm [_, _, _, _, _, _, _, _, _, _, _, _, _, _, _] rfl ?_
          refine op_appendR 10 r6 rfl rfl rfl (fun V => rdP V (i := 14) rfl) rfl rfl rfl rfl rfl rfl rfl rfl rfl (by omega) rfl (by rw [flat_len (m := 1) (fun _ _ => rfl), fl]; simp; omega) fun a6' h11a E11a ra6 => ?_
          refine wp_norm [_, _, _, _, _, _, _, _, _, _, _, _, _, _, _] rfl ?_
          have hJT : JointT wt dt ⟨kd, ⟨max (-50) (hi - u11), min 100 (hi + w11)⟩, ⟨max (-50) (lo - u12), min 100 (lo + w12)⟩, ⟨max 1 (many - u13), min 6 (many + w13)⟩, ⟨max 0 (life - u14), min 9 (life + w14)⟩⟩ (failP l hi lo many life l.length : Nat) hi lo many life := by
            refine ⟨?_, ⟨many1, many2⟩, hlife, ⟨u11, w11, u111, u112, w111, w112, rfl⟩, ⟨u12, w12, u121, u122, w121, w122, rfl⟩, ⟨u13, w13, u131, u132, w131, w132, rfl⟩, ⟨u14, w14, u141, u142, w141, w142, rfl⟩, ?_⟩
            · rcases hcase with c | c
              · exact .inl ⟨c.1, c.2.2⟩
              · exact .inr ⟨c.1, c.2.2⟩
            · rcases hcase with c | c
              · rw [c.1, if_pos rfl, ← c.2.1]; rfl
              · rw [c.1, if_neg (by show ¬ (2 : Int) = 1; decide), ← c.2.1]; rfl
          refine op_pure (pv_fieldAddr rfl rfl rfl rfl 2 rfl) ?_
          refine op_storeP 4 (v := .slice _ _ _) (vs := [_]) (c' := [_, _, _]) rfl rfl rfl rfl rfl rfl rfl rfl rfl ?_
          refine wp_norm [_, _, _, _, _, _, _, _, _, _, _, _, _, _, _] rfl ?_
          refine xp_region rfl ?_
          refine op_pure (pv_move (v := .int .i64 _) rfl) ?_
          refine op_pure (pv_arith rfl (by omega)) ?_
          refine op_pure (pv_assign (v := .int .i64 _) rfl) ?_
          refine ⟨(i - 1, y14, js ++ [⟨kd, ⟨max (-50) (hi - u11), min 100 (hi + w11)⟩, ⟨max (-50) (lo - u12), min 100 (lo + w12)⟩, ⟨max 1 (many - u13), min 6 (many + w13)⟩, ⟨max 0 (life - u14), min 9 (life + w14)⟩⟩], fs ++ [((failP l hi lo many life l.length : Nat) : Int)], a5', a6'), ⟨rfl, trivial⟩, rfl, rfl, (Ext.trans (Ext.trans (Ext.trans (Ext.trans (Ext.trans (Ext.trans (Ext.trans (Ext.trans (Ext.trans (Ext.trans (Ext.trans (Ext.trans (Ext.trans (Ext.trans (Ext.trans E_i F2) F3) F4) E_z) F7) F8) F9) F10) F11) F12) F13) F14) E8a) E_kk) E11a), fun h3 E3 => ⟨⟨by omega, by simp; omega⟩, m3.snoc hJT, by rw [List.flatMap_append]; exact ra5, by rw [List.flatMap_append]; exact ra6⟩, by first | omega | (dsimp only; omega), ?_⟩
          repeat (first | exact off_base _ _ _ | refine off_upd (by decide) ?_ | refine off_updL rfl ?_ | refine off_mix rfl ?_)
    · skip
      have hi0' : i = 0 := by have := of_decide_eq_false ht2; omega
      obtain ⟨p5, A5, n5, c5⟩ := a5
      obtain ⟨p6, A6, n6, c6⟩ := a6
      dsimp only at *
      obtain rfl : n5 = js.length := by have := AccR.len r5; rw [flat_len (m := 9) (fun _ _ => rfl)] at this; dsimp only at this; omega
      obtain rfl : n6 = fs.length := by have := AccR.len r6; rw [flat_len (m := 1) (fun _ _ => rfl)] at this; dsimp only at this; omega
      refine goes_pubO 10 rfl ?_
      intro g6 G6 P6
      refine goes_norm [_, _, _, _, _, _, _, _, _, _, _] rfl ?_
      have R6 : Row g6 1 intC A6 fs := ⟨fun _ _ => rfl, AccR.rd r6 P6⟩
      refine goes_more ?_
      refine goes_norm [_, _, _, _, _, _, _, _, _, _, _, _] rfl ?_
      refine xp_exit ?_
      refine xp_seq ?_
      refine xp_seq ?_
      refine xp_region rfl ?_
      refine op_pure (pv_move (v := .pointer (some ⟨b, 0, none⟩)) rfl) ?_
      refine op_pure (pv_move (v := .int .i64 _) rfl) ?_
      refine op_fnMM [] [_] [_, _, _, _, _, _, _, _, _, _, _] (vs := [.pointer _, .int .i64 _]) rfl rfl rfl ((Upto_ok b y reports (by omega) g6)) ?_
      rintro _ k20 _ F20 ⟨y20, i20, rfl, rfl, i201, i202⟩
      refine wp_norm [_, _, _, _, _, _, _, _, _, _, _, _] rfl ?_
      refine op_pure (pv_assign (v := .int .i64 _) rfl) ?_
      refine xp_block ?_
      refine xp_loopL [26, 176, 177, 178, 179, 180, 181, 182, 183, 184, 185, 186, 187, 188, 189, 190, 191, 192, 193] 12 (α := Int × Nat × List Seen × Acc) (fun ⟨e, y, rs, a7⟩ => [(26, .int .i64 e)]) (fun ⟨e, y, rs, a7⟩ L => ((L.set 0 (some (b, .cells #[.int .u64 (y : Int)] 95 (0, 0)))).set 3 (some (b10, .cells #[.slice A3 hs.length c3, .slice A4 ds.length c4, .slice A5 js.length c5, .slice a7.A a7.n a7.c] 26 (0, 0)))).set 11 (a7.p)) (fun ⟨e, y, rs, a7⟩ h_e => (0 ≤ e ∧ e + rs.length ≤ reports) ∧ (∀ r ∈ rs, SeenT wt.length fs r) ∧ AccR 56 3 (rs.flatMap seenC) a7) (fun ⟨e, y, rs, a7⟩ => e.toNat) ((i20, y20, [], acc0)) ⟨rfl, trivial⟩ (rfl) (⟨⟨i201, by simp; omega⟩, fun _ h => (by cases h), accR0⟩) ?_
      rintro ⟨e, y, rs, a7⟩ T12 h_e E_e J_e
      refine goes_norm [_, _, _, _, _, _, _, _, _, _, _, _] rfl ?_
      obtain ⟨⟨s1, s2⟩, s3, r7⟩ := J_e
      refine xp_seq ?_
      refine xp_seq ?_
      refine xp_region rfl ?_
      refine op_pure (pv_move (v := .int .i64 _) rfl) ?_
      refine op_pure (pv_of (v := .bool _) rfl) ?_
      refine op_pure (pv_move (v := .bool _) rfl) ?_
      rcases Bool.eq_false_or_eq_true (decide (e > 0)) with he | he
      · skip
        have he' : 0 < e := of_decide_eq_true he
        refine guard_yes rfl he ?_
        refine op_pure (pv_fieldAddr rfl rfl rfl rfl 2 rfl) ?_
        refine guard_yes rfl he ?_
        refine op_loadP 3 (v := .slice _ _ _) rfl rfl rfl rfl ?_
        refine guard_yes rfl he ?_
        refine op_pure (pv_len rfl rfl) ?_
        refine guard_yes rfl he ?_
        refine op_pure (pv_of (v := .bool _) rfl) ?_
        refine op_pure (pv_pickT rfl he (v := .bool _) rfl) ?_
        refine xp_cond rfl (fun hjl => ?_) (fun hjl => ?_)
        · skip
          have hjl' : 0 < fs.length := by have := of_decide_eq_true hjl; omega
          refine xp_skip ?_
          refine xp_seq ?_
          refine xp_block ?_
          refine xp_dw [true, false, false, false, false, false, false, false, false, false, false, true] rfl rfl rfl ?_
          refine dw_pure (i := 0) rfl (by decide +kernel) (pv_fieldAddr rfl rfl rfl rfl 3 rfl) ?_
          refine dw_load (i := 1) rfl (by decide +kernel) ?_
          refine op_loadP 3 (v := .slice _ _ _) rfl rfl rfl rfl ?_
          refine dw_pure (i := 2) rfl (by decide +kernel) (pv_move (v := .pointer (some ⟨b, 0, none⟩)) rfl) ?_
          refine dw_load (i := 3) rfl (by decide +kernel) ?_
          refine op_loadPA 4 (vs := [.slice _ _ _, .slice _ _ _, .slice _ _ _]) rfl rfl rfl rfl rfl ?_
          refine dw_eff (i := 4) rfl (by decide +kernel) ?_
          refine op_fnMM [] [_] [_, _, _, _, _, _, _, _, _, _, _] (vs := [.pointer _, .agg #[.slice _ _ _, .slice _ _ _, .slice _ _ _]]) rfl rfl rfl ((SeenOf_ok b y wt.length dt.length (by omega) (by omega) fs hjl' (by omega) A1 A2 A6 c1 c2 c6 h_e (R6.ext (Ext.trans F20 E_e)))) ?_
          rintro _ k21 _ F21 ⟨y21, sr, rfl, rfl, sr1⟩
          refine ⟨ext_wlm F21 _, ?_⟩
          refine dw_norm [_, _, _, _, _, _, _, _, _, _, _, _] rfl ?_
          refine dw_eff (i := 5) rfl (by decide +kernel) ?_
          refine op_buildSlice (zc := [_, _, _]) (vs := [(0, .agg #[.int .i64 _, .int .i64 _, .bool _])]) (cs := [_, _, _]) rfl rfl rfl rfl rfl rfl rfl fun b191 hb191 => ?_
          refine ⟨ext_newM hb191 _, ?_⟩
          refine dw_norm [_, _, _, _, _, _, _, _, _, _, _, _, _] rfl ?_
          refine dw_last (i := 6) rfl (by decide +kernel) (by decide +kernel) ?_
          refine op_appendR 11 r7 rfl rfl rfl (fun V => rdP V (i := 12) rfl) rfl rfl rfl rfl rfl rfl rfl rfl rfl (by omega) rfl (by rw [flat_len (m := 3) (fun _ _ => rfl)]; simp; omega) fun a7' h13a E13a ra7 => ?_
          refine dw_norm [_, _, _, _, _, _, _, _, _, _, _, _, _] rfl ?_
          refine dw_pure (i := 7) rfl (by decide +kernel) (pv_fieldAddr rfl rfl rfl rfl 3 rfl) ?_
          refine dw_last (i := 8) rfl (by decide +kernel) (by decide +kernel) ?_
          refine op_storeP 3 (v := .slice _ _ _) (vs := [_]) (c' := [_, _, _, _]) rfl rfl rfl rfl rfl rfl rfl rfl rfl ?_
          refine dw_norm [_, _, _, _, _, _, _, _, _, _, _, _, _] rfl ?_
          refine dw_end rfl ?_
          refine xp_region rfl ?_
          refine op_pure (pv_move (v := .int .i64 _) rfl) ?_
          refine op_pure (pv_arith rfl (by omega)) ?_
          refine op_pure (pv_assign (v := .int .i64 _) rfl) ?_
          refine ⟨(e - 1, y21, rs ++ [sr], a7'), ⟨rfl, trivial⟩, rfl, rfl, (Ext.trans (Ext.trans E_e F21) E13a), fun h3 E3 => ⟨⟨by omega, by simp; omega⟩, memS s3 sr1, by rw [List.flatMap_append]; exact ra7⟩, by first | omega | (dsimp only; omega), ?_⟩
          repeat (first | exact off_base _ _ _ | refine off_upd (by decide) ?_ | refine off_updL rfl ?_ | refine off_mix rfl ?_)
        · skip
          obtain ⟨p7, A7, n7, c7⟩ := a7
          dsimp only at *
          obtain rfl : n7 = rs.length := by have := AccR.len r7; rw [flat_len (m := 3) (fun _ _ => rfl)] at this; dsimp only at this; omega
          refine xp_exit ?_
          refine xp_seq ?_
          refine xp_dw [false, true, true] rfl rfl rfl ?_
          refine dw_load (i := 0) rfl (by decide +kernel) ?_
          refine op_loadPA 3 (vs := [.slice _ _ _, .slice _ _ _, .slice _ _ _, .slice _ _ _]) rfl rfl rfl rfl rfl ?_
          refine dw_load (i := 1) rfl (by decide +kernel) ?_
          refine op_loadPA 4 (vs := [.slice _ _ _, .slice _ _ _, .slice _ _ _]) rfl rfl rfl rfl rfl ?_
          refine dw_eff (i := 2) rfl (by decide +kernel) ?_
          refine op_storeP 1 (v := .agg #[.slice _ _ _, .slice _ _ _, .slice _ _ _, .slice _ _ _]) (vs := [_, _, _, _]) (c' := [_, _, _, _]) rfl rfl rfl rfl rfl rfl rfl rfl rfl ?_
          refine ⟨Ext.refl _, ?_⟩
          refine dw_norm [_, _, _, _, _, _, _, _, _, _, _, _] rfl ?_
          refine dw_last (i := 3) rfl (by decide +kernel) (by decide +kernel) ?_
          refine op_storeP 2 (v := .agg #[.slice _ _ _, .slice _ _ _, .slice _ _ _]) (vs := [_, _, _]) (c' := [_, _, _]) rfl rfl rfl rfl rfl rfl rfl rfl rfl ?_
          refine dw_norm [_, _, _, _, _, _, _, _, _, _, _, _] rfl ?_
          refine dw_end rfl ?_
          refine xp_ret ?_
          refine res_list (vs := [_, _]) Try.results21 ⟨resV_agg 1 rfl rfl rfl rfl rfl (vs := [.slice _ _ _, .slice _ _ _, .slice _ _ _, .slice _ _ _]) rfl, resV_agg 2 rfl rfl rfl rfl rfl (vs := [.slice _ _ _, .slice _ _ _, .slice _ _ _]) rfl, trivial⟩ fun V => ?_
          obtain ⟨h9, E9, e9, V9⟩ := wl_two [_, _, _, _, _, _, _, _] [_] [] V
          exact ⟨h9, _, e9, V9, Ext.trans (Ext.trans (Ext.trans (Ext.trans (Ext.trans (Ext.trans (Ext.trans (Ext.trans (Ext.trans (Ext.trans (Ext.trans E1 E_q) G1) G2) G3) G4) F1) E_i) G6) F20) E_e) E9, y, ⟨hs, ds, js, rs⟩, wt, dt, fs, _, _, ⟨p5, A5, js.length, c5⟩, ⟨p7, A7, rs.length, c7⟩, rfl, rfl, ⟨by omega, by omega, j4, j5, j6, j7, j8, by show js.length ≤ _; omega, m3, by show rs.length ≤ _; omega, s3⟩, r5, r7, ⟨A3, c3, A4, c4, rfl, (R3.ext (Ext.trans (Ext.trans (Ext.trans (Ext.trans F1 E_i) G6) F20) E_e)).ext E9, (R4.ext (Ext.trans (Ext.trans (Ext.trans (Ext.trans F1 E_i) G6) F20) E_e)).ext E9⟩, A1, c1, A2, c2, A6, c6, rfl, (R1.ext (Ext.trans (Ext.trans (Ext.trans (Ext.trans F1 E_i) G6) F20) E_e)).ext E9, (R2.ext (Ext.trans (Ext.trans (Ext.trans (Ext.trans F1 E_i) G6) F20) E_e)).ext E9, (R6.ext (Ext.trans F20 E_e)).ext E9⟩
      · skip
        refine guard_no rfl he ?_
        refine guard_no rfl he ?_
        refine guard_no rfl he ?_
        refine guard_no rfl he ?_
        refine op_pure (pv_pickF rfl he (v := .bool _) rfl) ?_
        refine xp_condF rfl (rfl) ?_
        obtain ⟨p7, A7, n7, c7⟩ := a7
        dsimp only at *
        obtain rfl : n7 = rs.length := by have := AccR.len r7; rw [flat_len (m := 3) (fun _ _ => rfl)] at this; dsimp only at this; omega
        refine xp_exit ?_
        refine xp_seq ?_
        refine xp_dw [false, true, true] rfl rfl rfl ?_
        refine dw_load (i := 0) rfl (by decide +kernel) ?_
        refine op_loadPA 3 (vs := [.slice _ _ _, .slice _ _ _, .slice _ _ _, .slice _ _ _]) rfl rfl rfl rfl rfl ?_
        refine dw_load (i := 1) rfl (by decide +kernel) ?_
        refine op_loadPA 4 (vs := [.slice _ _ _, .slice _ _ _, .slice _ _ _]) rfl rfl rfl rfl rfl ?_
        refine dw_eff (i := 2) rfl (by decide +kernel) ?_
        refine op_storeP 1 (v := .agg #[.slice _ _ _, .slice _ _ _, .slice _ _ _, .slice _ _ _]) (vs := [_, _, _, _]) (c' := [_, _, _, _]) rfl rfl rfl rfl rfl rfl rfl rfl rfl ?_
        refine ⟨Ext.refl _, ?_⟩
        refine dw_norm [_, _, _, _, _, _, _, _, _, _, _, _] rfl ?_
        refine dw_last (i := 3) rfl (by decide +kernel) (by decide +kernel) ?_
        refine op_storeP 2 (v := .agg #[.slice _ _ _, .slice _ _ _, .slice _ _ _]) (vs := [_, _, _]) (c' := [_, _, _]) rfl rfl rfl rfl rfl rfl rfl rfl rfl ?_
        refine dw_norm [_, _, _, _, _, _, _, _, _, _, _, _] rfl ?_
        refine dw_end rfl ?_
        refine xp_ret ?_
        refine res_list (vs := [_, _]) Try.results21 ⟨resV_agg 1 rfl rfl rfl rfl rfl (vs := [.slice _ _ _, .slice _ _ _, .slice _ _ _, .slice _ _ _]) rfl, resV_agg 2 rfl rfl rfl rfl rfl (vs := [.slice _ _ _, .slice _ _ _, .slice _ _ _]) rfl, trivial⟩ fun V => ?_
        obtain ⟨h9, E9, e9, V9⟩ := wl_two [_, _, _, _, _, _, _, _] [_] [] V
        exact ⟨h9, _, e9, V9, Ext.trans (Ext.trans (Ext.trans (Ext.trans (Ext.trans (Ext.trans (Ext.trans (Ext.trans (Ext.trans (Ext.trans (Ext.trans E1 E_q) G1) G2) G3) G4) F1) E_i) G6) F20) E_e) E9, y, ⟨hs, ds, js, rs⟩, wt, dt, fs, _, _, ⟨p5, A5, js.length, c5⟩, ⟨p7, A7, rs.length, c7⟩, rfl, rfl, ⟨by omega, by omega, j4, j5, j6, j7, j8, by show js.length ≤ _; omega, m3, by show rs.length ≤ _; omega, s3⟩, r5, r7, ⟨A3, c3, A4, c4, rfl, (R3.ext (Ext.trans (Ext.trans (Ext.trans (Ext.trans F1 E_i) G6) F20) E_e)).ext E9, (R4.ext (Ext.trans (Ext.trans (Ext.trans (Ext.trans F1 E_i) G6) F20) E_e)).ext E9⟩, A1, c1, A2, c2, A6, c6, rfl, (R1.ext (Ext.trans (Ext.trans (Ext.trans (Ext.trans F1 E_i) G6) F20) E_e)).ext E9, (R2.ext (Ext.trans (Ext.trans (Ext.trans (Ext.trans F1 E_i) G6) F20) E_e)).ext E9, (R6.ext (Ext.trans F20 E_e)).ext E9⟩
theorem SeasonOf_ok (b x weeks joints reports : Nat) (hw : 1 ≤ weeks) (hw2 : weeks ≤ 6) (hj : joints ≤ 3) (hr : reports ≤ 100) (h : AH) :
    FnM Try.prog (.func (.func 21) #[] ([] : List Value).toArray) [.pointer (some ⟨b, 0, none⟩), .int .i64 weeks, .int .i64 joints, .int .i64 reports] h [some (b, .cells #[.int .u64 (x : Int)] 95 (0, 0))]
    (fun v h' M' => ∃ (x' : Nat) (s : Season) (ht dt fs : List Int) (u w : Value), M' = [some (b, .cells #[.int .u64 (x' : Int)] 95 (0, 0))] ∧ v = .tuple #[u, w] ∧ SeasonS h' s u ∧ SeasonT weeks joints reports s ht dt fs
      ∧ ∃ HA hc DA dc FA fc, w = .agg #[.slice HA ht.length hc, .slice DA dt.length dc, .slice FA fs.length fc] ∧ Row h' 1 intC HA ht ∧ Row h' 1 intC DA dt ∧ Row h' 1 intC FA fs) := by
  intro V
  refine CallV.mono (SeasonOf_okM b x weeks joints reports hw hw2 hj hr h V) ?_ (fun _ _ y => y)
  rintro v H ⟨h', M', e, V', E, x', s, ht, dt, fs, u, w, a5, a7, rfl, rfl, T, r5, r7, ⟨A0, c0, A1, c1, rfl, RH, RD⟩, HA, hc, DA, dc, FA, fc, rfl, R1, R2, R3⟩
  obtain ⟨h9, E9, e9, V9, P5, P7⟩ := wl_open V'
  exact ⟨h9, _, e.trans e9, V9, E.trans E9, x', s, ht, dt, fs, _, _, rfl, rfl, ⟨A0, A1, a5.A, a7.A, c0, c1, a5.c, a7.c, rfl, RH.ext E9, RD.ext E9, ⟨fun _ _ => rfl, AccR.rd r5 P5⟩, ⟨fun _ _ => rfl, AccR.rd r7 P7⟩⟩, T, HA, hc, DA, dc, FA, fc, rfl, R1.ext E9, R2.ext E9, R3.ext E9⟩
end Go.Proofs.Ytndfkbapoinmkaa
/- Plain: a season that its truth bears out has no error. Conditions: as each theorem states. -/
namespace Go.Wx
open Go Go.HL
theorem firstErr_all {α : Type} {f : α → Int} : ∀ {l : List α}, (∀ x ∈ l, f x = 0) → firstErr f l = 0
  | [], _ => rfl
  | y :: l, h => by
    rw [firstErr, if_neg (by simp [h y (List.mem_cons_self ..)])]
    exact firstErr_all fun x hx => h x (List.mem_cons_of_mem _ hx)
theorem checkRange_of {x : Rg} {lo hi : Int} (h : lo ≤ x.mn ∧ x.mn ≤ x.mx ∧ x.mx ≤ hi) : checkRangeM x lo hi = 0 := by
  unfold checkRangeM inM
  rw [if_neg (by simp; omega), if_neg (by simp; omega), if_neg (by omega)]
theorem checkWeather_of {x : Rg} (h : -50 ≤ x.mn ∧ x.mn ≤ x.mx ∧ x.mx ≤ 100 ∧ x.mx - x.mn ≤ 2) : checkWeatherM x = 0 := by
  unfold checkWeatherM
  rw [checkRange_of ⟨h.1, h.2.1, h.2.2.1⟩, if_neg (by simp), if_neg (by omega)]
theorem NearR.bd {t lo hi d : Int} {r : Rg} (n : NearR t lo hi d r) (h1 : lo ≤ t) (h2 : t ≤ hi) : lo ≤ r.mn ∧ r.mn ≤ t ∧ t ≤ r.mx ∧ r.mx ≤ hi ∧ r.mx - r.mn ≤ 2 * d := by
  obtain ⟨u, w, a, b, c, e, rfl⟩ := n
  dsimp only
  omega
theorem NearL.mem {ts : List Int} {rs : List Rg} (n : NearL ts rs) {r : Rg} (h : r ∈ rs) : ∃ t ∈ ts, NearR t (-50) 100 1 r := by
  obtain ⟨i, hi⟩ := List.mem_iff_getElem?.1 h
  have hl := (List.getElem?_eq_some_iff.1 hi).1
  have hl' : i < ts.length := by rw [← n.len]; exact hl
  have ht : ts[i]? = some ts[i] := List.getElem?_eq_getElem hl'
  exact ⟨ts[i], List.getElem_mem _, n.at' i _ r ht hi⟩
section
variable {weeks joints reports : Nat} {s : Season} {ht dt fs : List Int} (T : SeasonT weeks joints reports s ht dt fs) (hw : weeks ≤ 6) (hj : joints ≤ 3) (hr : reports ≤ 5)
include T hw hj hr
theorem check_T : checkM s = 0 := by
  have h1 := T.w1
  have h2 := T.ww
  have h3 := T.hn.len
  have h4 := T.dn.len
  have h5 := T.dl
  have h6 := T.jl
  have h7 := T.rl
  have hwt : firstErr checkWeatherM (s.heats ++ s.damps) = 0 := firstErr_all fun r h => by
    rcases List.mem_append.1 h with h | h
    · obtain ⟨t, ht', n⟩ := T.hn.mem h
      have := T.hb t ht'
      have := n.bd (by omega) (by omega)
      exact checkWeather_of (by omega)
    · obtain ⟨t, ht', n⟩ := T.dn.mem h
      have := T.db t ht'
      have := n.bd (by omega) (by omega)
      exact checkWeather_of (by omega)
  have hjt : firstErr checkJointM s.joints = 0 := firstErr_all fun j h => by
    obtain ⟨i, hi⟩ := List.mem_iff_getElem?.1 h
    have hl := (List.getElem?_eq_some_iff.1 hi).1
    have hl' : i < fs.length := by rw [T.js.len]; exact hl
    have hf : fs[i]? = some fs[i] := List.getElem?_eq_getElem hl'
    obtain ⟨a, b, c, d, J⟩ := T.js.at' i j _ hi hf
    have k := J.k
    have m := J.m
    have l := J.l
    have n1 := J.h1.bd (by omega) (by omega)
    have n2 := J.h2.bd (by omega) (by omega)
    have n3 := J.h3.bd (by omega) (by omega)
    have n4 := J.h4.bd (by omega) (by omega)
    unfold checkJointM inM
    rw [if_neg (by simp; omega), checkWeather_of (x := j.high) (by omega), if_neg (by simp), checkWeather_of (x := j.low) (by omega), if_neg (by simp), checkRange_of (x := j.weeks) (by omega), if_neg (by simp), checkRange_of (x := j.life) (by omega)]
  have hrt : firstErr (checkSeenM s) s.reports = 0 := firstErr_all fun r h => by
    obtain ⟨a, b, c, d, _⟩ := T.rs r h
    have := T.js.len
    unfold checkSeenM inM
    rw [if_neg (by simp; omega), if_neg (by simp; omega)]
  unfold checkM
  rw [if_neg (by omega), if_neg (by omega), if_neg (by omega), if_neg (by omega), hwt, if_neg (by simp), if_neg (by omega), hjt, if_neg (by simp), if_neg (by omega), hrt]
end
/-- The true weather. -/
def skyOf (l : List Int) : Sky := ⟨l.getD 0 0, l.getD 1 0, l.getD 2 0, l.getD 3 0, l.getD 4 0, l.getD 5 0⟩
theorem skyOf_at (l : List Int) : ∀ w, w < 6 → (skyOf l).at w = l.getD w 0
  | 0, _ => rfl
  | 1, _ => rfl
  | 2, _ => rfl
  | 3, _ => rfl
  | 4, _ => rfl
  | 5, _ => rfl
  | w + 6, h => by omega
theorem Sky.ext_at {x y : Sky} (h : ∀ i, i < 6 → x.at i = y.at i) : x = y := by
  obtain ⟨a0, a1, a2, a3, a4, a5⟩ := x
  obtain ⟨b0, b1, b2, b3, b4, b5⟩ := y
  have h0 := h 0 (by omega); have h1 := h 1 (by omega); have h2 := h 2 (by omega); have h3 := h 3 (by omega); have h4 := h 4 (by omega); have h5 := h 5 (by omega)
  simp only [Sky.at] at h0 h1 h2 h3 h4 h5
  rw [h0, h1, h2, h3, h4, h5]
theorem Sky.at_set (x : Sky) (v : Int) {k i : Nat} (hk : k < 6) (hi : i < 6) : (x.set k v).at i = if i = k then v else x.at i := by
  match k, hk, i, hi with
  | 0, _, i, hi => match i, hi with | 0, _ => rfl | 1, _ => rfl | 2, _ => rfl | 3, _ => rfl | 4, _ => rfl | 5, _ => rfl | i + 6, h => omega
  | 1, _, i, hi => match i, hi with | 0, _ => rfl | 1, _ => rfl | 2, _ => rfl | 3, _ => rfl | 4, _ => rfl | 5, _ => rfl | i + 6, h => omega
  | 2, _, i, hi => match i, hi with | 0, _ => rfl | 1, _ => rfl | 2, _ => rfl | 3, _ => rfl | 4, _ => rfl | 5, _ => rfl | i + 6, h => omega
  | 3, _, i, hi => match i, hi with | 0, _ => rfl | 1, _ => rfl | 2, _ => rfl | 3, _ => rfl | 4, _ => rfl | 5, _ => rfl | i + 6, h => omega
  | 4, _, i, hi => match i, hi with | 0, _ => rfl | 1, _ => rfl | 2, _ => rfl | 3, _ => rfl | 4, _ => rfl | 5, _ => rfl | i + 6, h => omega
  | 5, _, i, hi => match i, hi with | 0, _ => rfl | 1, _ => rfl | 2, _ => rfl | 3, _ => rfl | 4, _ => rfl | 5, _ => rfl | i + 6, h => omega
  | k + 6, h, _, _ => omega
theorem mem_skies {y : Sky} : ∀ (rs : List Rg) (k : Nat) (x : Sky), k + rs.length ≤ 6 → (∀ (i : Nat) r, rs[i]? = some r → r.mn ≤ y.at (k + i) ∧ y.at (k + i) ≤ r.mx) → (∀ i, i < 6 → i < k ∨ k + rs.length ≤ i → y.at i = x.at i) → y ∈ skiesM rs k x
  | [], k, x, _, _, h => by
    rw [skiesM, List.mem_singleton]
    exact Sky.ext_at fun i hi => h i hi (by simp; omega)
  | r :: rs, k, x, hl, hr, h => by
    rw [List.length_cons] at hl h
    rw [skiesM, List.mem_flatMap]
    have h0 := hr 0 r rfl
    refine ⟨y.at k, mem_rangeI.2 (by rw [Nat.add_zero] at h0; omega), mem_skies rs (k + 1) _ (by omega) (fun i q hq => ?_) (fun i hi hc => ?_)⟩
    · have := hr (i + 1) q (by simpa using hq)
      rw [show k + 1 + i = k + (i + 1) by omega]
      exact this
    · rw [Sky.at_set x _ (by omega) hi]
      split
      · rename_i e; rw [e]
      · exact h i hi (by omega)
end Go.Wx
/- Plain: when a joint truly fails. Conditions: as each theorem states. -/
namespace Go.Wx
open Go Go.HL
theorem failP_spec (x : List Int) (hi lo many life : Int) : ∀ k, k ≤ x.length → x.length - k ≤ failP x hi lo many life k ∧ failP x hi lo many life k ≤ x.length ∧ (failP x hi lo many life k < x.length → failW x hi lo many life (failP x hi lo many life k) = true) ∧ ∀ w, x.length - k ≤ w → w < failP x hi lo many life k → failW x hi lo many life w = false
  | 0, _ => ⟨by simp [failP], by simp [failP], fun h => absurd h (by simp [failP]), fun w h1 h2 => by simp [failP] at h2; omega⟩
  | k + 1, hk => by
    obtain ⟨a, b, c, d⟩ := failP_spec x hi lo many life k (by omega)
    unfold failP
    split
    · rename_i h
      exact ⟨Nat.le_refl _, by omega, fun _ => h, fun w h1 h2 => by omega⟩
    · rename_i h
      refine ⟨by omega, b, c, fun w h1 h2 => ?_⟩
      by_cases hw : w = x.length - (k + 1)
      · rw [hw]; simpa using h
      · exact d w (by omega) h2
/-- The first week that fails is told by what it is. -/
theorem failT_eq {x : List Int} {hi lo many life : Int} {f : Nat} (h1 : f ≤ x.length) (h2 : f < x.length → failW x hi lo many life f = true) (h3 : ∀ w, w < f → failW x hi lo many life w = false) : failT x hi lo many life = f := by
  obtain ⟨_, b, c, d⟩ := failP_spec x hi lo many life x.length (Nat.le_refl _)
  unfold failT
  rcases Nat.lt_trichotomy (failP x hi lo many life x.length) f with h | h | h
  · have := h3 _ h
    rw [c (by omega)] at this
    cases this
  · exact h
  · have := d f (by omega) h
    rw [h2 (by omega)] at this
    cases this
theorem coldM_cold (l : List Int) (c : Int) : ∀ k, k ≤ l.length → l.length ≤ 6 → (coldM (skyOf l) c k).length = coldN l c k
  | 0, _, _ => rfl
  | k + 1, hk, h6 => by
    have hkl : k < l.length := by omega
    rw [coldM_succ, coldN_succ hkl, ← coldM_cold l c k (by omega) h6, skyOf_at l k (by omega), List.getD_eq_getElem?_getD, List.getElem?_eq_getElem hkl]
    show (if l[k] ≤ c then _ else _ : List Int).length = _
    split <;> simp
theorem coldM_at (x : Sky) (c : Int) (w n : Nat) (hw : w < n) (hc : x.at w ≤ c) : (coldM x c n)[(coldM x c w).length]? = some (w : Int) := by
  induction n with
  | zero => omega
  | succ n ih =>
    rw [coldM_succ]
    by_cases h : w = n
    · subst h
      rw [if_pos hc, List.getElem?_append_right (Nat.le_refl _)]
      simp
    · have := ih (by omega)
      split
      · rw [List.getElem?_append_left (List.getElem?_eq_some_iff.1 this).1]; exact this
      · exact this
end Go.Wx
/- Plain: what the truth of a season says of its questions. Conditions: as each theorem states. -/
namespace Go.Wx
open Go Go.HL
theorem listN_pair (m : Nat) : ∀ k, (listN m k).Pairwise (· < ·)
  | 0 => by simp [listN]
  | k + 1 => by
    rw [listN_succ]
    split
    · rw [List.pairwise_append]
      refine ⟨listN_pair m k, by simp, fun a ha b hb => ?_⟩
      obtain ⟨i, rfl, hi, _⟩ := listN_mem ha
      simp at hb
      subst hb
      omega
    · exact listN_pair m k
theorem mem_listN {m k : Nat} {z : Int} : z ∈ listN m k ↔ ∃ i : Nat, z = i ∧ i < k ∧ m.testBit i = true := by
  refine ⟨listN_mem, ?_⟩
  rintro ⟨i, rfl, hi, hb⟩
  unfold listN
  simp only [List.mem_map, List.mem_filter, List.mem_range]
  exact ⟨i, ⟨hi, hb⟩, rfl⟩
theorem when0_spec (x : Sky) (n : Nat) (h : Int) (hn : n ≤ 6) : when0 x n h ≤ n ∧ (when0 x n h < n → h ≤ x.at (when0 x n h)) ∧ ∀ w, w < n → h ≤ x.at w → when0 x n h ≤ w := by
  unfold when0
  have hp := listN_pair (hotM x h n) 7
  have hm := @mem_listN (hotM x h n) 7
  split
  · rename_i e
    refine ⟨Nat.le_refl _, fun h => absurd h (by omega), fun w hw hh => ?_⟩
    have : (w : Int) ∈ listN (hotM x h n) 7 := hm.2 ⟨w, rfl, by omega, by rw [hotM_bit]; simp [hw, hh]⟩
    rw [show listN (hotM x h n) 7 = [] from e] at this
    cases this
  · rename_i w l e
    rw [show listN (hotM x h n) 7 = w :: l from e] at hp hm
    obtain ⟨i, rfl, hi, hb⟩ := hm.1 (List.mem_cons_self ..)
    rw [hotM_bit] at hb
    simp at hb
    refine ⟨by simp; omega, fun _ => by simpa using hb.2, fun w hw hh => ?_⟩
    have : (w : Int) ∈ (i : Int) :: l := hm.2 ⟨w, rfl, by omega, by rw [hotM_bit]; simp [hw, hh]⟩
    rcases List.mem_cons.1 this with h1 | h1
    · simp; omega
    · have := (List.pairwise_cons.1 hp).1 _ h1
      simp; omega
theorem coldM_pair (x : Sky) (c : Int) : ∀ k, (coldM x c k).Pairwise (· < ·)
  | 0 => by simp [coldM]
  | k + 1 => by
    rw [coldM_succ]
    split
    · rw [List.pairwise_append]
      refine ⟨coldM_pair x c k, by simp, fun a ha b hb => ?_⟩
      obtain ⟨i, rfl, hi, _⟩ := coldM_mem ha
      simp at hb
      subst hb
      omega
    · exact coldM_pair x c k
theorem pair_inj {l : List Int} (hp : l.Pairwise (· < ·)) {i j : Nat} {z : Int} (hi : l[i]? = some z) (hj : l[j]? = some z) : i = j := by
  obtain ⟨h1, e1⟩ := List.getElem?_eq_some_iff.1 hi
  obtain ⟨h2, e2⟩ := List.getElem?_eq_some_iff.1 hj
  rw [List.pairwise_iff_getElem] at hp
  rcases Nat.lt_trichotomy i j with h | h | h
  · have := hp i j h1 h2 h; omega
  · exact h
  · have := hp j i h2 h1 h; omega
theorem when1_spec (l : List Int) (hl : l.length ≤ 6) (c : Int) (many : Nat) (hm : 1 ≤ many) : when1 (skyOf l) l.length c many ≤ l.length ∧ (when1 (skyOf l) l.length c many < l.length → (skyOf l).at (when1 (skyOf l) l.length c many) ≤ c ∧ coldN l c (when1 (skyOf l) l.length c many + 1) = many) ∧ ∀ w, w < l.length → (skyOf l).at w ≤ c → coldN l c (w + 1) = many → when1 (skyOf l) l.length c many = w := by
  have step : ∀ w, w < l.length → (skyOf l).at w ≤ c → coldN l c (w + 1) = (coldM (skyOf l) c w).length + 1 := by
    intro w hw hc
    rw [← coldM_cold l c (w + 1) (by omega) hl, coldM_succ, if_pos hc]
    simp
  have third : ∀ w, w < l.length → (skyOf l).at w ≤ c → coldN l c (w + 1) = many → when1 (skyOf l) l.length c many = w := by
    intro w hw hc he
    have h1 := coldM_at (skyOf l) c w l.length hw hc
    rw [step w hw hc] at he
    have h2 := (List.getElem?_eq_some_iff.1 h1).1
    unfold when1
    rw [if_pos (by omega), show many - 1 = (coldM (skyOf l) c w).length from by omega, List.getD_eq_getElem?_getD, h1]
    rfl
  unfold when1 at third ⊢
  by_cases h : many ≤ (coldM (skyOf l) c l.length).length
  · rw [if_pos h] at third ⊢
    have hx : (coldM (skyOf l) c l.length)[many - 1]? = some ((coldM (skyOf l) c l.length)[many - 1]'(by omega)) := List.getElem?_eq_getElem (by omega)
    obtain ⟨w, hw, h1, h2⟩ := coldM_mem (List.getElem_mem (show many - 1 < (coldM (skyOf l) c l.length).length by omega))
    rw [hw] at hx
    have h3 := coldM_at (skyOf l) c w l.length h1 h2
    have h4 := pair_inj (coldM_pair _ _ _) hx h3
    rw [List.getD_eq_getElem?_getD, hx] at third ⊢
    refine ⟨by simp; omega, fun _ => ?_, third⟩
    simp only [Option.getD_some, Int.toNat_natCast]
    exact ⟨h2, by rw [step w h1 h2]; omega⟩
  · rw [if_neg h] at third ⊢
    exact ⟨Nat.le_refl _, fun h => absurd h (by omega), third⟩
/-- The week of a failure, in a weather that is known, is the first week with a cause. -/
theorem weekM_T (l : List Int) (hl : l.length ≤ 6) (hi lo : Int) (many life : Nat) (hm : 1 ≤ many) : failT l hi lo many life = weekM (skyOf l) l.length hi lo many life := by
  obtain ⟨a1, a2, a3⟩ := when0_spec (skyOf l) l.length hi hl
  obtain ⟨b1, b2, b3⟩ := when1_spec l hl lo many hm
  have hat : ∀ w, w < l.length → l.getD w 0 = (skyOf l).at w := fun w hw => (skyOf_at l w (by omega)).symm
  refine failT_eq (weekM_le ..) (fun h => ?_) (fun w hw => ?_)
  · unfold failW
    rw [hat _ h]
    simp only [Bool.or_eq_true, Bool.and_eq_true, decide_eq_true_eq]
    generalize he : weekM (skyOf l) l.length hi lo many life = f at h ⊢
    unfold weekM at he
    have : f = when0 (skyOf l) l.length hi ∨ f = when1 (skyOf l) l.length lo many ∨ f = life := by omega
    rcases this with e | e | e
    · left; left; rw [e]; exact a2 (by omega)
    · right; rw [e] at h ⊢; have := b2 h; exact ⟨this.1, by exact_mod_cast this.2⟩
    · left; right; exact_mod_cast e
  · have hwn : w < l.length := Nat.lt_of_lt_of_le hw (weekM_le ..)
    unfold weekM at hw
    unfold failW
    rw [hat _ hwn]
    rw [Bool.eq_false_iff]
    intro hc
    simp only [Bool.or_eq_true, Bool.and_eq_true, decide_eq_true_eq] at hc
    rcases hc with (h | h) | ⟨h1, h2⟩
    · have := a3 w hwn h; omega
    · omega
    · have := b3 w hwn h1 (by exact_mod_cast h2); omega
theorem uptoM_bit (m k w : Nat) : (uptoM m k).testBit w = (m.testBit w && decide (w ≤ k)) := by
  unfold uptoM
  rw [Nat.testBit_and, Nat.testBit_two_pow_sub_one]
  congr 1
  rw [decide_eq_decide]
  omega
theorem toldStep_bit (j : Int) (m : Nat) (r : Seen) (w : Nat) (hw : w < 64) (hm : m < 2 ^ 64) (hr : 0 ≤ r.week) : (toldStep j m r).testBit w = (m.testBit w && (!decide (r.joint = j) || (r.failed == decide ((w : Int) ≤ r.week)))) := by
  have hwk : decide (w ≤ r.week.toNat) = decide ((w : Int) ≤ r.week) := by rw [decide_eq_decide]; omega
  unfold toldStep
  by_cases h : r.joint = j
  · rw [if_neg (by simp [h])]
    cases hf : r.failed with
    | true => simp [uptoM_bit, h, hwk]
    | false =>
      have hu : uptoM m r.week.toNat < 2 ^ 64 := uptoM_lt hm
      simp only [h, Bool.false_eq_true, if_false, decide_true, Bool.not_true, Bool.false_or]
      rw [Nat.testBit_and, show 2 ^ 64 - 1 - uptoM m r.week.toNat = 2 ^ 64 - (uptoM m r.week.toNat + 1) from by omega, Nat.testBit_two_pow_sub_succ hu, uptoM_bit, hwk]
      cases m.testBit w <;> simp [hw]
  · rw [if_pos h]; simp [h]
/-- Which weeks the reports leave for a joint. -/
theorem toldW_bit (s : Season) (h6 : s.heats.length ≤ 6) (hr : ∀ r ∈ s.reports, 0 ≤ r.week) (i w : Nat) (hw : w < 64) : (toldW s i).testBit w = (decide (w ≤ s.heats.length) && s.reports.all fun r => !decide (r.joint = (i : Int)) || (r.failed == decide ((w : Int) ≤ r.week))) := by
  have key : ∀ (l : List Seen) (m : Nat), m < 2 ^ 64 → (∀ r ∈ l, 0 ≤ r.week) → (l.foldl (toldStep i) m).testBit w = (m.testBit w && l.all fun r => !decide (r.joint = (i : Int)) || (r.failed == decide ((w : Int) ≤ r.week))) := by
    intro l
    induction l with
    | nil => intro m _ _; simp
    | cons r l ih =>
      intro m hm hr
      rw [List.foldl_cons, ih _ (toldStep_lt hm) (fun q hq => hr q (List.mem_cons_of_mem _ hq)), toldStep_bit _ _ _ _ hw hm (hr r (List.mem_cons_self ..)), List.all_cons, Bool.and_assoc]
  have h2 : 2 ^ (s.heats.length + 1) ≤ 2 ^ 7 := Nat.pow_le_pow_right (by omega) (by omega)
  unfold toldW toldM
  rw [List.take_length, key _ _ (by omega) hr, Nat.testBit_two_pow_sub_one]
  congr 1
  rw [decide_eq_decide]
  omega
theorem mem_okAll {s : Season} {n : Int} {x : Sky} : x ∈ okK s n (allSkies s n).length ↔ x ∈ allSkies s n ∧ okM s n x = true := by
  unfold okK
  rw [List.take_length, List.mem_filter]
theorem mem_pushAll (x : Sky) : ∀ (l acc : List Sky), x ∈ l.foldl pushSky acc ↔ x ∈ acc ∨ x ∈ l
  | [], acc => by simp
  | y :: l, acc => by
    rw [List.foldl_cons, mem_pushAll x l]
    unfold pushSky
    split
    · rename_i h
      have hy : y ∈ acc := List.mem_of_getLast? h
      constructor
      · rintro (h | h) <;> simp [h]
      · rintro (h | h)
        · exact .inl h
        · rcases List.mem_cons.1 h with e | h
          · exact .inl (e ▸ hy)
          · exact .inr h
    · simp only [List.mem_append, List.mem_cons, List.not_mem_nil, or_false, or_assoc]
theorem mem_skM {s : Season} {n : Int} {x : Sky} : x ∈ skM s n ↔ x ∈ allSkies s n ∧ okM s n x = true := by
  show x ∈ (okK s n (allSkies s n).length).foldl pushSky [] ↔ _
  rw [mem_pushAll, mem_okAll]
  simp
theorem okM_iff {s : Season} {n : Int} {x : Sky} : okM s n x = true ↔ ∀ (i : Nat) j, s.joints[i]? = some j → j.kind = n → surv s n x i ≠ [] := by
  unfold okM
  rw [List.all_eq_true]
  constructor
  · intro h i j hj hk e
    have hl := (List.getElem?_eq_some_iff.1 hj).1
    have := h i (List.mem_range.2 hl)
    unfold kindAt at this
    rw [hj] at this
    simp [hk, fateM, e, maskM] at this
  · intro h i hi
    rw [List.mem_range] at hi
    have hj : s.joints[i]? = some s.joints[i] := List.getElem?_eq_getElem hi
    unfold kindAt
    rw [hj]
    by_cases hk : s.joints[i].kind = n
    · have := h i _ hj hk
      simp [fateM, maskM_zero, this]
    · simp [hk]
theorem mayM_iff {s : Season} : mayM s = true ↔ (∃ x, x ∈ skM s 1) ∧ (∃ x, x ∈ skM s 2) := by
  unfold mayM
  rw [Bool.and_eq_true, decide_eq_true_eq, decide_eq_true_eq, List.length_pos_iff_exists_mem, List.length_pos_iff_exists_mem]
section
variable {weeks joints reports : Nat} {s : Season} {ht dt fs : List Int} (T : SeasonT weeks joints reports s ht dt fs) (hw : weeks ≤ 6)
include T hw
end
end Go.Wx
/- The own logic, part U: from a walk to the row of a law. Conditions: none. -/
namespace Go.HL
open Go Go.Wx Go.RowKit
/-- What is asked at the end of a law. -/
def lawK (t : Nat) (h0 : AH) : Post
  | .normal, S, D, L, h => D = [] ∧ (Valid h L → Ext h0 (wl h L)) ∧ S t = .bool true
  | .ret, S, D, L, h => D = [] ∧ (Valid h L → Ext h0 (wl h L)) ∧ S t = .bool true
  | _, _, _, _, _ => False
theorem below_of {w w' : World} (se : SameEnv w w') (e : Ext (absH w.heap) (absH w'.heap)) : Below w.heap.size w w' := by
  have hb : ∀ k, k < w.heap.size → w'.heap[k]? = w.heap[k]? := by
    intro k hk
    have h1 : absH w.heap k = some w.heap[k] := Array.getElem?_eq_getElem hk
    have h2 : w'.heap[k]? = some w.heap[k] := e k _ h1
    rw [h2]
    exact (Array.getElem?_eq_getElem hk).symm
  refine ⟨se.os, se.tape, se.output, ?_, hb⟩
  rcases Nat.lt_or_ge w'.heap.size w.heap.size with h1 | h1
  · have h2 := hb w'.heap.size h1
    rw [Array.getElem?_eq_getElem h1] at h2
    simp at h2
  · exact h1
theorem calls_body {P : Program} {f : FuncId} {fn : Func} {c : Code} {args : Array Value} {n t : Nat} {w : World} (hf : P.funcs[f]? = some fn) (hb : fn.body = some c) (hn : fn.ntmps = n) (ha : Nat.ble args.size n = true) (hr : fn.results = #[.tmp t]) (ht : Nat.blt t n = true)
    (x : ∀ h, h = absH w.heap → xp P n none c (lawK t h) (argS args) [] [] h) : Calls P f args w (fun e w' => e = .returned (.bool true) ∧ Below w.heap.size w w') := by
  intro cs
  have he : Frame.enter P f args .normal = mk { (default : Frame) with fn := f, kind := .normal, roundOf := none } n (argS args) [] [.code c] := by
    simp [Frame.enter, mk, hf, hb, hn, enter_tmps n args (Nat.le_of_ble_eq_true ha)]
  have hres : ∀ (S : Sl) (w' : World), S t = .bool true → (results fn (arr n S)).run P w' = .ok (.bool true) w' := by
    intro S w' hs
    unfold results
    rw [hr, List.mapM_toArray]
    have e1 : (arr n S).getD t undef = .bool true := by rw [arr_getD, if_pos (Nat.lt_of_lt_of_le (Nat.lt_succ_self t) (Nat.le_of_ble_eq_true ht)), hs]
    show Result.ok ((arr n S).getD t undef) w' = _
    rw [e1]
  have x1 := x _ rfl (absH w.heap) (by have := Fits.nil (valid_nil (Fin.abs w.heap)); rw [wl_nil] at this; exact this) { (default : Frame) with fn := f, kind := .normal, roundOf := none } rfl [] cs
  have x2 : Rch P (fun fr cs' H => cs' = cs ∧ fr.mode = .returning ∧ fr.defers = [] ∧ fr.kind = .normal ∧ fr.fn = f ∧ (∃ S, fr.tmps = arr n S ∧ S t = .bool true) ∧ Ext (absH w.heap) H) (mk { (default : Frame) with fn := f, kind := .normal, roundOf := none } n (argS args) [] [.code c]) cs (absH w.heap) := by
    refine x1.bind ?_
    rintro fr cs' H ⟨rfl, e, S', D', L', h', V', kk, a⟩
    cases e with
    | normal =>
      obtain ⟨rfl, ex, hs⟩ := kk
      have a' : fr = mk { (default : Frame) with fn := f, kind := .normal, roundOf := none } n S' [] [] := a
      subst a'
      have hH : H = wl h' L' := by rw [V'.eq]; exact hun_nil _
      subst hH
      refine .ctl (fr' := { mk { (default : Frame) with fn := f, kind := .normal, roundOf := none } n S' [] [] with mode := .returning }) (cs' := cs') (fun w => by simp [stepG, stepG.exec, mk]) (.done ⟨rfl, rfl, rfl, rfl, rfl, ⟨S', rfl, hs⟩, ex V'.valid⟩)
    | ret =>
      obtain ⟨rfl, ex, hs⟩ := kk
      obtain ⟨todo, rfl⟩ := a.1 rfl
      have hH : H = wl h' L' := by rw [V'.eq]; exact hun_nil _
      subst hH
      exact .done ⟨rfl, rfl, rfl, rfl, rfl, ⟨S', rfl, hs⟩, ex V'.valid⟩
    | _ => exact kk.elim
  obtain ⟨fr', cs', w', st, se, rfl, hm, hd, hk, hfn, ⟨S, htm, hs⟩, ex⟩ := x2.lone w rfl
  refine ⟨.returned (.bool true), w', fr', ⟨rfl, below_of se ex⟩, ?_, hfn, hm, hd, hk, fn, by rw [hfn]; exact hf, by rw [htm]; exact hres S w' hs⟩
  rw [he]
  exact st
end Go.HL
/- The own logic, part CC: guarded operations that turn memory, amid drawn regions. Conditions: none. -/
namespace Go.HL
open Go
variable {P : Program} {n : Nat} {ops : Array Oper} {i : Nat} {d : Option Tmp} {op : Op} {ty : TypeId} {ps : String} {af : Array Edge} {S : Sl} {L : Pv} {h : AH} {mask : List Bool} {X : Sl → AH → Prop} {dn ac : List Nat}
theorem dw_lastG {j : Nat} {want t : Bool} (hoi : ops[i]? = some ⟨d, op, ty, ps, af, some (j, want)⟩) (hok : okE ops dn i = true) (hl : okL ops dn i = true)
    (ht : ev n S (.tmp (((ops[j]?).bind (·.dst)).getD n)) = .bool t) (hb : t = want) (w : wpL P n ops [⟨d, op, ty, ps, af, none⟩] (fun S' L' h' => Dw P n ops mask X (i :: dn) (i :: ac) S' L' h') (fun _ _ _ _ => False) S L h) : Dw P n ops mask X dn ac S L h := by
  intro V G hG
  unfold okE at hok
  rw [hoi] at hok
  simp only [Bool.and_eq_true] at hok
  obtain ⟨⟨hr, hbl⟩, hap⟩ := hok
  obtain ⟨m, hm⟩ := left_pos hr
  obtain ⟨hi, hdi⟩ := ready_lt hr
  rw [hm]
  refine take_any hoi m dn ac G S (wl h L) (fin_wl V) hm hr ?_ ?_ (fun g hg => (hG g hg).2.1) ?_ ?_
  · intro x hx
    have := List.all_eq_true.1 hbl x ((el_mem _ _).1 hx)
    simpa using this
  · intro g hg _
    exact (hG g hg).2.1 _ _ (ext_rm V) (hG g hg).2.2
  · intro j oj hoj hji hdj hbj
    have hjl : j < ops.size := (Array.getElem?_eq_some_iff.1 hoj).1
    have := List.all_eq_true.1 hap j (by simpa using hjl)
    rw [hoj, hdj, hbj] at this
    simp only [Bool.or_false, Bool.or_eq_true, beq_iff_eq, Bool.and_eq_true, Option.isNone_iff_eq_none] at this
    obtain ⟨⟨h1, h2⟩, h3⟩ := this.resolve_left hji
    exact ⟨h1, h2, h3⟩
  · refine ⟨some t, by rw [ht]; rfl, fun _ => ?_, fun hn => absurd (congrArg some hb) hn⟩
    show opW P n ⟨d, op, ty, ps, af, none⟩ S (wl h L) _ noE
    refine opW_mono ?_ ?_ (w V)
    · rintro v H ⟨L', h', rfl, V', hD⟩
      -- the facts that are still asked hold everywhere
      have hdead : ∀ g ∈ G, (∀ H, g.2 H) ∨ ¬ alive ops (i :: ac) g.1 := by
        intro g hg
        rcases (hG g hg).1 with h1 | ⟨h1, h2⟩
        · exact .inl h1
        · right
          intro a
          have := List.all_eq_true.1 hl g.1 ((el_mem _ _).1 h2)
          rw [h1] at this
          simp only [Bool.not_true, Bool.false_or] at this
          have := a i this
          simp [el_cons] at this
      refine ⟨fun g hg a => ((hdead g hg).resolve_right (fun n => n a)) _, ?_⟩
      have hall : ∀ (m : Nat) (dn' ac' : List Nat) (S' : Sl) (H' : AH), (∀ k, el k (i :: ac) = true → el k ac' = true) → WG P n ops m dn' ac' [] X S' H' → WG P n ops m dn' ac' G X S' H' := by
        intro m
        induction m with
        | zero => intro dn' ac' S' H' _ w; exact w
        | succ m ih =>
          intro dn' ac' S' H' hsub w j oj hoj hrj
          refine T1_mono (fun S2 H2 y => ⟨fun g hg a => ?_, ih _ _ _ _ (fun k hk => by simp [el_cons, hsub k hk]) y.2⟩) (w j oj hoj hrj)
          exact ((hdead g hg).resolve_right (fun n => n (alive_less (fun k hk => by simp [el_cons, hsub k hk]) a))) _
      have := hD V' [] (fun g hg => by cases hg)
      rw [left_cons hi hdi hm] at this
      exact hall m _ _ _ _ (fun _ h => h) this
    · rintro v H ⟨L', h', rfl, V', y⟩; exact y
end Go.HL
/- Walks: the law that goes week by week. Conditions: as each theorem states. -/
namespace Go.Proofs.Ytndfkbapoinmkaa
open Go Go.HL Go.Proofs Go.Wx Go.RowKit
set_option maxRecDepth 100000
theorem SeasonT.small {a b c : Nat} {s : Season} {ht dt fs : List Int} (T : SeasonT a b c s ht dt fs) (ha : a ≤ 6) (hb : b ≤ 3) (hc : c ≤ 100) : Small s := by
  have := T.hn.len; have := T.dn.len; have := T.dl; have := T.ww; have := T.jl; have := T.rl
  exact ⟨by omega, by omega, by omega, by omega⟩
section
variable {a b c : Nat} {s : Season} {ht dt fs : List Int} (T : SeasonT a b c s ht dt fs) (ha : a ≤ 6) (hb : b ≤ 3) (hc : c ≤ 5)
include T ha hb hc
end
end Go.Proofs.Ytndfkbapoinmkaa
/- Plain: seasons without an error, and without reports; how much warmer it may be. Conditions: as each theorem states. -/
namespace Go.Wx
open Go Go.HL
structure CheckS (s : Season) : Prop where
  w1 : 1 ≤ s.heats.length
  w6 : s.heats.length ≤ 6
  dl : s.damps.length = s.heats.length
  h : ∀ r ∈ s.heats, checkWeatherM r = 0
  d : ∀ r ∈ s.damps, checkWeatherM r = 0
  j3 : s.joints.length ≤ 3
  j : ∀ j ∈ s.joints, checkJointM j = 0
  r5 : s.reports.length ≤ 5
  r : ∀ r ∈ s.reports, checkSeenM s r = 0
theorem CheckS.ok {s : Season} (c : CheckS s) : checkM s = 0 := by
  have h1 := c.w1; have h2 := c.w6; have h3 := c.dl; have h4 := c.j3; have h5 := c.r5
  unfold checkM
  rw [if_neg (by omega), if_neg (by omega), if_neg (by omega), if_neg (by omega), firstErr_all (fun x hx => (List.mem_append.1 hx).elim (c.h x) (c.d x)), if_neg (by simp), if_neg (by omega), firstErr_all c.j, if_neg (by simp), if_neg (by omega), firstErr_all c.r]
theorem CheckS.of {s : Season} (h : checkM s = 0) : CheckS s := by
  have V := checkM_zero h
  unfold checkM at h
  split at h
  · cases h
  · split at h
    · cases h
    · split at h
      · cases h
      · split at h
        · cases h
        · split at h
          · rename_i h1; exact absurd h h1
          · rename_i h1
            split at h
            · cases h
            · split at h
              · rename_i h2; exact absurd h h2
              · rename_i h2
                split at h
                · cases h
                · have w := firstErr_zero (by simpa using h1)
                  exact ⟨by omega, by omega, by omega, fun r hr => w r (List.mem_append_left _ hr), fun r hr => w r (List.mem_append_right _ hr), by omega, firstErr_zero (by simpa using h2), by omega, firstErr_zero h⟩
theorem checkWeather_iff {r : Rg} : checkWeatherM r = 0 ↔ -50 ≤ r.mn ∧ r.mn ≤ r.mx ∧ r.mx ≤ 100 ∧ r.mx - r.mn ≤ 2 := by
  constructor
  · intro h
    obtain ⟨⟨_, a, _, b⟩, c, d⟩ := checkWeatherM_zero h
    omega
  · exact checkWeather_of
section
variable {α : Type} {f : α → α} {l : List α}
end
end Go.Wx
/- Walks: a season copied, and a warmer one (the reference). Conditions: as each theorem states. -/
namespace Go.Proofs.Ytndfkbapoinmkaa
open Go Go.HL Go.Proofs Go.Wx
set_option maxRecDepth 100000
end Go.Proofs.Ytndfkbapoinmkaa
/- Walks: the law on the margin. Conditions: as each theorem states. -/
namespace Go.Proofs.Ytndfkbapoinmkaa
open Go Go.HL Go.Proofs Go.Wx Go.RowKit
set_option maxRecDepth 100000
theorem SeasonT.checkS {a b c : Nat} {s : Season} {ht dt fs : List Int} (T : SeasonT a b c s ht dt fs) (ha : a ≤ 6) (hb : b ≤ 3) (hc : c ≤ 5) : CheckS s := CheckS.of (check_T T ha hb hc)
end Go.Proofs.Ytndfkbapoinmkaa
/- Plain: joints in another order, and joints of one kind alone. Conditions: as each theorem states. -/
namespace Go.Wx
open Go Go.HL
/-- Two seasons whose joints of a kind are the same but for their places. -/
structure SameK (s s' : Season) (n : Int) (f : Nat → Nat) : Prop where
  hs : s'.heats = s.heats
  ds : s'.damps = s.damps
  goes : ∀ (i : Nat) j, s.joints[i]? = some j → j.kind = n → s'.joints[f i]? = some j ∧ toldW s' (f i) = toldW s i
  comes : ∀ (i' : Nat) j, s'.joints[i']? = some j → j.kind = n → ∃ i, s.joints[i]? = some j ∧ f i = i'
section
variable {s s' : Season} {n : Int} {f : Nat → Nat}
theorem SameK.surv (e : SameK s s' n f) (x : Sky) {i : Nat} {j : Joint} (hj : s.joints[i]? = some j) (hk : j.kind = n) : surv s' n x (f i) = surv s n x i := by
  obtain ⟨h1, h2⟩ := e.goes i j hj hk
  unfold Wx.surv
  rw [hj, h1, h2, e.hs]
theorem SameK.all (e : SameK s s' n f) : allSkies s' n = allSkies s n := by unfold allSkies weatherM; rw [e.hs, e.ds]
theorem SameK.okE (e : SameK s s' n f) (x : Sky) : okM s' n x = okM s n x := by
  rw [Bool.eq_iff_iff, okM_iff, okM_iff]
  constructor
  · intro h i j hj hk; rw [← e.surv x hj hk]; exact h _ _ (e.goes i j hj hk).1 hk
  · intro h i' j hj hk
    obtain ⟨i, hi, rfl⟩ := e.comes i' j hj hk
    rw [e.surv x hi hk]
    exact h _ _ hi hk
theorem kindAt_some {s : Season} {i : Nat} {j : Joint} (hj : s.joints[i]? = some j) : kindAt s i = j.kind := by unfold kindAt; rw [hj]; rfl
end
theorem checkSeen_iff {s : Season} {r : Seen} : checkSeenM s r = 0 ↔ 0 ≤ r.joint ∧ r.joint < s.joints.length ∧ 0 ≤ r.week ∧ r.week < s.heats.length := by
  unfold checkSeenM inM
  constructor
  · intro h
    split at h
    · cases h
    · rename_i q1
      split at h
      · cases h
      · rename_i q2
        simp only [Bool.not_eq_true, Bool.not_eq_false', Bool.and_eq_true, decide_eq_true_eq] at q1 q2
        omega
  · intro h
    rw [if_neg (by simp; omega), if_neg (by simp; omega)]
/-- Numbers from 0 on in another order. -/
structure Order (o : List Int) (n : Nat) : Prop where
  len : o.length = n
  bd : ∀ x ∈ o, 0 ≤ x ∧ x < n
  inj : ∀ (i k : Nat), i < n → k < n → o[i]? = o[k]? → i = k
theorem Order.at' {o : List Int} {n : Nat} (O : Order o n) {i : Nat} (hi : i < n) : ∃ k : Nat, o[i]? = some (k : Int) ∧ k < n := by
  have hl : i < o.length := by rw [O.len]; exact hi
  have := O.bd o[i] (List.getElem_mem hl)
  exact ⟨o[i].toNat, by rw [List.getElem?_eq_getElem hl]; congr 1; omega, by omega⟩
/-- Where a joint goes. -/
def ordN (o : List Int) (i : Nat) : Nat := (o.getD i 0).toNat
theorem Order.ordN {o : List Int} {n : Nat} (O : Order o n) {i : Nat} (hi : i < n) : o[i]? = some ((ordN o i : Nat) : Int) ∧ Wx.ordN o i < n := by
  obtain ⟨k, h1, h2⟩ := O.at' hi
  unfold Wx.ordN
  rw [List.getD_eq_getElem?_getD, h1]
  simpa using h2
def moved (o : List Int) (r : Seen) : Seen := { r with joint := o.getD r.joint.toNat 0 }
/-- The joints of a season in another order. -/
structure Moved (s x : Season) (o : List Int) : Prop where
  ord : Order o s.joints.length
  hs : x.heats = s.heats
  ds : x.damps = s.damps
  jl : x.joints.length = s.joints.length
  js : ∀ i, i < s.joints.length → x.joints[ordN o i]? = s.joints[i]?
  rs : x.reports = s.reports.map (moved o)
end Go.Wx
