/- An own logic over the model, its walks and its plain laws, joined of parts R6 R7 R8 R9 Ri GK GL GM GN GO R10 R11 R12 R13 Rj R14 O5 CD GQ HD CC Rk Rl BB R15 R16 R17 O6 O7 Ob O8 O9 R18. Conditions: as each theorem states. -/
import Derived.Test.YtlfbcimcehcomaaLa3
import Derived.Test.YtlfbcimcehcomaaLa2
import Derived.Test.YtlfbcimcehcomaaLa1
set_option linter.all false
/- Walks of package rod: how far levers are lifted, what sounds. Conditions: as each theorem states. -/
namespace Go.Proofs.Ytlfbcimcehcomaa
open Go Go.HL Go.Proofs Go.Wx Go.Rd
section
variable [Lvl]
set_option maxRecDepth 100000
theorem flat_intC : ∀ l : List Int, l.flatMap intC = tV l
  | [] => rfl
  | x :: l => by rw [List.flatMap_cons, flat_intC l]; rfl
theorem mk_zero (n : Nat) : ((List.range (n * 1)).map fun i => ([.int .i64 0] : List Value)[i % 1]!) = tV (List.replicate n 0) := by
  rw [Nat.mul_one]
  induction n with
  | zero => rfl
  | succ n ih => rw [List.range_succ, List.map_append, ih, List.replicate_succ']; simp [tV, Nat.mod_one]
/-- A list that stands in a private place. -/
theorem slr_own {h : AH} {L : Pv} {i b n c : Nat} {l : List Int} {e : TypeId} (V : Valid h L) (hi : L[i]? = some (some (b, .cells (tV l).toArray e (0, 0)))) (hn : l.length = n) : SlR (wl h L) 1 intC l (.slice (some ⟨b, 0, none⟩) n c) := by
  subst hn
  refine ⟨_, c, rfl, fun _ _ => rfl, ?_⟩
  rw [flat_intC]
  exact rdP V hi
/-- What a walk of how far levers are lifted wants. -/
structure PFit (m : MachP) : Prop where
  lv : 0 ≤ m.levers ∧ m.levers ≤ 6
  pl : m.pins.length ≤ 8
  pin : ∀ p ∈ m.pins, (0 ≤ p.rod ∧ p.rod < 6) ∧ (0 ≤ p.lever ∧ p.lever < m.levers) ∧ (0 ≤ p.lag ∧ p.lag ≤ 12)
theorem pfit_of {m : MachP} (M : MOK m) : PFit m := by
  have := M.levers
  have := M.rods
  have := M.travel
  exact ⟨by omega, M.pl, fun p hp => by have := M.pin p hp; omega⟩
theorem pins_take {t l0 : List Int} {ps : List PinP} {k : Nat} (hk : k < ps.length) : (ps.take (k + 1)).foldl (pinS t) l0 = pinS t ((ps.take k).foldl (pinS t) l0) ps[k] := by
  rw [List.take_add_one, List.getElem?_eq_getElem hk, Option.toList_some, List.foldl_append]
  rfl
theorem pins_len (t l0 : List Int) (ps : List PinP) : (ps.foldl (pinS t) l0).length = l0.length := (foldl_inc (pin_inc t) ps l0).1.symm
def Bd12 (l : List Int) : Prop := ∀ j, 0 ≤ l.getD j 0 ∧ l.getD j 0 ≤ 12
theorem lifted_ok (m : MachP) (F : PFit m) (t : List Int) (ht : t.length = 6) (hb : Bd12 t) (AB AQ AL AW : Option Addr) (cB cQ cL cW : Nat) (h : AH) (R : MachR h AB AQ AL AW m) :
    FnT Try.prog 60 #[machV AB AQ AL AW cB cQ cL cW m, turnsV t] h (fun v h' => SlR h' 1 intC (liftedM m t) v) := by
  have hlv := F.lv
  have hpl := F.pl
  have hT6 : (tV t).length = 6 := by rw [List.length_map, ht]
  have hle : m.levers = ((m.levers.toNat : Nat) : Int) := by omega
  refine call_body Try.func60 rfl Try.ntmps60 rfl ?_
  refine xp_seq ?_
  refine xp_region rfl ?_
  refine op_box (v := machV AB AQ AL AW cB cQ cL cW m) (cs := [_, _, _, _, _, _, _, _, _]) rfl rfl fun b2 hb2 => ?_
  refine wp_norm [_] rfl ?_
  refine op_box (v := turnsV t) (cs := tV t) rfl rfl fun b3 hb3 => ?_
  refine wp_norm [_, _] rfl ?_
  refine op_pure (pv_assign (v := .slice _ _ _) rfl) ?_
  refine xp_seq ?_
  refine xp_region rfl ?_
  refine op_pure (pv_fieldAddr rfl rfl rfl rfl 1 rfl) ?_
  refine op_loadP 0 (v := .int .i64 _) rfl rfl rfl rfl ?_
  refine op_makeSlice (len := m.levers.toNat) (cap := m.levers.toNat) (zc := [.int .i64 0]) rfl rfl hle hle rfl rfl rfl rfl rfl (by omega) (by omega) rfl fun bl hbl => ?_
  refine wp_norm [_, _, _] rfl ?_
  refine wp_norm [_, _, some (bl, .cells (tV (List.replicate m.levers.toNat 0)).toArray 3 (0, 0))] (by rw [← mk_zero]; rfl) ?_
  refine op_pure (pv_assign (v := .slice _ _ _) rfl) ?_
  refine xp_seq ?_
  refine xp_seq ?_
  refine xp_region rfl ?_
  refine op_pure (pv_fieldAddr rfl rfl rfl rfl 6 rfl) ?_
  refine op_loadP 0 (v := .slice _ _ _) rfl rfl rfl rfl ?_
  refine op_pure (pv_len rfl rfl) ?_
  refine op_pure (pv_move (v := .int .i64 _) rfl) ?_
  refine xp_block ?_
  refine xp_loopL [7, 14, 15, 16, 17, 18, 19, 20, 21, 22, 23, 24, 25, 26, 27, 28, 29, 30, 31, 32, 33, 34, 35] 3 (α := Nat) (fun k => [(14, .int .i64 k)]) (fun k L => L.set 2 (some (bl, .cells (tV ((m.pins.take k).foldl (pinS t) (List.replicate m.levers.toNat 0))).toArray 3 (0, 0)))) (fun k h_k => k ≤ m.pins.length) (fun k => m.pins.length - k) (0) ⟨rfl, trivial⟩ (rfl) (Nat.zero_le _) ?_
  rintro k T1 h_k E_k J_k
  refine goes_norm [_, _, _] rfl ?_
  refine xp_seq ?_
  refine xp_region rfl ?_
  refine op_pure (pv_of (v := .bool _) rfl) ?_
  refine xp_seq ?_
  refine xp_cond rfl (fun hk => ?_) (fun hk => ?_)
  · skip
    have hkl : k < m.pins.length := ltI hk
    obtain ⟨g, off, hA, hc⟩ := (R.q.ext E_k).at (by omega) hkl
    obtain ⟨⟨f0, f1⟩, ⟨t0, t1⟩, g0, g1⟩ := F.pin _ (List.getElem_mem hkl)
    obtain ⟨Z, hZ⟩ : ∃ Z, Z = (m.pins.take k).foldl (pinS t) (List.replicate m.levers.toNat 0) := ⟨_, rfl⟩
    have hZl : Z.length = m.levers.toNat := by rw [hZ, pins_len, List.length_replicate]
    have hZV : (tV Z).length = m.levers.toNat := by rw [List.length_map, hZl]
    have hNext := pins_take (t := t) (l0 := List.replicate m.levers.toNat 0) hkl
    have z1 := hb m.pins[k].rod.toNat
    rw [← hZ] at hNext ⊢
    refine xp_skip ?_
    refine xp_seq ?_
    refine xp_block ?_
    refine xp_seq ?_
    refine xp_region rfl ?_
    refine op_pure (pv_indexE rfl hA rfl rfl rfl (by omega) (by omega)) ?_
    refine op_loadA rfl rfl rfl rfl (hc) ?_
    refine op_alloc (cs := [_, _, _]) rfl rfl fun b7 hb7 => ?_
    refine wp_norm [_, _, _, _] rfl ?_
    refine op_storeP 3 (v := .agg #[.int .i64 _, .int .i64 _, .int .i64 _]) (vs := [_, _, _]) (c' := [_, _, _]) rfl rfl rfl rfl rfl rfl rfl rfl rfl ?_
    refine wp_norm [_, _, _, _] rfl ?_
    refine xp_dw [] rfl rfl rfl ?_
    refine dw_pure (i := 0) rfl (by decide +kernel) (pv_move (v := .slice _ _ _) rfl) ?_
    refine dw_pure (i := 1) rfl (by decide +kernel) (pv_fieldAddr rfl rfl rfl rfl 1 rfl) ?_
    refine dw_load (i := 2) rfl (by decide +kernel) ?_
    refine op_loadP 3 (v := .int .i64 _) rfl rfl rfl rfl ?_
    refine dw_pure (i := 3) rfl (by decide +kernel) (pv_move (v := .slice _ _ _) rfl) ?_
    refine dw_pure (i := 4) rfl (by decide +kernel) (pv_fieldAddr rfl rfl rfl rfl 1 rfl) ?_
    refine dw_load (i := 5) rfl (by decide +kernel) ?_
    refine op_loadP 3 (v := .int .i64 _) rfl rfl rfl rfl ?_
    refine dw_pure (i := 6) rfl (by decide +kernel) (pv_index (m := 1) rfl rfl rfl rfl (by omega) (by omega)) ?_
    refine dw_load (i := 7) rfl (by decide +kernel) ?_
    refine op_loadP 2 (v := .int .i64 (Z.getD m.pins[k].lever.toNat 0)) rfl rfl rfl (tV_at (by omega) (by omega)) ?_
    refine dw_pure (i := 8) rfl (by decide +kernel) (pv_fieldAddr rfl rfl rfl rfl 0 rfl) ?_
    refine dw_load (i := 9) rfl (by decide +kernel) ?_
    refine op_loadP 3 (v := .int .i64 _) rfl rfl rfl rfl ?_
    refine dw_pure (i := 10) rfl (by decide +kernel) (pv_indexA (m := 1) rfl rfl rfl rfl (by omega) (by omega)) ?_
    refine dw_load (i := 11) rfl (by decide +kernel) ?_
    refine op_loadP 1 (v := .int .i64 (t.getD m.pins[k].rod.toNat 0)) rfl rfl rfl (tV_at (by omega) (by omega)) ?_
    refine dw_pure (i := 12) rfl (by decide +kernel) (pv_fieldAddr rfl rfl rfl rfl 2 rfl) ?_
    refine dw_load (i := 13) rfl (by decide +kernel) ?_
    refine op_loadP 3 (v := .int .i64 _) rfl rfl rfl rfl ?_
    refine dw_pure (i := 14) rfl (by decide +kernel) (pv_arith rfl (by omega)) ?_
    refine dw_pure (i := 15) rfl (by decide +kernel) (pv_max rfl rfl) ?_
    refine dw_pure (i := 16) rfl (by decide +kernel) (pv_index (m := 1) rfl rfl rfl rfl (by omega) (by omega)) ?_
    refine dw_last (i := 17) rfl (by decide +kernel) (by decide +kernel) ?_
    refine op_storeP 2 (m := 1) (v := .int .i64 _) (vs := [.int .i64 (max (Z.getD m.pins[k].lever.toNat 0) (t.getD m.pins[k].rod.toNat 0 - m.pins[k].lag))]) (c' := tV ((m.pins.take (k + 1)).foldl (pinS t) (List.replicate m.levers.toNat 0))) rfl rfl rfl rfl rfl rfl (Nat.ble_eq_true_of_le (by rw [hZV]; omega)) rfl (by rw [hNext]; exact wrL_rise (by omega) rfl) ?_
    refine dw_norm [_, _, _, _] rfl ?_
    refine dw_end rfl ?_
    refine xp_region rfl ?_
    refine op_pure (pv_arith rfl (by omega)) ?_
    refine op_pure (pv_move (v := .int .i64 _) rfl) ?_
    refine ⟨k + 1, ⟨rfl, trivial⟩, rfl, rfl, E_k, fun h3 E3 => hkl, by first | omega | (dsimp only; omega), ?_⟩
    repeat (first | exact off_base _ _ _ | refine off_upd (by decide) ?_ | refine off_updL rfl ?_ | refine off_mix rfl ?_)
  · skip
    have hke : k = m.pins.length := by have := geI hk; omega
    subst hke
    rw [List.take_length]
    refine xp_exit ?_
    refine xp_seq ?_
    refine xp_region rfl ?_
    refine op_pure (pv_move (v := .slice _ _ _) rfl) ?_
    refine op_pure (pv_assign (v := .slice _ _ _) rfl) ?_
    refine xp_ret ?_
    refine res_list (vs := [_]) Try.results60 ⟨resV_tmp rfl rfl, trivial⟩ fun V => ?_
    exact ⟨(Ext.trans E_k (ext_wl V)), slr_own (l := liftedM m t) V (i := 2) rfl (lifted_len m t)⟩
theorem with_ok (m : Nat) (k' : Int) (k : Nat) (ek : k' = k) (hm : m < 2 ^ 60) (hk : k < 60) (h : AH) : FnT Try.prog 62 #[.int .i64 m, .int .i64 k'] h (fun v _ => v = .int .i64 (withM m k : Nat)) := by
  have h2 : 2 ^ k < 2 ^ 60 := Nat.pow_lt_pow_right (by omega) hk
  refine call_body Try.func62 rfl Try.ntmps62 rfl ?_
  refine xp_seq ?_
  refine xp_region rfl ?_
  refine op_pure (pv_assign (v := .int .i64 _) rfl) ?_
  refine xp_seq ?_
  refine xp_region rfl ?_
  refine op_pure (pv_move (v := .int .i64 _) rfl) ?_
  refine op_pure (pv_move (v := .int .i64 _) rfl) ?_
  refine op_pure (pv_shl 1 k (.inl rfl) rfl rfl rfl ek (by omega) (by omega)) ?_
  refine op_pure (pv_val (i64_or m (1 * 2 ^ k) (by omega) (by omega)) rfl) ?_
  refine op_pure (pv_assign (v := .int .i64 _) rfl) ?_
  refine xp_ret ?_
  refine res_list (vs := [_]) Try.results62 ⟨resV_tmp rfl rfl, trivial⟩ fun V => ?_
  refine ⟨(ext_wl V), ?_⟩
  show Value.int _ _ = _
  rw [withM, Nat.one_mul]
theorem has_ok (m : Nat) (k' : Int) (k : Nat) (ek : k' = k) (hm : m < 2 ^ 60) (hk : k < 60) (h : AH) : FnT Try.prog 63 #[.int .i64 m, .int .i64 k'] h (fun v _ => v = .bool (m.testBit k)) := by
  have h3 : m / 2 ^ k < 2 ^ 60 := Nat.lt_of_le_of_lt (Nat.div_le_self _ _) hm
  refine call_body Try.func63 rfl Try.ntmps63 rfl ?_
  refine xp_seq ?_
  refine xp_region rfl ?_
  refine op_pure (pv_assign (v := .bool _) rfl) ?_
  refine xp_seq ?_
  refine xp_region rfl ?_
  refine op_pure (pv_move (v := .int .i64 _) rfl) ?_
  refine op_pure (pv_move (v := .int .i64 _) rfl) ?_
  refine op_pure (pv_shr m k (.inl rfl) rfl rfl rfl ek (by omega)) ?_
  refine op_pure (pv_val (i64_and (m / 2 ^ k) 1 (by omega) (by omega)) rfl) ?_
  refine op_pure (pv_of (v := .bool _) rfl) ?_
  refine op_pure (pv_assign (v := .bool _) rfl) ?_
  refine xp_ret ?_
  refine res_list (vs := [_]) Try.results63 ⟨resV_tmp rfl rfl, trivial⟩ fun V => ?_
  refine ⟨(ext_wl V), boolE ?_⟩
  rw [testBit_div]
  cases m.testBit k <;> simp
theorem list_ok (m : Nat) (hm : m < 2 ^ 60) (h : AH) : FnT Try.prog 32 #[.int .i64 m] h (fun v h' => SlR h' 1 intC (listN m 6) v) := by
  refine call_body Try.func32 rfl Try.ntmps32 rfl ?_
  refine xp_seq ?_
  refine xp_region rfl ?_
  refine op_pure (pv_assign (v := .slice _ _ _) rfl) ?_
  refine xp_seq ?_
  refine xp_region rfl ?_
  refine op_pure (pv_assign (v := .slice _ _ _) rfl) ?_
  refine xp_seq ?_
  refine xp_seq ?_
  refine xp_region rfl ?_
  refine op_pure (pv_move (v := .int .i64 _) rfl) ?_
  refine xp_block ?_
  refine goes_more ?_
  refine goes_norm [_] rfl ?_
  refine xp_loopB [3, 4, 5, 6, 7, 8, 9, 10, 11, 12, 13, 14, 15] 1 (α := Nat × Acc) (fun ⟨k, a⟩ => [(5, .int .i64 k), (3, .slice a.A a.n a.c)]) (fun ⟨k, a⟩ => [a.p]) (fun ⟨k, a⟩ h_k => k ≤ 6 ∧ AccR 3 1 ((listN m k).flatMap intC) a) (fun ⟨k, a⟩ => 6 - k) ((0, acc0)) ⟨rfl, rfl, trivial⟩ (rfl) (⟨by omega, accR0⟩) ?_
  rintro ⟨k, a⟩ T1 h_k E_k J_k
  refine goes_norm [_] rfl ?_
  refine xp_seq ?_
  refine xp_region rfl ?_
  refine op_pure (pv_of (v := .bool _) rfl) ?_
  refine xp_seq ?_
  refine xp_cond rfl (fun ht => ?_) (fun ht => ?_)
  · skip
    have hlt : k < 6 := ltI (n := 6) ht
    refine xp_skip ?_
    refine xp_seq ?_
    refine xp_block ?_
    refine xp_seq ?_
    refine xp_region rfl ?_
    refine op_pure (pv_move (v := .int .i64 _) rfl) ?_
    refine op_pure (pv_assign (v := .int .i64 _) rfl) ?_
    refine xp_seq ?_
    refine xp_region rfl ?_
    refine op_pure (pv_move (v := .int .i64 _) rfl) ?_
    refine op_pure (pv_move (v := .int .i64 _) rfl) ?_
    refine op_fn (caps := []) (vs := [.int .i64 _, .int .i64 _]) rfl rfl rfl (has_ok m _ k rfl hm (by omega) h_k) ?_
    rintro _ h1 E1 rfl
    refine xp_cond rfl (fun hb => ?_) (fun hb => ?_)
    · skip
      refine xp_region rfl ?_
      refine op_pure (pv_move (v := .slice _ _ _) rfl) ?_
      refine op_pure (pv_move (v := .int .i64 _) rfl) ?_
      refine op_buildSlice (zc := [_]) (vs := [(0, .int .i64 _)]) (cs := [_]) rfl rfl rfl rfl rfl rfl rfl fun b13 hb13 => ?_
      refine wp_norm [_, _] rfl ?_
      refine op_appendR 0 J_k.2 rfl rfl rfl (fun V => rdP V (i := 1) rfl) rfl rfl rfl rfl rfl rfl rfl rfl rfl (by omega) rfl (by rw [flat_len (m := 1) (fun _ _ => rfl)]; have := listN_len m k; simp; omega) fun a2 h2a E2a ha2 => ?_
      refine wp_norm [_, _] rfl ?_
      refine op_pure (pv_assign (v := .slice _ _ _) rfl) ?_
      refine xp_region rfl ?_
      refine op_pure (pv_arith rfl (by omega)) ?_
      refine op_pure (pv_move (v := .int .i64 _) rfl) ?_
      refine ⟨(k + 1, a2), ⟨rfl, rfl, trivial⟩, rfl, rfl, (Ext.trans (Ext.trans E_k E1) E2a), fun h3 E3 => ⟨hlt, by rw [listN_succ, if_pos hb, List.flatMap_append]; exact ha2⟩, by first | omega | (dsimp only; omega), ?_⟩
      repeat (first | exact off_base _ _ _ | refine off_upd (by decide) ?_ | refine off_updL rfl ?_ | refine off_mix rfl ?_)
    · skip
      refine xp_skip ?_
      refine xp_region rfl ?_
      refine op_pure (pv_arith rfl (by omega)) ?_
      refine op_pure (pv_move (v := .int .i64 _) rfl) ?_
      refine ⟨(k + 1, a), ⟨rfl, rfl, trivial⟩, rfl, rfl, (Ext.trans E_k E1), fun h3 E3 => ⟨hlt, by rw [listN_succ, if_neg (by simp [hb])]; exact J_k.2⟩, by first | omega | (dsimp only; omega), ?_⟩
      repeat (first | exact off_base _ _ _ | refine off_upd (by decide) ?_ | refine off_updL rfl ?_ | refine off_mix rfl ?_)
  · skip
    have hk : k = 6 := by have := geI (n := 6) ht; omega
    subst hk
    refine xp_exit ?_
    refine xp_seq ?_
    refine xp_region rfl ?_
    refine op_pure (pv_move (v := .slice _ _ _) rfl) ?_
    refine op_pure (pv_assign (v := .slice _ _ _) rfl) ?_
    refine xp_ret ?_
    refine res_list (vs := [_]) Try.results32 ⟨resV_tmp rfl rfl, trivial⟩ fun V => ?_
    exact ⟨(Ext.trans E_k (ext_wl V)), AccP.row (i := 0) J_k.2 (by omega) (fun _ _ => rfl) V rfl⟩
/-- The closure that tells what sounds. -/
def SndV (h : AH) (m : MachP) (y : Value) : Prop :=
  ∃ b AB AQ AL AW cB cQ cL cW, y = .func (.func 59) #[] #[.pointer (some ⟨b, 0, none⟩)] ∧ Cells h b 0 [.int .i64 m.rods, .int .i64 m.levers, .int .i64 m.regs, .int .i64 m.travel, .int .i64 m.opn, .slice AB m.buttons.length cB, .slice AQ m.pins.length cQ, .slice AL m.links.length cL, .slice AW m.weights.length cW] ∧ MachR h AB AQ AL AW m
theorem SndV.ext {h h' : AH} {m : MachP} {y : Value} (r : SndV h m y) (e : Ext h h') : SndV h' m y := by
  obtain ⟨b, AB, AQ, AL, AW, cB, cQ, cL, cW, hy, c, R⟩ := r
  exact ⟨b, AB, AQ, AL, AW, cB, cQ, cL, cW, hy, c.ext e, R.ext e⟩
theorem sounding_ok (m : MachP) (AB AQ AL AW : Option Addr) (cB cQ cL cW : Nat) (h : AH) (R : MachR h AB AQ AL AW m) :
    FnT Try.prog 31 #[machV AB AQ AL AW cB cQ cL cW m] h (fun v h' => SndV h' m v) := by
  refine call_body Try.func31 rfl Try.ntmps31 rfl ?_
  refine xp_seq ?_
  refine xp_region rfl ?_
  refine op_box (v := .agg #[.int .i64 _, .int .i64 _, .int .i64 _, .int .i64 _, .int .i64 _, .slice _ _ _, .slice _ _ _, .slice _ _ _, .slice _ _ _]) (cs := [_, _, _, _, _, _, _, _, _]) rfl rfl fun b1 hb1 => ?_
  refine wp_norm [_] rfl ?_
  refine op_pure (pv_assign (v := _) rfl) ?_
  refine xp_seq ?_
  refine xp_region rfl ?_
  refine op_pure (pv_makeFunc (vs := []) (ws := [_]) rfl rfl) ?_
  refine op_pure (pv_assign (v := _) rfl) ?_
  refine xp_ret ?_
  refine res_list (vs := [_]) Try.results31 ⟨resV_tmp rfl rfl, trivial⟩ fun V => ?_
  exact ⟨(ext_wl V), b1, AB, AQ, AL, AW, cB, cQ, cL, cW, rfl, cellsB (wl_get V (i := 0) rfl), R.ext (ext_wl V)⟩
end
end Go.Proofs.Ytlfbcimcehcomaa
/- Walks of package rod: what sounds; Lifts, Sounds. Conditions: as each theorem states. -/
namespace Go.Proofs.Ytlfbcimcehcomaa
open Go Go.HL Go.Proofs Go.Wx Go.Rd
section
variable [Lvl]
set_option maxRecDepth 100000
theorem maskOf_small (p : Nat → Bool) {k : Nat} (hk : k ≤ 6) : maskOf p k < 2 ^ 60 := by
  have := maskOf_lt p k
  have : 2 ^ k ≤ 2 ^ 6 := Nat.pow_le_pow_right (by omega) hk
  omega
theorem bd12_of {D : Int} {t : List Int} (b : Bd D t) (h : D ≤ 12) : Bd12 t := fun j => by have := b j; omega
theorem snd_ok (hph : Lvl.ph = true) (m : MachP) (a : HandP) (F : Fit m a) (PF : PFit m) (depth : Int) (hd0 : 0 ≤ depth) (hd1 : depth ≤ 12) (b : Nat) (AB AQ AL AW HA OA : Option Addr) (cB cQ cL cW cH cO : Nat) (h : AH)
    (CM : Cells h b 0 [.int .i64 m.rods, .int .i64 m.levers, .int .i64 m.regs, .int .i64 m.travel, .int .i64 m.opn, .slice AB m.buttons.length cB, .slice AQ m.pins.length cQ, .slice AL m.links.length cL, .slice AW m.weights.length cW]) (RM : MachR h AB AQ AL AW m) (RH : HandR h HA OA a) :
    FnT Try.prog 59 #[handV HA OA cH cO a, .int .i64 depth, .pointer (some ⟨b, 0, none⟩)] h (fun v _ => v = .int .i64 (soundsM m a depth : Nat)) := by
  have hlv := PF.lv
  refine call_body Try.func59 rfl Try.ntmps59 rfl ?_
  refine xp_seq ?_
  refine xp_region rfl ?_
  refine op_box (v := .agg #[.slice _ _ _, .slice _ _ _]) (cs := [_, _]) rfl rfl fun b3 hb3 => ?_
  refine wp_norm [_] rfl ?_
  refine op_pure (pv_assign (v := .int .i64 _) rfl) ?_
  refine xp_seq ?_
  refine xp_region rfl ?_
  refine op_pure (pv_assign (v := .int .i64 _) rfl) ?_
  refine xp_seq ?_
  refine xp_seq ?_
  refine xp_dw [] rfl rfl rfl ?_
  refine dw_load (i := 0) rfl (by decide +kernel) ?_
  refine op_loadA rfl rfl rfl rfl (CM.ext (Ext.refl _)) ?_
  refine dw_load (i := 1) rfl (by decide +kernel) ?_
  refine op_loadA rfl rfl rfl rfl (CM.ext (Ext.refl _)) ?_
  refine dw_load (i := 2) rfl (by decide +kernel) ?_
  refine op_loadPA 0 (vs := [.slice _ _ _, .slice _ _ _]) rfl rfl rfl rfl rfl ?_
  refine dw_pure (i := 3) rfl (by decide +kernel) (pv_move (v := .int .i64 _) rfl) ?_
  refine dw_pure (i := 7) rfl (by decide +kernel) (pv_move (v := .int .i64 _) rfl) ?_
  refine dw_eff (i := 4) rfl (by decide +kernel) ?_
  refine op_fn (caps := []) (vs := [.agg #[.int .i64 _, .int .i64 _, .int .i64 _, .int .i64 _, .int .i64 _, .slice _ _ _, .slice _ _ _, .slice _ _ _, .slice _ _ _], .agg #[.slice _ _ _, .slice _ _ _], .int .i64 _]) rfl rfl rfl (turned_ok hph F hd0 hd1 h (RH.ext (Ext.refl _)) (RM.ext (Ext.refl _)) (cB := cB) (cQ := cQ) (cL := cL) (cW := cW) (cH := cH) (cO := cO)) ?_
  rintro _ h1 E1 rfl
  refine ⟨ext_wlm E1 _, ?_⟩
  refine dw_last (i := 5) rfl (by decide +kernel) (by decide +kernel) ?_
  refine op_fn (caps := []) (vs := [machV AB AQ AL AW cB cQ cL cW m, turnsV (turnedM m a depth)]) rfl rfl rfl (lifted_ok m PF (turnedM m a depth) (turned_len m a depth) (bd12_of (turned_bd F hd0) hd1) AB AQ AL AW cB cQ cL cW h1 (RM.ext E1)) ?_
  rintro _ h2 E2 ⟨Al, cl, rfl, Rl⟩
  refine dw_pure (i := 6) rfl (by decide +kernel) (pv_len rfl rfl) ?_
  refine dw_end rfl ?_
  refine xp_block ?_
  obtain ⟨l, hl⟩ : ∃ l, l = liftedM m (turnedM m a depth) := ⟨_, rfl⟩
  have hll : l.length = m.levers.toNat := by rw [hl, lifted_len]
  rw [← hl] at Rl ⊢
  refine xp_loopB [6, 7, 8, 16, 17, 18, 19, 20, 21, 22, 23, 24, 25, 26, 27, 28] 1 (α := Nat) (fun k => [(6, .int .i64 (maskOf (fun v => decide (m.opn ≤ l.getD v 0)) k : Nat)), (16, .int .i64 k)]) (fun k => _) (fun k h_k => k ≤ l.length) (fun k => l.length - k) (0) ⟨rfl, rfl, trivial⟩ (rfl) (Nat.zero_le _) ?_
  rintro k T1 h_k E_k J_k
  refine goes_norm [_] rfl ?_
  refine xp_seq ?_
  refine xp_region rfl ?_
  refine op_pure (pv_of (v := .bool _) rfl) ?_
  refine xp_seq ?_
  refine xp_cond rfl (fun hk => ?_) (fun hk => ?_)
  · skip
    have hkl : k < l.length := ltI hk
    obtain ⟨g, off, hA, hc⟩ := (Rl.ext E_k).at (by omega) hkl
    refine xp_skip ?_
    refine xp_seq ?_
    refine xp_block ?_
    refine xp_seq ?_
    refine xp_region rfl ?_
    refine op_pure (pv_move (v := .int .i64 _) rfl) ?_
    refine op_pure (pv_indexE rfl hA rfl rfl rfl (by omega) (by omega)) ?_
    refine op_load (v := .int .i64 _) rfl rfl ((hc) 0 _ rfl) ?_
    refine op_pure (pv_assign (v := .int .i64 _) rfl) ?_
    refine op_pure (pv_assign (v := .int .i64 _) rfl) ?_
    refine xp_seq ?_
    refine xp_region rfl ?_
    refine op_pure (pv_move (v := .int .i64 _) rfl) ?_
    refine op_pure (pv_fieldAddr rfl rfl rfl rfl _ rfl) ?_
    refine op_load (v := .int .i64 m.opn) rfl rfl ((CM.ext (Ext.trans (Ext.trans E1 E2) E_k)) 4 _ rfl) ?_
    refine op_pure (pv_of (v := .bool _) rfl) ?_
    refine xp_cond rfl (fun hb => ?_) (fun hb => ?_)
    · skip
      refine xp_region rfl ?_
      refine op_pure (pv_move (v := .int .i64 _) rfl) ?_
      refine op_pure (pv_move (v := .int .i64 _) rfl) ?_
      refine op_fn (caps := []) (vs := [.int .i64 _, .int .i64 _]) rfl rfl rfl (with_ok _ k k rfl (maskOf_small _ (by omega)) (by omega) h_k) ?_
      rintro _ h3 E3 rfl
      refine op_pure (pv_assign (v := .int .i64 _) rfl) ?_
      refine xp_region rfl ?_
      refine op_pure (pv_arith rfl (by omega)) ?_
      refine op_pure (pv_move (v := .int .i64 _) rfl) ?_
      refine ⟨k + 1, ⟨(by rw [maskOf, if_pos (by rw [getD_get hkl]; simpa using hb)]; rfl), rfl, trivial⟩, rfl, rfl, (Ext.trans E_k E3), fun h3 E3 => hkl, by first | omega | (dsimp only; omega), ?_⟩
      repeat (first | exact off_base _ _ _ | refine off_upd (by decide) ?_ | refine off_updL rfl ?_ | refine off_mix rfl ?_)
    · skip
      refine xp_skip ?_
      refine xp_region rfl ?_
      refine op_pure (pv_arith rfl (by omega)) ?_
      refine op_pure (pv_move (v := .int .i64 _) rfl) ?_
      refine ⟨k + 1, ⟨(by rw [maskOf, if_neg (by rw [getD_get hkl]; simpa using hb)]; rfl), rfl, trivial⟩, rfl, rfl, E_k, fun h3 E3 => hkl, by first | omega | (dsimp only; omega), ?_⟩
      repeat (first | exact off_base _ _ _ | refine off_upd (by decide) ?_ | refine off_updL rfl ?_ | refine off_mix rfl ?_)
  · skip
    have hke : k = l.length := by have := geI hk; omega
    subst hke
    refine xp_exit ?_
    refine xp_seq ?_
    refine xp_region rfl ?_
    refine op_pure (pv_move (v := .int .i64 _) rfl) ?_
    refine op_pure (pv_assign (v := .int .i64 _) rfl) ?_
    refine xp_ret ?_
    refine res_list (vs := [_]) Try.results59 ⟨resV_tmp rfl rfl, trivial⟩ fun V => ?_
    refine ⟨(Ext.trans (Ext.trans (Ext.trans E1 E2) E_k) (ext_wl V)), intE ?_⟩
    rw [soundsM, ← hl, hll]
def soundsL (m : MachP) (a : HandP) : List Int := if checkHandM m a = 0 then listN (soundsM m a m.travel) 6 else []
theorem sounds_small {m : MachP} (M : PFit m) (a : HandP) (depth : Int) : soundsM m a depth < 2 ^ 60 := by
  have := M.lv
  exact maskOf_small _ (by omega)
theorem Sounds_ok (hph : Lvl.ph = true) (m : MachP) (a : HandP) (AB AQ AL AW HA OA : Option Addr) (cB cQ cL cW cH cO : Nat) (h : AH) (RM : MachR h AB AQ AL AW m) (RH : HandR h HA OA a) (h0 : m.weights.length < 2 ^ 40) (h1 : a.buttons.length < 2 ^ 40) (h2 : a.on.length < 2 ^ 40) :
    FnT Try.prog 9 #[machV AB AQ AL AW cB cQ cL cW m, handV HA OA cH cO a] h (fun v h' => ∃ L, v = .tuple #[L, .int .i64 (checkHandM m a)] ∧ SlR h' 1 intC (soundsL m a) L) := by
  refine call_body Try.func9 rfl Try.ntmps9 rfl ?_
  refine xp_seq ?_
  refine xp_region rfl ?_
  refine op_box (v := .agg #[.int .i64 _, .int .i64 _, .int .i64 _, .int .i64 _, .int .i64 _, .slice _ _ _, .slice _ _ _, .slice _ _ _, .slice _ _ _]) (cs := [_, _, _, _, _, _, _, _, _]) rfl rfl fun b2 hb2 => ?_
  refine wp_norm [_] rfl ?_
  refine op_box (v := .agg #[.slice _ _ _, .slice _ _ _]) (cs := [_, _]) rfl rfl fun b3 hb3 => ?_
  refine wp_norm [_, _] rfl ?_
  refine op_pure (pv_assign (v := .slice _ _ _) rfl) ?_
  refine op_pure (pv_assign (v := .int .i64 _) rfl) ?_
  refine xp_seq ?_
  refine xp_seq ?_
  refine xp_region rfl ?_
  refine op_loadPA 0 (vs := [.int .i64 _, .int .i64 _, .int .i64 _, .int .i64 _, .int .i64 _, .slice _ _ _, .slice _ _ _, .slice _ _ _, .slice _ _ _]) rfl rfl rfl rfl rfl ?_
  refine op_loadPA 1 (vs := [.slice _ _ _, .slice _ _ _]) rfl rfl rfl rfl rfl ?_
  refine op_fn (caps := []) (vs := [.agg #[.int .i64 _, .int .i64 _, .int .i64 _, .int .i64 _, .int .i64 _, .slice _ _ _, .slice _ _ _, .slice _ _ _, .slice _ _ _], .agg #[.slice _ _ _, .slice _ _ _]]) rfl rfl rfl (checkHand_ok m a AB AQ AL AW HA OA cB cQ cL cW cH cO h (RM.ext (Ext.refl _)) (RH.ext (Ext.refl _)) h0 h1 h2) ?_
  rintro _ h3 E3 rfl
  refine op_pure (pv_assign (v := .int .i64 _) rfl) ?_
  refine xp_seq ?_
  refine xp_region rfl ?_
  refine op_pure (pv_move (v := .int .i64 _) rfl) ?_
  refine op_pure (pv_of (v := .bool _) rfl) ?_
  refine xp_cond rfl (fun hc => ?_) (fun hc => ?_)
  · skip
    have hc' : checkHandM m a ≠ 0 := by simpa using hc
    refine xp_seq ?_
    refine xp_region rfl ?_
    refine op_pure (pv_move (v := .int .i64 _) rfl) ?_
    refine op_pure (pv_assign (v := .slice _ _ _) rfl) ?_
    refine op_pure (pv_assign (v := .int .i64 _) rfl) ?_
    refine xp_ret ?_
    refine res_list (vs := [_, _]) Try.results9 ⟨resV_tmp rfl rfl, resV_tmp rfl rfl, trivial⟩ fun V => ?_
    exact ⟨(Ext.trans E3 (ext_wl V)), _, rfl, by rw [soundsL, if_neg hc']; exact ⟨none, 0, rfl, fun _ _ => rfl, Rd.nil _ _⟩⟩
  · skip
    have hc' : checkHandM m a = 0 := by simpa using hc
    obtain ⟨M, H⟩ := checkHand_ok0 hc'
    have F := fit_of M H
    have tr := M.travel
    refine xp_skip ?_
    refine xp_seq ?_
    refine xp_dw [] rfl rfl rfl ?_
    refine dw_load (i := 0) rfl (by decide +kernel) ?_
    refine op_loadPA 0 (vs := [.int .i64 _, .int .i64 _, .int .i64 _, .int .i64 _, .int .i64 _, .slice _ _ _, .slice _ _ _, .slice _ _ _, .slice _ _ _]) rfl rfl rfl rfl rfl ?_
    refine dw_load (i := 2) rfl (by decide +kernel) ?_
    refine op_loadPA 1 (vs := [.slice _ _ _, .slice _ _ _]) rfl rfl rfl rfl rfl ?_
    refine dw_pure (i := 3) rfl (by decide +kernel) (pv_fieldAddr rfl rfl rfl rfl 3 rfl) ?_
    refine dw_load (i := 4) rfl (by decide +kernel) ?_
    refine op_loadP 0 (v := .int .i64 _) rfl rfl rfl rfl ?_
    refine dw_eff (i := 1) rfl (by decide +kernel) ?_
    refine op_fn (caps := []) (vs := [.agg #[.int .i64 _, .int .i64 _, .int .i64 _, .int .i64 _, .int .i64 _, .slice _ _ _, .slice _ _ _, .slice _ _ _, .slice _ _ _]]) rfl rfl rfl (sounding_ok m AB AQ AL AW cB cQ cL cW h3 (RM.ext E3)) ?_
    rintro _ h4 E4 ⟨bs, AB1, AQ1, AL1, AW1, cB1, cQ1, cL1, cW1, rfl, CM, RM1⟩
    refine ⟨ext_wlm E4 _, ?_⟩
    refine dw_last (i := 5) rfl (by decide +kernel) (by decide +kernel) ?_
    refine op_fn  (vs := _) rfl rfl rfl (snd_ok hph m a F (pfit_of M) m.travel (by omega) tr.2 bs AB1 AQ1 AL1 AW1 HA OA cB1 cQ1 cL1 cW1 cH cO h4 (CM.ext (Ext.refl _)) (RM1.ext (Ext.refl _)) (RH.ext (Ext.trans E3 E4))) ?_
    rintro _ h5 E5 rfl
    refine dw_last (i := 6) rfl (by decide +kernel) (by decide +kernel) ?_
    refine op_fn (caps := []) (vs := [.int .i64 _]) rfl rfl rfl (list_ok (soundsM m a m.travel) (sounds_small (pfit_of M) a _) h5) ?_
    rintro _ h6 E6 ⟨Al, cl, rfl, Rl⟩
    refine dw_pure (i := 7) rfl (by decide +kernel) (pv_assign (v := .slice _ _ _) rfl) ?_
    refine dw_pure (i := 8) rfl (by decide +kernel) (pv_assign (v := .int .i64 _) rfl) ?_
    refine dw_end rfl ?_
    refine xp_ret ?_
    refine res_list (vs := [_, _]) Try.results9 ⟨resV_tmp rfl rfl, resV_tmp rfl rfl, trivial⟩ fun V => ?_
    refine ⟨(Ext.trans (Ext.trans (Ext.trans (Ext.trans E3 E4) E5) E6) (ext_wl V)), .slice Al (listN (soundsM m a m.travel) 6).length cl, by rw [hc']; rfl, ?_⟩
    rw [soundsL, if_pos hc']
    exact ⟨Al, cl, rfl, Rl.ext (ext_wl V)⟩
end
end Go.Proofs.Ytlfbcimcehcomaa
/- Walks of package rod: Force, Chart. Conditions: as each theorem states. -/
namespace Go.Proofs.Ytlfbcimcehcomaa
open Go Go.HL Go.Proofs Go.Wx Go.Rd
section
variable [Lvl]
set_option maxRecDepth 100000
end
end Go.Proofs.Ytlfbcimcehcomaa
/- Walks of package rod: Chart. Conditions: as each theorem states. -/
namespace Go.Proofs.Ytlfbcimcehcomaa
open Go Go.HL Go.Proofs Go.Wx Go.Rd
section
variable [Lvl]
set_option maxRecDepth 100000
theorem row_nil (h : AH) (A : Option Addr) : Row h 1 intC A ([] : List Int) := ⟨fun _ _ => rfl, Rd.nil _ _⟩
theorem one_len {cs : List (List Value)} {c : List Value} (h : ∀ x ∈ cs, x.length = 1) (hc : c.length = 1) : ∀ x ∈ cs ++ [c], x.length = 1 := fun x hx => by
  rcases List.mem_append.1 hx with hx | hx
  · exact h x hx
  · simp at hx; subst hx; exact hc
end
end Go.Proofs.Ytlfbcimcehcomaa
/- Plain: machines with faults. Conditions: none. -/
namespace Go.Rd
open Go Go.HL Go.Wx
variable [Lvl]
inductive FaultP
  | shut (i : Nat)
  | opn (i : Nat)
  | pin (i : Nat)
  | link (i : Nat)
  deriving DecidableEq
structure BrkP where
  pins : List PinP
  links : List LinkP
  stay : Nat
  dumb : Nat
def lagP (ps : List PinP) (i : Nat) (t : Int) : List PinP := match ps[i]? with | some p => ps.set i ⟨p.rod, p.lever, t⟩ | none => ps
def lagL (ls : List LinkP) (i : Nat) (t : Int) : List LinkP := match ls[i]? with | some x => ls.set i ⟨x.frm, x.to, x.reg, t⟩ | none => ls
theorem lagP_len (ps : List PinP) (i : Nat) (t : Int) : (lagP ps i t).length = ps.length := by unfold lagP; split <;> simp
theorem lagL_len (ls : List LinkP) (i : Nat) (t : Int) : (lagL ls i t).length = ls.length := by unfold lagL; split <;> simp
def brkS (t : Int) (b : BrkP) : FaultP → BrkP
  | .shut i => ⟨b.pins, b.links, b.stay, withM b.dumb i⟩
  | .opn i => ⟨b.pins, b.links, withM b.stay i, b.dumb⟩
  | .pin i => ⟨lagP b.pins i t, b.links, b.stay, b.dumb⟩
  | .link i => ⟨b.pins, lagL b.links i t, b.stay, b.dumb⟩
def brkF (m : MachP) (l : List FaultP) : BrkP := l.foldl (brkS m.travel) ⟨m.pins, m.links, 0, 0⟩
/-- The machine with its pins and links that are gone. -/
def brkM (m : MachP) (l : List FaultP) : MachP := { m with pins := (brkF m l).pins, links := (brkF m l).links }
/-- A fault of a machine. -/
def FOK (m : MachP) : FaultP → Prop
  | .shut i => (i : Int) < m.levers
  | .opn i => (i : Int) < m.levers
  | .pin i => i < m.pins.length
  | .link i => i < m.links.length
theorem brkF_take {m : MachP} {l : List FaultP} {k : Nat} (hk : k < l.length) : brkF m (l.take (k + 1)) = brkS m.travel (brkF m (l.take k)) l[k] := by
  unfold brkF
  rw [List.take_add_one, List.getElem?_eq_getElem hk, Option.toList_some, List.foldl_append]
  rfl
theorem brkF_inv {m : MachP} {I : BrkP → Prop} (h0 : I ⟨m.pins, m.links, 0, 0⟩) : ∀ {l : List FaultP}, (∀ b f, f ∈ l → I b → I (brkS m.travel b f)) → I (brkF m l) := by
  intro l
  unfold brkF
  generalize (⟨m.pins, m.links, 0, 0⟩ : BrkP) = b at h0 ⊢
  induction l generalizing b with
  | nil => intro _; exact h0
  | cons f l ih => intro hs; exact ih _ (hs b f (List.mem_cons_self ..) h0) (fun b f hf => hs b f (List.mem_cons_of_mem _ hf))
theorem brk_pl (m : MachP) (l : List FaultP) : (brkF m l).pins.length = m.pins.length := brkF_inv (I := fun b => b.pins.length = m.pins.length) rfl fun b f _ h => by
  cases f <;> simp only [brkS, lagP_len] <;> exact h
theorem brk_ll (m : MachP) (l : List FaultP) : (brkF m l).links.length = m.links.length := brkF_inv (I := fun b => b.links.length = m.links.length) rfl fun b f _ h => by
  cases f <;> simp only [brkS, lagL_len] <;> exact h
theorem brk_bits {m : MachP} (hl : m.levers ≤ 6) {l : List FaultP} (hf : ∀ f ∈ l, FOK m f) : (brkF m l).stay < 2 ^ 6 ∧ (brkF m l).dumb < 2 ^ 6 := brkF_inv (I := fun b => b.stay < 2 ^ 6 ∧ b.dumb < 2 ^ 6) ⟨by show 0 < 2 ^ 6; decide, by show 0 < 2 ^ 6; decide⟩ fun b f hm h => by
  have hk := hf f hm
  have up : ∀ {s i : Nat}, s < 2 ^ 6 → (i : Int) < m.levers → withM s i < 2 ^ 6 := fun {s i} hs hi => Nat.or_lt_two_pow hs (Nat.pow_lt_pow_right (by omega) (by omega))
  cases f with
  | shut i => exact ⟨h.1, up h.2 hk⟩
  | opn i => exact ⟨up h.1 hk, h.2⟩
  | pin i => exact h
  | link i => exact h
theorem lagP_mem {ps : List PinP} {i : Nat} {t : Int} {q : PinP} (h : q ∈ lagP ps i t) : q ∈ ps ∨ ∃ p ∈ ps, q = ⟨p.rod, p.lever, t⟩ := by
  unfold lagP at h
  split at h
  · rename_i p hp
    rcases List.mem_or_eq_of_mem_set h with h | h
    · exact .inl h
    · exact .inr ⟨p, List.mem_of_getElem? hp, h⟩
  · exact .inl h
theorem lagL_mem {ls : List LinkP} {i : Nat} {t : Int} {q : LinkP} (h : q ∈ lagL ls i t) : q ∈ ls ∨ ∃ p ∈ ls, q = ⟨p.frm, p.to, p.reg, t⟩ := by
  unfold lagL at h
  split at h
  · rename_i p hp
    rcases List.mem_or_eq_of_mem_set h with h | h
    · exact .inl h
    · exact .inr ⟨p, List.mem_of_getElem? hp, h⟩
  · exact .inl h
/-- A machine with faults is a machine. -/
theorem brk_mok {m : MachP} (M : MOK m) (l : List FaultP) : MOK (brkM m l) := by
  have tr := M.travel
  have I := brkF_inv (m := m) (l := l) (I := fun b => (∀ p ∈ b.pins, (0 ≤ p.rod ∧ p.rod < m.rods) ∧ (0 ≤ p.lever ∧ p.lever < m.levers) ∧ (0 ≤ p.lag ∧ p.lag ≤ m.travel)) ∧ (∀ x ∈ b.links, (0 ≤ x.frm ∧ x.frm < m.rods) ∧ (0 ≤ x.to ∧ x.to < m.rods) ∧ x.frm ≠ x.to ∧ (-1 ≤ x.reg ∧ x.reg < m.regs) ∧ (1 ≤ x.lag ∧ x.lag ≤ m.travel))) ⟨M.pin, M.link⟩ (fun b f _ h => by
    cases f with
    | shut i => exact h
    | opn i => exact h
    | pin i =>
      refine ⟨fun q hq => ?_, h.2⟩
      rcases lagP_mem hq with hq | ⟨p, hp, rfl⟩
      · exact h.1 q hq
      · obtain ⟨a, b, _⟩ := h.1 p hp
        exact ⟨a, b, by show 0 ≤ m.travel; omega, Int.le_refl _⟩
    | link i =>
      refine ⟨h.1, fun q hq => ?_⟩
      rcases lagL_mem hq with hq | ⟨p, hp, rfl⟩
      · exact h.2 q hq
      · obtain ⟨a, b, c, d, _⟩ := h.2 p hp
        exact ⟨a, b, c, d, tr.1, Int.le_refl _⟩)
  exact ⟨M.rods, M.levers, M.regs, M.travel, M.opn, M.bl, M.btn, by rw [show (brkM m l).pins = (brkF m l).pins from rfl, brk_pl]; exact M.pl, I.1, by rw [show (brkM m l).links = (brkF m l).links from rfl, brk_ll]; exact M.ll, I.2, M.wl, M.wt⟩
theorem brk_hok {m : MachP} {a : HandP} (H : HOK m a) (l : List FaultP) : HOK (brkM m l) a := ⟨H.b, H.o⟩
/-- What sounds in a machine with faults. -/
def soundsB (m : MachP) (l : List FaultP) (a : HandP) : Nat := (soundsM (brkM m l) a m.travel ||| (brkF m l).stay) &&& (2 ^ 64 - 1 - (brkF m l).dumb)
theorem pin_wr {junk : List Value} {t : Int} : ∀ {l : List PinP} {k : Nat}, k < l.length → wrL (l.flatMap pinC ++ junk) (k * 3 + 2) [.int .i64 t] = (lagP l k t).flatMap pinC ++ junk
  | [], _, h => by simp at h
  | p :: l, 0, _ => by simp [wrL, lagP, pinC]
  | p :: l, k + 1, h => by
    have ih := pin_wr (junk := junk) (t := t) (l := l) (k := k) (by simpa using h)
    have hk : k < l.length := by simpa using h
    have e : lagP (p :: l) (k + 1) t = p :: lagP l k t := by
      unfold lagP
      simp [List.getElem?_eq_getElem hk]
    rw [e, List.flatMap_cons, List.flatMap_cons, List.append_assoc, List.append_assoc, ← ih]
    rw [show (k + 1) * 3 + 2 = (k * 3 + 2) + 1 + 1 + 1 by omega]
    simp [wrL, pinC]
theorem link_wr {junk : List Value} {t : Int} : ∀ {l : List LinkP} {k : Nat}, k < l.length → wrL (l.flatMap linkC ++ junk) (k * 4 + 3) [.int .i64 t] = (lagL l k t).flatMap linkC ++ junk
  | [], _, h => by simp at h
  | p :: l, 0, _ => by simp [wrL, lagL, linkC]
  | p :: l, k + 1, h => by
    have ih := link_wr (junk := junk) (t := t) (l := l) (k := k) (by simpa using h)
    have hk : k < l.length := by simpa using h
    have e : lagL (p :: l) (k + 1) t = p :: lagL l k t := by
      unfold lagL
      simp [List.getElem?_eq_getElem hk]
    rw [e, List.flatMap_cons, List.flatMap_cons, List.append_assoc, List.append_assoc, ← ih]
    rw [show (k + 1) * 4 + 3 = (k * 4 + 3) + 1 + 1 + 1 + 1 by omega]
    simp [wrL, linkC]
end Go.Rd
/- The own logic, part GK: iterators that may be stopped; blocks laid open at once; loops over functions within rounds. Conditions: none. -/
namespace Go.HL
open Go
variable [Lvl]
/-- What a body of a loop over a function owes that may stop it (F: what holds then). -/
def YieldsS {α : Type} (P : Program) (y : Value) (all : List α) (T : AH → α → Value → Prop) (I : Nat → AH → Pv → Prop) (F : AH → Pv → Prop) : Prop :=
  ∀ (k : Nat) (x : α) (v : Value) (h : AH) (M : Pv), all[k]? = some x → T h x v → I k h M → FnM P y [v] h M (fun r h' M' => (r = .bool true ∧ I (k + 1) h' M') ∨ (r = .bool false ∧ F h' M'))
/-- What such an iterator owes. -/
def IterS {α : Type} (P : Program) (f : Value) (h0 : AH) (all : List α) (T : AH → α → Value → Prop) : Prop :=
  ∀ (fn : Fn) (fs cs : Array Value) (I : Nat → AH → Pv → Prop) (F : AH → Pv → Prop), (∀ k h h' M, Ext h h' → I k h M → I k h' M) → (∀ h h' M, Ext h h' → F h M → F h' M) → YieldsS P (.func fn fs cs) all T I F →
    ∀ h M, Ext h0 h → I 0 h M → FnM P f [.func fn fs cs] h M (fun _ h' M' => I all.length h' M' ∨ F h' M')
theorem IterS.ext {α : Type} {P : Program} {f : Value} {h h' : AH} {all : List α} {T : AH → α → Value → Prop} (i : IterS P f h all T) (E : Ext h h') : IterS P f h' all T :=
  fun fn fs cs I F hI hF Y h1 M E1 => i fn fs cs I F hI hF Y h1 M (E.trans E1)
section
variable {P : Program} {n : Nat} {ops : Array Oper} {os : List Oper} {K : Sl → Pv → AH → Prop} {E : Value → Sl → Pv → AH → Prop} {S : Sl} {L : Pv} {h : AH} {d : Option Tmp} {op : Op} {ty : TypeId} {ps : String} {af : Array Edge}
end
end Go.HL
/- The own logic, part GL: a lookup in a map; counting in a map; loops over functions that may stop. Conditions: none. -/
namespace Go.HL
open Go
variable [Lvl]
section
variable {P : Program} {n : Nat} {ops : Array Oper} {os : List Oper} {K : Sl → Pv → AH → Prop} {E : Value → Sl → Pv → AH → Prop} {S : Sl} {L : Pv} {h : AH} {d : Option Tmp} {ty : TypeId} {ps : String} {af : Array Edge}
variable {α : Type} [DecidableEq α] {kt : TypeId} {enc : α → Value}
end
end Go.HL
/- The own logic, part GM: a loop over a function within a round. Conditions: none. -/
namespace Go.HL
open Go
variable [Lvl]
section
variable {P : Program} {n : Nat} {K : Post} {S : Sl} {D : Df} {L : Pv} {h : AH}
end
end Go.HL
/- The own logic, part GN: loops over functions whose object stands in a place of its own. Conditions: none. -/
namespace Go.HL
open Go
variable [Lvl]
section
variable {P : Program} {n : Nat} {K : Post} {S : Sl} {D : Df} {L : Pv} {h : AH}
end
end Go.HL
/- The own logic, part GO: parts of slices; capacities. Conditions: none. -/
namespace Go.HL
open Go
variable [Lvl]
section
variable {P : Program} {n : Nat} {d : Option Tmp} {ty : TypeId} {ps : String} {af : Array Edge} {S : Sl}
theorem pv_sliceS {x lo hi : Operand} {t e : TypeId} {m len cap : Nat} {A : Option Addr} (i j : Nat) {k k2 : IntKind} {i' j' : Int} (hx : ev n S x = .slice A len cap) (hl : ev n S lo = .int k i') (hh : ev n S hi = .int k2 j') (ei : i' = i) (ej : j' = j) (ht : pev P (underlying t) = some (.slice e)) (hs : pev P (sizeOf e) = some m) (hij : i ≤ j) (hjc : j ≤ cap) {A' : Option Addr} {l' c' : Nat} (eA : (if cap = i then A else A.map (·.add (i * m))) = A') (el : j - i = l') (ec : cap - i = c') :
    pev P (execOp (ev n S) ⟨d, .slice t x (some lo) (some hi) none, ty, ps, af, none⟩) = some (.value (.slice A' l' c')) := by
  subst ei ej eA el ec
  simp only [execOp, hx, hl, hh, Option.map]
  refine (pev_bind (a := .slice (if cap = i then A else A.map (·.add (i * m))) (j - i) (cap - i)) ?_).trans rfl
  unfold Instr.sliceAt
  refine (pev_mbind ht).trans ?_
  simp only
  unfold Instr.slice
  refine (pev_mbind ht).trans ?_
  simp only
  have hb : pev P (Instr.sliceBounds true len cap (some (.int k (i : Int))) (some (.int k2 (j : Int))) none) = some (i, j, cap) := by
    unfold Instr.sliceBounds
    refine (pev_mbind (a := cap) rfl).trans ?_
    have h1 : pev P (Instr.sliceBound (.int k2 (j : Int)) cap .sliceAcap) = some j := by
      unfold Instr.sliceBound
      refine (pev_mbind (a := (k2, (j : Int))) rfl).trans ?_
      simp only
      rw [if_pos ⟨by omega, by omega⟩]
      rfl
    have h2 : pev P (Instr.sliceBound (.int k (i : Int)) j .sliceB) = some i := by
      unfold Instr.sliceBound
      refine (pev_mbind (a := (k, (i : Int))) rfl).trans ?_
      simp only
      rw [if_pos ⟨by omega, by omega⟩]
      rfl
    refine (pev_mbind h1).trans ?_
    refine (pev_mbind h2).trans ?_
    rfl
  refine (pev_mbind hb).trans ?_
  simp only
  refine (pev_mbind hs).trans ?_
  rfl
end
/-- A slice's capacity is no less than its length. -/
def CapOK : Value → Prop
  | .slice _ n c => n ≤ c
  | _ => True
theorem AccP.cap {e : TypeId} {m : Nat} {cs : List Value} {p : Option (Nat × Obj)} {v : Value} (a : AccP e m cs p v) (hm : 0 < m) : CapOK v := by
  rcases a with ⟨_, _, A, rfl⟩ | ⟨b, len, cap, junk, h1, rfl, _, h2⟩
  · exact Nat.le_refl 0
  · show len ≤ cap
    rw [List.length_append, h1] at h2
    exact Nat.le_of_mul_le_mul_right (by omega) hm
end Go.HL
/- Walks of package rod: all faults; copies. Conditions: as each theorem states. -/
namespace Go.Proofs.Ytlfbcimcehcomaa
open Go Go.HL Go.Proofs Go.Wx Go.Rd
section
variable [Lvl]
set_option maxRecDepth 100000
def faultV : FaultP → Value
  | .shut i => .iface 148 (.int .i64 i)
  | .opn i => .iface 149 (.int .i64 i)
  | .pin i => .iface 150 (.int .i64 i)
  | .link i => .iface 151 (.int .i64 i)
def faultC (f : FaultP) : List Value := [faultV f]
theorem faultP (f : FaultP) : (faultC f).all plainB = true := by cases f <;> rfl
def fsN (c : Nat → FaultP) (k : Nat) : List FaultP := (List.range k).map c
theorem fsN_succ (c : Nat → FaultP) (k : Nat) : fsN c (k + 1) = fsN c k ++ [c k] := by simp [fsN, List.range_succ]
theorem fsN_len (c : Nat → FaultP) (k : Nat) : (fsN c k).length = k := by simp [fsN]
def fs1 (m : MachP) : List FaultP := fsN .shut m.levers.toNat
def fs2 (m : MachP) : List FaultP := fs1 m ++ fsN .opn m.levers.toNat
def fs3 (m : MachP) : List FaultP := fs2 m ++ fsN .pin m.pins.length
/-- All faults of a machine, in order. -/
def faultsM (m : MachP) : List FaultP := fs3 m ++ fsN .link m.links.length
theorem faults_len (m : MachP) : (faultsM m).length = 2 * m.levers.toNat + m.pins.length + m.links.length := by
  simp [faultsM, fs3, fs2, fs1, fsN_len]; omega
theorem fa_step {l : List FaultP} {c : Nat → FaultP} {k : Nat} {a : Acc} (h : AccR 155 1 ((l ++ fsN c k).flatMap faultC ++ [faultV (c k)]) a) : AccR 155 1 ((l ++ fsN c (k + 1)).flatMap faultC) a := by
  rw [fsN_succ, ← List.append_assoc, List.flatMap_append]
  exact h
theorem fa_len {l : List FaultP} {c : Nat → FaultP} {k : Nat} : ((l ++ fsN c k).flatMap faultC).length = l.length + k := by
  rw [flat_len (m := 1) (fun _ _ => rfl), List.length_append, fsN_len, Nat.mul_one]
theorem faults_okC (m : MachP) (h1 : 0 ≤ m.levers ∧ m.levers ≤ 2 ^ 20) (h2 : m.pins.length ≤ 2 ^ 20) (h3 : m.links.length ≤ 2 ^ 20) (AB AQ AL AW : Option Addr) (cB cQ cL cW : Nat) (h : AH) :
    FnT Try.prog 41 #[machV AB AQ AL AW cB cQ cL cW m] h (fun v h' => SlR h' 1 faultC (faultsM m) v ∧ CapOK v) := by
  have hle : m.levers = ((m.levers.toNat : Nat) : Int) := by omega
  generalize hn : m.levers.toNat = n at *
  refine call_body Try.func41 rfl Try.ntmps41 rfl ?_
  refine xp_seq ?_
  refine xp_region rfl ?_
  refine op_box (v := .agg #[.int .i64 _, .int .i64 _, .int .i64 _, .int .i64 _, .int .i64 _, .slice _ _ _, .slice _ _ _, .slice _ _ _, .slice _ _ _]) (cs := [_, _, _, _, _, _, _, _, _]) rfl rfl fun b1 hb1 => ?_
  refine wp_norm [_] rfl ?_
  refine op_pure (pv_assign (v := .slice _ _ _) rfl) ?_
  refine xp_seq ?_
  refine xp_region rfl ?_
  refine op_pure (pv_assign (v := .slice _ _ _) rfl) ?_
  refine xp_seq ?_
  refine xp_seq ?_
  refine xp_region rfl ?_
  refine op_pure (pv_fieldAddr rfl rfl rfl rfl 1 rfl) ?_
  refine op_loadP 0 (v := .int .i64 _) rfl rfl rfl rfl ?_
  refine op_pure (pv_move (v := .int .i64 _) rfl) ?_
  refine xp_block ?_
  refine goes_more ?_
  refine goes_norm [_, _] rfl ?_
  rw [hle]
  refine xp_loopL [3, 4, 10, 11, 12, 13, 14, 15, 16, 17, 18] 2 (α := Nat × Acc) (fun ⟨k, a⟩ => [(3, .slice a.A a.n a.c), (10, .int .i64 k)]) (fun ⟨k, a⟩ L => L.set 1 (a.p)) (fun ⟨k, a⟩ h_k => k ≤ n ∧ AccR 155 1 (([] ++ fsN .shut k).flatMap faultC) a) (fun ⟨k, a⟩ => n - k) ((0, acc0)) ⟨rfl, rfl, trivial⟩ (rfl) (⟨Nat.zero_le _, accR0⟩) ?_
  rintro ⟨k, a⟩ T1 h_k E_k J_k
  refine goes_norm [_, _] rfl ?_
  obtain ⟨K1, K2⟩ := J_k
  refine xp_seq ?_
  refine xp_region rfl ?_
  refine op_pure (pv_of (v := .bool _) rfl) ?_
  refine xp_seq ?_
  refine xp_cond rfl (fun hk => ?_) (fun hk => ?_)
  · skip
    have hkl : k < n := ltI hk
    refine xp_skip ?_
    refine xp_seq ?_
    refine xp_block ?_
    refine xp_seq ?_
    refine xp_region rfl ?_
    refine op_pure (pv_move (v := .int .i64 _) rfl) ?_
    refine op_pure (pv_assign (v := .int .i64 _) rfl) ?_
    refine xp_region rfl ?_
    refine op_pure (pv_move (v := .slice _ _ _) rfl) ?_
    refine op_pure (pv_move (v := .int .i64 _) rfl) ?_
    refine op_pure (pv_of (v := _) rfl) ?_
    refine op_buildSlice (zc := [_]) (vs := [(0, _)]) (cs := [_]) rfl rfl rfl rfl rfl rfl rfl fun b16 hb16 => ?_
    refine wp_norm [_, _, _] rfl ?_
    refine op_appendR 1 K2 rfl rfl rfl (fun V => rdP V (i := 2) rfl) rfl rfl rfl rfl rfl rfl rfl rfl rfl (by omega) rfl (by rw [fa_len]; simp; omega) fun a2 h2a E2a ha2 => ?_
    refine wp_norm [_, _, _] rfl ?_
    refine op_pure (pv_assign (v := .slice _ _ _) rfl) ?_
    refine xp_region rfl ?_
    refine op_pure (pv_arith rfl (by omega)) ?_
    refine op_pure (pv_move (v := .int .i64 _) rfl) ?_
    refine ⟨(k + 1, a2), ⟨rfl, rfl, trivial⟩, rfl, rfl, (Ext.trans E_k E2a), fun h3 E3 => ⟨hkl, fa_step ha2⟩, by first | omega | (dsimp only; omega), ?_⟩
    repeat (first | exact off_base _ _ _ | refine off_upd (by decide) ?_ | refine off_updL rfl ?_ | refine off_mix rfl ?_)
  · skip
    have hke : k = n := by have := geI hk; omega
    have K3 : AccR 155 1 ((fs1 m).flatMap faultC) a := by rw [fs1, hn, ← hke]; exact K2
    have n1 : (fs1 m).length = n := by rw [fs1, fsN_len, hn]
    refine xp_exit ?_
    refine xp_seq ?_
    refine xp_seq ?_
    refine xp_region rfl ?_
    refine op_pure (pv_fieldAddr rfl rfl rfl rfl 1 rfl) ?_
    refine op_loadP 0 (v := .int .i64 _) rfl rfl rfl rfl ?_
    refine op_pure (pv_move (v := .int .i64 _) rfl) ?_
    refine xp_block ?_
    refine xp_loopL [3, 5, 21, 22, 23, 24, 25, 26, 27, 28, 29] 2 (α := Nat × Acc) (fun ⟨j, a⟩ => [(3, .slice a.A a.n a.c), (21, .int .i64 j)]) (fun ⟨j, a⟩ L => L.set 1 (a.p)) (fun ⟨j, a⟩ h_j => j ≤ n ∧ AccR 155 1 ((fs1 m ++ fsN .opn j).flatMap faultC) a) (fun ⟨j, a⟩ => n - j) ((0, a)) ⟨rfl, rfl, trivial⟩ (rfl) (⟨Nat.zero_le _, by simpa [fsN] using K3⟩) ?_
    rintro ⟨j, a⟩ T3 h_j E_j J_j
    refine goes_norm [_, _] rfl ?_
    obtain ⟨K4, K5⟩ := J_j
    refine xp_seq ?_
    refine xp_region rfl ?_
    refine op_pure (pv_of (v := .bool _) rfl) ?_
    refine xp_seq ?_
    refine xp_cond rfl (fun hj => ?_) (fun hj => ?_)
    · skip
      have hjl : j < n := ltI hj
      refine xp_skip ?_
      refine xp_seq ?_
      refine xp_block ?_
      refine xp_seq ?_
      refine xp_region rfl ?_
      refine op_pure (pv_move (v := .int .i64 _) rfl) ?_
      refine op_pure (pv_assign (v := .int .i64 _) rfl) ?_
      refine xp_region rfl ?_
      refine op_pure (pv_move (v := .slice _ _ _) rfl) ?_
      refine op_pure (pv_move (v := .int .i64 _) rfl) ?_
      refine op_pure (pv_of (v := _) rfl) ?_
      refine op_buildSlice (zc := [_]) (vs := [(0, _)]) (cs := [_]) rfl rfl rfl rfl rfl rfl rfl fun b27 hb27 => ?_
      refine wp_norm [_, _, _] rfl ?_
      refine op_appendR 1 K5 rfl rfl rfl (fun V => rdP V (i := 2) rfl) rfl rfl rfl rfl rfl rfl rfl rfl rfl (by omega) rfl (by rw [fa_len]; simp; omega) fun a2 h4a E4a ha2 => ?_
      refine wp_norm [_, _, _] rfl ?_
      refine op_pure (pv_assign (v := .slice _ _ _) rfl) ?_
      refine xp_region rfl ?_
      refine op_pure (pv_arith rfl (by omega)) ?_
      refine op_pure (pv_move (v := .int .i64 _) rfl) ?_
      refine ⟨(j + 1, a2), ⟨rfl, rfl, trivial⟩, rfl, rfl, (Ext.trans E_j E4a), fun h3 E3 => ⟨hjl, fa_step ha2⟩, by first | omega | (dsimp only; omega), ?_⟩
      repeat (first | exact off_base _ _ _ | refine off_upd (by decide) ?_ | refine off_updL rfl ?_ | refine off_mix rfl ?_)
    · skip
      have hje : j = n := by have := geI hj; omega
      have K6 : AccR 155 1 ((fs2 m).flatMap faultC) a := by rw [fs2, hn, ← hje]; exact K5
      have n2 : (fs2 m).length = n + n := by rw [fs2, List.length_append, n1, fsN_len, hn]
      refine xp_exit ?_
      refine xp_seq ?_
      refine xp_seq ?_
      refine xp_region rfl ?_
      refine op_pure (pv_fieldAddr rfl rfl rfl rfl 6 rfl) ?_
      refine op_loadP 0 (v := .slice _ _ _) rfl rfl rfl rfl ?_
      refine op_pure (pv_len rfl rfl) ?_
      refine op_pure (pv_move (v := .int .i64 _) rfl) ?_
      refine xp_block ?_
      refine xp_loopL [3, 6, 33, 34, 35, 36, 37, 38, 39, 40, 41] 2 (α := Nat × Acc) (fun ⟨i, a⟩ => [(3, .slice a.A a.n a.c), (33, .int .i64 i)]) (fun ⟨i, a⟩ L => L.set 1 (a.p)) (fun ⟨i, a⟩ h_i => i ≤ m.pins.length ∧ AccR 155 1 ((fs2 m ++ fsN .pin i).flatMap faultC) a) (fun ⟨i, a⟩ => m.pins.length - i) ((0, a)) ⟨rfl, rfl, trivial⟩ (rfl) (⟨Nat.zero_le _, by simpa [fsN] using K6⟩) ?_
      rintro ⟨i, a⟩ T5 h_i E_i J_i
      refine goes_norm [_, _] rfl ?_
      obtain ⟨K7, K8⟩ := J_i
      refine xp_seq ?_
      refine xp_region rfl ?_
      refine op_pure (pv_of (v := .bool _) rfl) ?_
      refine xp_seq ?_
      refine xp_cond rfl (fun hi => ?_) (fun hi => ?_)
      · skip
        have hil : i < m.pins.length := ltI hi
        refine xp_skip ?_
        refine xp_seq ?_
        refine xp_block ?_
        refine xp_seq ?_
        refine xp_region rfl ?_
        refine op_pure (pv_move (v := .int .i64 _) rfl) ?_
        refine op_pure (pv_assign (v := .int .i64 _) rfl) ?_
        refine xp_region rfl ?_
        refine op_pure (pv_move (v := .slice _ _ _) rfl) ?_
        refine op_pure (pv_move (v := .int .i64 _) rfl) ?_
        refine op_pure (pv_of (v := _) rfl) ?_
        refine op_buildSlice (zc := [_]) (vs := [(0, _)]) (cs := [_]) rfl rfl rfl rfl rfl rfl rfl fun b39 hb39 => ?_
        refine wp_norm [_, _, _] rfl ?_
        refine op_appendR 1 K8 rfl rfl rfl (fun V => rdP V (i := 2) rfl) rfl rfl rfl rfl rfl rfl rfl rfl rfl (by omega) rfl (by rw [fa_len]; simp; omega) fun a2 h6a E6a ha2 => ?_
        refine wp_norm [_, _, _] rfl ?_
        refine op_pure (pv_assign (v := .slice _ _ _) rfl) ?_
        refine xp_region rfl ?_
        refine op_pure (pv_arith rfl (by omega)) ?_
        refine op_pure (pv_move (v := .int .i64 _) rfl) ?_
        refine ⟨(i + 1, a2), ⟨rfl, rfl, trivial⟩, rfl, rfl, (Ext.trans E_i E6a), fun h3 E3 => ⟨hil, fa_step ha2⟩, by first | omega | (dsimp only; omega), ?_⟩
        repeat (first | exact off_base _ _ _ | refine off_upd (by decide) ?_ | refine off_updL rfl ?_ | refine off_mix rfl ?_)
      · skip
        have hie : i = m.pins.length := by have := geI hi; omega
        have K9 : AccR 155 1 ((fs3 m).flatMap faultC) a := by rw [fs3, ← hie]; exact K8
        have n3 : (fs3 m).length = n + n + m.pins.length := by rw [fs3, List.length_append, n2, fsN_len]
        refine xp_exit ?_
        refine xp_seq ?_
        refine xp_seq ?_
        refine xp_region rfl ?_
        refine op_pure (pv_fieldAddr rfl rfl rfl rfl 7 rfl) ?_
        refine op_loadP 0 (v := .slice _ _ _) rfl rfl rfl rfl ?_
        refine op_pure (pv_len rfl rfl) ?_
        refine op_pure (pv_move (v := .int .i64 _) rfl) ?_
        refine xp_block ?_
        refine xp_loopL [3, 7, 45, 46, 47, 48, 49, 50, 51, 52, 53] 2 (α := Nat × Acc) (fun ⟨o, a⟩ => [(3, .slice a.A a.n a.c), (45, .int .i64 o)]) (fun ⟨o, a⟩ L => L.set 1 (a.p)) (fun ⟨o, a⟩ h_o => o ≤ m.links.length ∧ AccR 155 1 ((fs3 m ++ fsN .link o).flatMap faultC) a) (fun ⟨o, a⟩ => m.links.length - o) ((0, a)) ⟨rfl, rfl, trivial⟩ (rfl) (⟨Nat.zero_le _, by simpa [fsN] using K9⟩) ?_
        rintro ⟨o, a⟩ T7 h_o E_o J_o
        refine goes_norm [_, _] rfl ?_
        obtain ⟨K10, K11⟩ := J_o
        refine xp_seq ?_
        refine xp_region rfl ?_
        refine op_pure (pv_of (v := .bool _) rfl) ?_
        refine xp_seq ?_
        refine xp_cond rfl (fun ho => ?_) (fun ho => ?_)
        · skip
          have hol : o < m.links.length := ltI ho
          refine xp_skip ?_
          refine xp_seq ?_
          refine xp_block ?_
          refine xp_seq ?_
          refine xp_region rfl ?_
          refine op_pure (pv_move (v := .int .i64 _) rfl) ?_
          refine op_pure (pv_assign (v := .int .i64 _) rfl) ?_
          refine xp_region rfl ?_
          refine op_pure (pv_move (v := .slice _ _ _) rfl) ?_
          refine op_pure (pv_move (v := .int .i64 _) rfl) ?_
          refine op_pure (pv_of (v := _) rfl) ?_
          refine op_buildSlice (zc := [_]) (vs := [(0, _)]) (cs := [_]) rfl rfl rfl rfl rfl rfl rfl fun b51 hb51 => ?_
          refine wp_norm [_, _, _] rfl ?_
          refine op_appendR 1 K11 rfl rfl rfl (fun V => rdP V (i := 2) rfl) rfl rfl rfl rfl rfl rfl rfl rfl rfl (by omega) rfl (by rw [fa_len]; simp; omega) fun a2 h8a E8a ha2 => ?_
          refine wp_norm [_, _, _] rfl ?_
          refine op_pure (pv_assign (v := .slice _ _ _) rfl) ?_
          refine xp_region rfl ?_
          refine op_pure (pv_arith rfl (by omega)) ?_
          refine op_pure (pv_move (v := .int .i64 _) rfl) ?_
          refine ⟨(o + 1, a2), ⟨rfl, rfl, trivial⟩, rfl, rfl, (Ext.trans E_o E8a), fun h3 E3 => ⟨hol, fa_step ha2⟩, by first | omega | (dsimp only; omega), ?_⟩
          repeat (first | exact off_base _ _ _ | refine off_upd (by decide) ?_ | refine off_updL rfl ?_ | refine off_mix rfl ?_)
        · skip
          have hoe : o = m.links.length := by have := geI ho; omega
          have K12 : AccR 155 1 ((faultsM m).flatMap faultC) a := by rw [faultsM, ← hoe]; exact K11
          refine xp_exit ?_
          refine xp_seq ?_
          refine xp_region rfl ?_
          refine op_pure (pv_move (v := .slice _ _ _) rfl) ?_
          refine op_pure (pv_assign (v := .slice _ _ _) rfl) ?_
          refine xp_ret ?_
          refine res_list (vs := [_]) Try.results41 ⟨resV_tmp rfl rfl, trivial⟩ fun V => ?_
          exact ⟨(Ext.trans (Ext.trans (Ext.trans (Ext.trans E_k E_j) E_i) E_o) (ext_wl V)), AccP.row (i := 1) K12 (by omega) (fun _ _ => rfl) V rfl, AccP.cap K12 (by decide)⟩
theorem faults_ok (m : MachP) (h1 : 0 ≤ m.levers ∧ m.levers ≤ 2 ^ 20) (h2 : m.pins.length ≤ 2 ^ 20) (h3 : m.links.length ≤ 2 ^ 20) (AB AQ AL AW : Option Addr) (cB cQ cL cW : Nat) (h : AH) :
    FnT Try.prog 41 #[machV AB AQ AL AW cB cQ cL cW m] h (fun v h' => SlR h' 1 faultC (faultsM m) v) :=
  CallT.mono (faults_okC m h1 h2 h3 AB AQ AL AW cB cQ cL cW h) (fun _ _ r => ⟨r.1, r.2.1⟩) (fun _ _ y => y)
theorem accR_new {e : TypeId} {m : Nat} {b : Nat} : AccR e m [] ⟨some (b, .cells ([] : List Value).toArray e (0, 0)), some ⟨b, 0, none⟩, 0, 0⟩ := accp_new
theorem pinP (x : PinP) : (pinC x).all plainB = true := rfl
theorem linkP (x : LinkP) : (linkC x).all plainB = true := rfl
theorem clonePinO (l : List PinP) (A : Option Addr) (c : Nat) (h : AH) (R : Row h 3 pinC A l) (hl : l.length < 2 ^ 20) :
    FnM Try.prog (.func (.func 75) #[] ([] : List Value).toArray) [.slice A l.length c] h [] (fun v h' M' => ∃ a : Acc, M' = [a.p] ∧ v = .slice a.A a.n a.c ∧ AccR 79 3 (l.flatMap pinC) a) := by
  cases A with
  | none =>
    have h0 := R.none_nil (by omega)
    subst h0
    refine fnM_body rfl rfl Try.func75 rfl Try.ntmps75 rfl ?_
    refine xp_seq ?_
    refine xp_region rfl ?_
    refine op_pure (pv_assign (v := .slice _ _ _) rfl) ?_
    refine xp_seq ?_
    refine xp_seq ?_
    refine xp_region rfl ?_
    refine op_pure (pv_move (v := .slice _ _ _) rfl) ?_
    refine op_pure (pv_of (v := .bool _) rfl) ?_
    refine xp_cond rfl (fun ht => ?_) (fun ht => ?_)
    · skip
      refine xp_seq ?_
      refine xp_region rfl ?_
      refine op_pure (pv_assign (v := .slice _ _ _) rfl) ?_
      refine xp_ret ?_
      refine res_list (vs := [_]) Try.results75 ⟨resV_tmp rfl rfl, trivial⟩ fun V => ?_
      exact ⟨_, [none], rfl, V, (Ext.refl _), acc0, rfl, rfl, accR0⟩
    · cases ht
  | some a =>
    refine fnM_body rfl rfl Try.func75 rfl Try.ntmps75 rfl ?_
    refine xp_seq ?_
    refine xp_region rfl ?_
    refine op_pure (pv_assign (v := .slice _ _ _) rfl) ?_
    refine xp_seq ?_
    refine xp_seq ?_
    refine xp_region rfl ?_
    refine op_pure (pv_move (v := .slice _ _ _) rfl) ?_
    refine op_pure (pv_of (v := .bool _) rfl) ?_
    refine xp_cond rfl (fun ht => ?_) (fun ht => ?_)
    · cases ht
    · skip
      refine xp_skip ?_
      refine xp_seq ?_
      refine xp_region rfl ?_
      refine op_buildSlice (zc := [_, _, _]) (vs := []) (cs := []) rfl rfl rfl rfl rfl rfl rfl fun b5 hb5 => ?_
      refine wp_norm [_] rfl ?_
      refine op_pure (pv_move (v := .slice _ _ _) rfl) ?_
      refine op_appendR 0 accR_new rfl rfl rfl (fun V => R.2.ext (ext_wl V)) (flat_len R.1) (flat_plain pinP l) rfl rfl rfl rfl rfl rfl rfl (by omega) rfl (by rw [flat_len R.1, List.length_nil]; omega) fun a2 h1a E1a ha2 => ?_
      refine wp_norm [_] rfl ?_
      refine op_pure (pv_assign (v := .slice _ _ _) rfl) ?_
      refine xp_ret ?_
      refine res_list (vs := [_]) Try.results75 ⟨resV_tmp rfl rfl, trivial⟩ fun V => ?_
      exact ⟨_, [_], rfl, V, E1a, a2, rfl, rfl, ha2⟩
theorem cloneLinkO (l : List LinkP) (A : Option Addr) (c : Nat) (h : AH) (R : Row h 4 linkC A l) (hl : l.length < 2 ^ 20) :
    FnM Try.prog (.func (.func 76) #[] ([] : List Value).toArray) [.slice A l.length c] h [] (fun v h' M' => ∃ a : Acc, M' = [a.p] ∧ v = .slice a.A a.n a.c ∧ AccR 81 4 (l.flatMap linkC) a) := by
  cases A with
  | none =>
    have h0 := R.none_nil (by omega)
    subst h0
    refine fnM_body rfl rfl Try.func76 rfl Try.ntmps76 rfl ?_
    refine xp_seq ?_
    refine xp_region rfl ?_
    refine op_pure (pv_assign (v := .slice _ _ _) rfl) ?_
    refine xp_seq ?_
    refine xp_seq ?_
    refine xp_region rfl ?_
    refine op_pure (pv_move (v := .slice _ _ _) rfl) ?_
    refine op_pure (pv_of (v := .bool _) rfl) ?_
    refine xp_cond rfl (fun ht => ?_) (fun ht => ?_)
    · skip
      refine xp_seq ?_
      refine xp_region rfl ?_
      refine op_pure (pv_assign (v := .slice _ _ _) rfl) ?_
      refine xp_ret ?_
      refine res_list (vs := [_]) Try.results76 ⟨resV_tmp rfl rfl, trivial⟩ fun V => ?_
      exact ⟨_, [none], rfl, V, (Ext.refl _), acc0, rfl, rfl, accR0⟩
    · cases ht
  | some a =>
    refine fnM_body rfl rfl Try.func76 rfl Try.ntmps76 rfl ?_
    refine xp_seq ?_
    refine xp_region rfl ?_
    refine op_pure (pv_assign (v := .slice _ _ _) rfl) ?_
    refine xp_seq ?_
    refine xp_seq ?_
    refine xp_region rfl ?_
    refine op_pure (pv_move (v := .slice _ _ _) rfl) ?_
    refine op_pure (pv_of (v := .bool _) rfl) ?_
    refine xp_cond rfl (fun ht => ?_) (fun ht => ?_)
    · cases ht
    · skip
      refine xp_skip ?_
      refine xp_seq ?_
      refine xp_region rfl ?_
      refine op_buildSlice (zc := [_, _, _, _]) (vs := []) (cs := []) rfl rfl rfl rfl rfl rfl rfl fun b5 hb5 => ?_
      refine wp_norm [_] rfl ?_
      refine op_pure (pv_move (v := .slice _ _ _) rfl) ?_
      refine op_appendR 0 accR_new rfl rfl rfl (fun V => R.2.ext (ext_wl V)) (flat_len R.1) (flat_plain linkP l) rfl rfl rfl rfl rfl rfl rfl (by omega) rfl (by rw [flat_len R.1, List.length_nil]; omega) fun a2 h1a E1a ha2 => ?_
      refine wp_norm [_] rfl ?_
      refine op_pure (pv_assign (v := .slice _ _ _) rfl) ?_
      refine xp_ret ?_
      refine res_list (vs := [_]) Try.results76 ⟨resV_tmp rfl rfl, trivial⟩ fun V => ?_
      exact ⟨_, [_], rfl, V, E1a, a2, rfl, rfl, ha2⟩
end
end Go.Proofs.Ytlfbcimcehcomaa
/- Walks of package rod: a machine with faults. Conditions: as each theorem states. -/
namespace Go.Proofs.Ytlfbcimcehcomaa
open Go Go.HL Go.Proofs Go.Wx Go.Rd
section
variable [Lvl]
set_option maxRecDepth 100000
/-- What the closure of a machine with faults reads. -/
def BrkP (h : AH) (m : MachP) (l : List FaultP) (b1 b2 b3 b4 : Nat) : Prop :=
  ∃ ys, cellA h ⟨b1, 0, none⟩ = some ys ∧ SndV h (brkM m l) ys ∧ cellA h ⟨b2, 3, none⟩ = some (.int .i64 m.travel) ∧ cellA h ⟨b3, 0, none⟩ = some (.int .i64 ((brkF m l).stay : Nat)) ∧ cellA h ⟨b4, 0, none⟩ = some (.int .i64 ((brkF m l).dumb : Nat))
theorem BrkP.ext {h h' : AH} {m : MachP} {l : List FaultP} {b1 b2 b3 b4 : Nat} (r : BrkP h m l b1 b2 b3 b4) (e : Ext h h') : BrkP h' m l b1 b2 b3 b4 := by
  obtain ⟨ys, c1, s, c2, c3, c4⟩ := r
  exact ⟨ys, e.cell c1, s.ext e, e.cell c2, e.cell c3, e.cell c4⟩
/-- The closure of a machine with faults. -/
abbrev brkY (b1 b2 b3 b4 : Nat) : Value := .func (.func 77) #[] #[.pointer (some ⟨b1, 0, none⟩), .pointer (some ⟨b2, 0, none⟩), .pointer (some ⟨b3, 0, none⟩), .pointer (some ⟨b4, 0, none⟩)]
def BrkV (h : AH) (m : MachP) (l : List FaultP) (y : Value) : Prop := ∃ b1 b2 b3 b4, y = brkY b1 b2 b3 b4 ∧ BrkP h m l b1 b2 b3 b4
theorem BrkV.ext {h h' : AH} {m : MachP} {l : List FaultP} {y : Value} (r : BrkV h m l y) (e : Ext h h') : BrkV h' m l y := by
  obtain ⟨b1, b2, b3, b4, hy, p⟩ := r
  exact ⟨b1, b2, b3, b4, hy, p.ext e⟩
theorem AccR.parts {e : TypeId} {m : Nat} {cs : List Value} {a : Acc} (r : AccR e m cs a) (hc : cs ≠ []) : ∃ b len cap junk, a = ⟨some (b, .cells (cs ++ junk).toArray e (0, 0)), some ⟨b, 0, none⟩, len, cap⟩ ∧ cs.length = len * m ∧ ∀ cs' : List Value, cs'.length = cs.length → AccR e m cs' ⟨some (b, .cells (cs' ++ junk).toArray e (0, 0)), some ⟨b, 0, none⟩, len, cap⟩ := by
  obtain ⟨p, A, n, c⟩ := a
  rcases r with ⟨_, h, _⟩ | ⟨b, len, cap, junk, hl, ev, hpp, hx⟩
  · exact absurd h hc
  · injection ev with e1 e2 e3
    dsimp only at e1 e2 e3 hpp
    subst e1 e2 e3 hpp
    exact ⟨b, n, c, junk, rfl, hl, fun cs' h' => .inr ⟨b, n, c, junk, by rw [h', hl], rfl, rfl, by rw [List.length_append, h', ← List.length_append]; exact hx⟩⟩
theorem cell_own {h : AH} {L : Pv} {i b off : Nat} {c : Array Value} {e : TypeId} {f : Nat × Nat} {v : Value} (V : Valid h L) (hi : L[i]? = some (some (b, .cells c e f))) (hv : c[off]? = some v) : cellA (wl h L) ⟨b, off, none⟩ = some v := by
  simp [cellA, wl_get V hi, hv]
set_option maxHeartbeats 8000000 in
theorem broken_ok (m : MachP) (M : MOK m) (l : List FaultP) (hf : ∀ f ∈ l, FOK m f) (hl : l.length < 2 ^ 20) (AB AQ AL AW AF : Option Addr) (cB cQ cL cW cF : Nat) (h : AH) (R : MachR h AB AQ AL AW m) (RF : Row h 1 faultC AF l) :
    FnT Try.prog 43 #[machV AB AQ AL AW cB cQ cL cW m, .slice AF l.length cF] h (fun v h' => BrkV h' m l v) := by
  have hpl := M.pl
  have hll := M.ll
  have hlv := M.levers
  refine call_body Try.func43 rfl Try.ntmps43 rfl ?_
  refine xp_seq ?_
  refine xp_region rfl ?_
  refine op_box (v := .agg #[.int .i64 _, .int .i64 _, .int .i64 _, .int .i64 _, .int .i64 _, .slice _ _ _, .slice _ _ _, .slice _ _ _, .slice _ _ _]) (cs := [_, _, _, _, _, _, _, _, _]) rfl rfl fun b2 hb2 => ?_
  refine wp_norm [_] rfl ?_
  refine op_pure (pv_assign (v := _) rfl) ?_
  refine xp_seq ?_
  refine xp_dw [] rfl rfl rfl ?_
  refine dw_pure (i := 0) rfl (by decide +kernel) (pv_fieldAddr rfl rfl rfl rfl 6 rfl) ?_
  refine dw_load (i := 1) rfl (by decide +kernel) ?_
  refine op_loadP 0 (v := .slice _ _ _) rfl rfl rfl rfl ?_
  refine dw_pure (i := 3) rfl (by decide +kernel) (pv_fieldAddr rfl rfl rfl rfl 7 rfl) ?_
  refine dw_load (i := 4) rfl (by decide +kernel) ?_
  refine op_loadP 0 (v := .slice _ _ _) rfl rfl rfl rfl ?_
  refine dw_eff (i := 2) rfl (by decide +kernel) ?_
  refine op_fnV rfl rfl (clonePinO m.pins AQ cQ h (R.q.ext (Ext.refl _)) (by omega)) ?_
  rintro _ h1 _ Vmn E1 ⟨a1, rfl, rfl, r1⟩
  refine ⟨ext_out Vmn E1, ?_⟩
  refine dw_norm [_, _] rfl ?_
  refine dw_last (i := 5) rfl (by decide +kernel) (by decide +kernel) ?_
  refine op_fnMM [_, _] [] [] rfl rfl rfl (cloneLinkO m.links AL cL h1 (R.l.ext E1) (by omega)) ?_
  rintro _ h2 _ E2 ⟨a2, rfl, rfl, r2⟩
  refine dw_norm [_, _, _] rfl ?_
  refine dw_pure (i := 6) rfl (by decide +kernel) (pv_assign (v := .slice _ _ _) rfl) ?_
  refine dw_pure (i := 7) rfl (by decide +kernel) (pv_assign (v := .slice _ _ _) rfl) ?_
  refine dw_end rfl ?_
  refine xp_seq ?_
  refine xp_region rfl ?_
  refine op_alloc (cs := [_]) rfl rfl fun b7 hb7 => ?_
  refine wp_norm [_, _, _, _] rfl ?_
  refine op_alloc (cs := [_]) rfl rfl fun b8 hb8 => ?_
  refine wp_norm [_, _, _, _, _] rfl ?_
  refine xp_seq ?_
  refine xp_seq ?_
  refine xp_region rfl ?_
  refine op_pure (pv_move (v := .slice _ _ _) rfl) ?_
  refine op_pure (pv_len rfl rfl) ?_
  refine op_pure (pv_move (v := .int .i64 _) rfl) ?_
  refine xp_block ?_
  refine xp_loopL [10, 11, 12, 13, 14, 24, 25, 26, 27, 28, 29, 30, 31, 32, 33, 34, 35, 36, 37, 38, 39, 40, 41, 42, 43, 44, 45, 46, 47, 48, 49, 50, 51, 52, 53, 54, 55, 56, 57, 58, 59] 5 (α := Nat × Option (Nat × Obj) × Option (Nat × Obj)) (fun ⟨k, pp, lp⟩ => [(24, .int .i64 k)]) (fun ⟨k, pp, lp⟩ L => (((L.set 1 (pp)).set 2 (lp)).set 3 (some (b7, .cells #[.int .i64 ((brkF m (l.take k)).stay : Nat)] 88 (0, 0)))).set 4 (some (b8, .cells #[.int .i64 ((brkF m (l.take k)).dumb : Nat)] 88 (0, 0)))) (fun ⟨k, pp, lp⟩ h_k => k ≤ l.length ∧ AccR 79 3 ((brkF m (l.take k)).pins.flatMap pinC) ⟨pp, a1.A, a1.n, a1.c⟩ ∧ AccR 81 4 ((brkF m (l.take k)).links.flatMap linkC) ⟨lp, a2.A, a2.n, a2.c⟩) (fun ⟨k, pp, lp⟩ => l.length - k) ((0, a1.p, a2.p)) ⟨rfl, trivial⟩ (rfl) (⟨Nat.zero_le _, r1, r2⟩) ?_
  rintro ⟨k, pp, lp⟩ T1 h_k E_k J_k
  refine goes_norm [_, _, _, _, _] rfl ?_
  obtain ⟨K1, K2, K3⟩ := J_k
  refine xp_seq ?_
  refine xp_region rfl ?_
  refine op_pure (pv_of (v := .bool _) rfl) ?_
  refine xp_seq ?_
  refine xp_cond rfl (fun hk => ?_) (fun hk => ?_)
  · skip
    have hkl : k < l.length := ltI hk
    obtain ⟨g, off, hA, hc⟩ := (RF.ext (Ext.trans (Ext.trans E1 E2) E_k)).at (by omega) hkl
    have hfk := hf _ (List.getElem_mem hkl)
    have hN := brkF_take (m := m) hkl
    have hbt := brk_bits hlv.2 (l := l.take k) (fun f hm => hf f (take_mem hm))
    have hpk := brk_pl m (l.take k)
    have hlk := brk_ll m (l.take k)
    generalize brkF m (l.take k) = bk at *
    obtain ⟨bp, bl, bs, bd⟩ := bk
    dsimp only at hbt hpk hlk K2 K3
    obtain ⟨fk, hfe⟩ : ∃ fk, fk = l[k] := ⟨_, rfl⟩
    rw [← hfe] at hc hfk hN
    dsimp only
    rcases fk with i | i | i | i
    · skip
      have hi6 : (i : Int) < m.levers := hfk
      refine xp_skip ?_
      refine xp_seq ?_
      refine xp_block ?_
      refine xp_seq ?_
      refine xp_region rfl ?_
      refine op_pure (pv_indexE rfl hA rfl rfl rfl (by omega) (by omega)) ?_
      refine op_load (v := _) rfl rfl ((hc) 0 _ rfl) ?_
      refine op_pure (pv_assign (v := _) rfl) ?_
      refine xp_seq ?_
      refine xp_region rfl ?_
      refine op_pure (pv_move (v := _) rfl) ?_
      refine xp_block ?_
      refine xp_seq ?_
      refine xp_region rfl ?_
      refine op_pure (pv_of (v := .tuple #[.int .i64 i, .bool true]) rfl) ?_
      refine op_pure (pv_of (v := .bool _) rfl) ?_
      refine op_pure (pv_of (v := .int .i64 _) rfl) ?_
      refine xp_condT rfl (rfl) ?_
      refine xp_seq ?_
      refine xp_region rfl ?_
      refine op_pure (pv_assign (v := .int .i64 _) rfl) ?_
      refine xp_region rfl ?_
      refine op_loadP 4 (v := .int .i64 _) rfl rfl rfl rfl ?_
      refine op_pure (pv_move (v := .int .i64 _) rfl) ?_
      refine op_fn (caps := []) (vs := [.int .i64 _, .int .i64 _]) rfl rfl rfl (with_ok bd i i rfl (by omega) (by omega) h_k) ?_
      rintro _ h3 E3 rfl
      refine op_storeP 4 (v := .int .i64 _) (vs := [_]) (c' := [_]) rfl rfl rfl rfl rfl rfl rfl rfl rfl ?_
      refine wp_norm [_, _, _, _, _] rfl ?_
      refine xp_region rfl ?_
      refine op_pure (pv_arith rfl (by omega)) ?_
      refine op_pure (pv_move (v := .int .i64 _) rfl) ?_
      refine ⟨(k + 1, pp, lp), ⟨rfl, trivial⟩, rfl, by rw [hN]; rfl, (Ext.trans E_k E3), fun h3 E3 => ⟨hkl, by rw [hN]; exact K2, by rw [hN]; exact K3⟩, by first | omega | (dsimp only; omega), ?_⟩
      repeat (first | exact off_base _ _ _ | refine off_upd (by decide) ?_ | refine off_updL rfl ?_ | refine off_mix rfl ?_)
    · skip
      have hi6 : (i : Int) < m.levers := hfk
      refine xp_skip ?_
      refine xp_seq ?_
      refine xp_block ?_
      refine xp_seq ?_
      refine xp_region rfl ?_
      refine op_pure (pv_indexE rfl hA rfl rfl rfl (by omega) (by omega)) ?_
      refine op_load (v := _) rfl rfl ((hc) 0 _ rfl) ?_
      refine op_pure (pv_assign (v := _) rfl) ?_
      refine xp_seq ?_
      refine xp_region rfl ?_
      refine op_pure (pv_move (v := _) rfl) ?_
      refine xp_block ?_
      refine xp_seq ?_
      refine xp_region rfl ?_
      refine op_pure (pv_of (v := .tuple #[.int .i64 0, .bool false]) rfl) ?_
      refine op_pure (pv_of (v := .bool _) rfl) ?_
      refine op_pure (pv_of (v := .int .i64 _) rfl) ?_
      refine xp_condF rfl (rfl) ?_
      refine xp_seq ?_
      refine xp_region rfl ?_
      refine op_pure (pv_of (v := .tuple #[.int .i64 i, .bool true]) rfl) ?_
      refine op_pure (pv_of (v := .bool _) rfl) ?_
      refine op_pure (pv_of (v := .int .i64 _) rfl) ?_
      refine xp_condT rfl (rfl) ?_
      refine xp_seq ?_
      refine xp_region rfl ?_
      refine op_pure (pv_assign (v := .int .i64 _) rfl) ?_
      refine xp_region rfl ?_
      refine op_loadP 3 (v := .int .i64 _) rfl rfl rfl rfl ?_
      refine op_pure (pv_move (v := .int .i64 _) rfl) ?_
      refine op_fn (caps := []) (vs := [.int .i64 _, .int .i64 _]) rfl rfl rfl (with_ok bs i i rfl (by omega) (by omega) h_k) ?_
      rintro _ h3 E3 rfl
      refine op_storeP 3 (v := .int .i64 _) (vs := [_]) (c' := [_]) rfl rfl rfl rfl rfl rfl rfl rfl rfl ?_
      refine wp_norm [_, _, _, _, _] rfl ?_
      refine xp_region rfl ?_
      refine op_pure (pv_arith rfl (by omega)) ?_
      refine op_pure (pv_move (v := .int .i64 _) rfl) ?_
      refine ⟨(k + 1, pp, lp), ⟨rfl, trivial⟩, rfl, by rw [hN]; rfl, (Ext.trans E_k E3), fun h3 E3 => ⟨hkl, by rw [hN]; exact K2, by rw [hN]; exact K3⟩, by first | omega | (dsimp only; omega), ?_⟩
      repeat (first | exact off_base _ _ _ | refine off_upd (by decide) ?_ | refine off_updL rfl ?_ | refine off_mix rfl ?_)
    · skip
      have hi6 : i < m.pins.length := hfk
      have hib : i < bp.length := by omega
      have hfl : (bp.flatMap pinC).length = bp.length * 3 := flat_len (fun _ _ => rfl)
      obtain ⟨gb, len, cap, junk, ha, hlen, put⟩ := AccR.parts K2 (by intro e; rw [e] at hfl; simp at hfl; omega)
      injection ha with q1 q2 q3 q4
      subst q1
      rw [← q2, ← q3, ← q4] at put
      refine xp_skip ?_
      refine xp_seq ?_
      refine xp_block ?_
      refine xp_seq ?_
      refine xp_region rfl ?_
      refine op_pure (pv_indexE rfl hA rfl rfl rfl (by omega) (by omega)) ?_
      refine op_load (v := _) rfl rfl ((hc) 0 _ rfl) ?_
      refine op_pure (pv_assign (v := _) rfl) ?_
      refine xp_seq ?_
      refine xp_region rfl ?_
      refine op_pure (pv_move (v := _) rfl) ?_
      refine xp_block ?_
      refine xp_seq ?_
      refine xp_region rfl ?_
      refine op_pure (pv_of (v := .tuple #[.int .i64 0, .bool false]) rfl) ?_
      refine op_pure (pv_of (v := .bool _) rfl) ?_
      refine op_pure (pv_of (v := .int .i64 _) rfl) ?_
      refine xp_condF rfl (rfl) ?_
      refine xp_seq ?_
      refine xp_region rfl ?_
      refine op_pure (pv_of (v := .tuple #[.int .i64 0, .bool false]) rfl) ?_
      refine op_pure (pv_of (v := .bool _) rfl) ?_
      refine op_pure (pv_of (v := .int .i64 _) rfl) ?_
      refine xp_condF rfl (rfl) ?_
      refine xp_seq ?_
      refine xp_region rfl ?_
      refine op_pure (pv_of (v := .tuple #[.int .i64 i, .bool true]) rfl) ?_
      refine op_pure (pv_of (v := .bool _) rfl) ?_
      refine op_pure (pv_of (v := .int .i64 _) rfl) ?_
      refine xp_condT rfl (rfl) ?_
      refine xp_seq ?_
      refine xp_region rfl ?_
      refine op_pure (pv_assign (v := .int .i64 _) rfl) ?_
      refine xp_region rfl ?_
      refine op_pure (pv_move (v := .slice _ _ _) rfl) ?_
      refine op_pure (pv_move (v := .int .i64 _) rfl) ?_
      refine op_pure (pv_fieldAddr rfl rfl rfl rfl 3 rfl) ?_
      refine op_loadP 0 (v := .int .i64 _) rfl rfl rfl rfl ?_
      refine op_pure (pv_indexE (m := 3) rfl q2 rfl rfl rfl (by omega) (by omega)) ?_
      refine op_pure (pv_fieldAddr rfl rfl rfl rfl _ rfl) ?_
      refine op_storeP 1 (m := 1) (off := 0 + (i : Int).toNat * 3 + 2) (v := .int .i64 m.travel) (vs := [.int .i64 m.travel]) (c' := (lagP bp i m.travel).flatMap pinC ++ junk) rfl rfl rfl rfl rfl rfl (Nat.ble_eq_true_of_le (by rw [List.length_append, hfl]; omega)) rfl (by rw [show 0 + (i : Int).toNat * 3 + 2 = i * 3 + 2 by omega, pin_wr hib]) ?_
      refine wp_norm [_, _, _, _, _] rfl ?_
      refine xp_region rfl ?_
      refine op_pure (pv_arith rfl (by omega)) ?_
      refine op_pure (pv_move (v := .int .i64 _) rfl) ?_
      refine ⟨(k + 1, some (gb, .cells ((lagP bp i m.travel).flatMap pinC ++ junk).toArray 79 (0, 0)), lp), ⟨rfl, trivial⟩, rfl, by rw [hN]; rfl, E_k, fun h3 E3 => ⟨hkl, by rw [hN]; exact put _ (by rw [hfl, flat_len (m := 3) (fun _ _ => rfl)]; exact congrArg (· * 3) (lagP_len _ _ _)), by rw [hN]; exact K3⟩, by first | omega | (dsimp only; omega), ?_⟩
      repeat (first | exact off_base _ _ _ | refine off_upd (by decide) ?_ | refine off_updL rfl ?_ | refine off_mix rfl ?_)
    · skip
      have hi6 : i < m.links.length := hfk
      have hib : i < bl.length := by omega
      have hfl : (bl.flatMap linkC).length = bl.length * 4 := flat_len (fun _ _ => rfl)
      obtain ⟨gb, len, cap, junk, ha, hlen, put⟩ := AccR.parts K3 (by intro e; rw [e] at hfl; simp at hfl; omega)
      injection ha with q1 q2 q3 q4
      subst q1
      rw [← q2, ← q3, ← q4] at put
      refine xp_skip ?_
      refine xp_seq ?_
      refine xp_block ?_
      refine xp_seq ?_
      refine xp_region rfl ?_
      refine op_pure (pv_indexE rfl hA rfl rfl rfl (by omega) (by omega)) ?_
      refine op_load (v := _) rfl rfl ((hc) 0 _ rfl) ?_
      refine op_pure (pv_assign (v := _) rfl) ?_
      refine xp_seq ?_
      refine xp_region rfl ?_
      refine op_pure (pv_move (v := _) rfl) ?_
      refine xp_block ?_
      refine xp_seq ?_
      refine xp_region rfl ?_
      refine op_pure (pv_of (v := .tuple #[.int .i64 0, .bool false]) rfl) ?_
      refine op_pure (pv_of (v := .bool _) rfl) ?_
      refine op_pure (pv_of (v := .int .i64 _) rfl) ?_
      refine xp_condF rfl (rfl) ?_
      refine xp_seq ?_
      refine xp_region rfl ?_
      refine op_pure (pv_of (v := .tuple #[.int .i64 0, .bool false]) rfl) ?_
      refine op_pure (pv_of (v := .bool _) rfl) ?_
      refine op_pure (pv_of (v := .int .i64 _) rfl) ?_
      refine xp_condF rfl (rfl) ?_
      refine xp_seq ?_
      refine xp_region rfl ?_
      refine op_pure (pv_of (v := .tuple #[.int .i64 0, .bool false]) rfl) ?_
      refine op_pure (pv_of (v := .bool _) rfl) ?_
      refine op_pure (pv_of (v := .int .i64 _) rfl) ?_
      refine xp_condF rfl (rfl) ?_
      refine xp_seq ?_
      refine xp_region rfl ?_
      refine op_pure (pv_of (v := .tuple #[.int .i64 i, .bool true]) rfl) ?_
      refine op_pure (pv_of (v := .bool _) rfl) ?_
      refine op_pure (pv_of (v := .int .i64 _) rfl) ?_
      refine xp_condT rfl (rfl) ?_
      refine xp_seq ?_
      refine xp_region rfl ?_
      refine op_pure (pv_assign (v := .int .i64 _) rfl) ?_
      refine xp_region rfl ?_
      refine op_pure (pv_move (v := .slice _ _ _) rfl) ?_
      refine op_pure (pv_move (v := .int .i64 _) rfl) ?_
      refine op_pure (pv_fieldAddr rfl rfl rfl rfl 3 rfl) ?_
      refine op_loadP 0 (v := .int .i64 _) rfl rfl rfl rfl ?_
      refine op_pure (pv_indexE (m := 4) rfl q2 rfl rfl rfl (by omega) (by omega)) ?_
      refine op_pure (pv_fieldAddr rfl rfl rfl rfl _ rfl) ?_
      refine op_storeP 2 (m := 1) (off := 0 + (i : Int).toNat * 4 + 3) (v := .int .i64 m.travel) (vs := [.int .i64 m.travel]) (c' := (lagL bl i m.travel).flatMap linkC ++ junk) rfl rfl rfl rfl rfl rfl (Nat.ble_eq_true_of_le (by rw [List.length_append, hfl]; omega)) rfl (by rw [show 0 + (i : Int).toNat * 4 + 3 = i * 4 + 3 by omega, link_wr hib]) ?_
      refine wp_norm [_, _, _, _, _] rfl ?_
      refine xp_region rfl ?_
      refine op_pure (pv_arith rfl (by omega)) ?_
      refine op_pure (pv_move (v := .int .i64 _) rfl) ?_
      refine ⟨(k + 1, pp, some (gb, .cells ((lagL bl i m.travel).flatMap linkC ++ junk).toArray 81 (0, 0))), ⟨rfl, trivial⟩, rfl, by rw [hN]; rfl, E_k, fun h3 E3 => ⟨hkl, by rw [hN]; exact K2, by rw [hN]; exact put _ (by rw [hfl, flat_len (m := 4) (fun _ _ => rfl)]; exact congrArg (· * 4) (lagL_len _ _ _))⟩, by first | omega | (dsimp only; omega), ?_⟩
      repeat (first | exact off_base _ _ _ | refine off_upd (by decide) ?_ | refine off_updL rfl ?_ | refine off_mix rfl ?_)
  · skip
    have hke : k = l.length := by have := geI hk; omega
    subst hke
    rw [List.take_length] at K2 K3 ⊢
    obtain ⟨pp0, pA, pn, pcap⟩ := a1
    obtain ⟨lp0, lA, ln, lcap⟩ := a2
    dsimp only at K2 K3
    obtain rfl : pn = (brkF m l).pins.length := by have := AccR.len K2; rw [flat_len (m := 3) (fun _ _ => rfl)] at this; dsimp only at this; omega
    obtain rfl : ln = (brkF m l).links.length := by have := AccR.len K3; rw [flat_len (m := 4) (fun _ _ => rfl)] at this; dsimp only at this; omega
    dsimp only
    refine goes_pubO 1 rfl ?_
    intro h3 E3 P3
    refine goes_norm [_, _, _, _, _] rfl ?_
    refine goes_pubO 2 rfl ?_
    intro h4 E4 P4
    refine goes_norm [_, _, _, _, _] rfl ?_
    refine xp_exit ?_
    refine xp_seq ?_
    refine xp_region rfl ?_
    refine op_pure (pv_move (v := .slice _ _ _) rfl) ?_
    refine op_pure (pv_move (v := .slice _ _ _) rfl) ?_
    refine op_pure (pv_fieldAddr rfl rfl rfl rfl 6 rfl) ?_
    refine op_storeP 0 (v := .slice _ _ _) (vs := [_]) (c' := [_, _, _, _, _, _, _, _, _]) rfl rfl rfl rfl rfl rfl rfl rfl rfl ?_
    refine wp_norm [_, _, _, _, _] rfl ?_
    refine op_pure (pv_fieldAddr rfl rfl rfl rfl 7 rfl) ?_
    refine op_storeP 0 (v := .slice _ _ _) (vs := [_]) (c' := [_, _, _, _, _, _, _, _, _]) rfl rfl rfl rfl rfl rfl rfl rfl rfl ?_
    refine wp_norm [_, _, _, _, _] rfl ?_
    refine xp_seq ?_
    refine xp_region rfl ?_
    refine op_loadPA 0 (vs := [.int .i64 _, .int .i64 _, .int .i64 _, .int .i64 _, .int .i64 _, .slice _ _ _, .slice _ _ _, .slice _ _ _, .slice _ _ _]) rfl rfl rfl rfl rfl ?_
    refine op_fn (caps := []) (vs := [.agg #[.int .i64 _, .int .i64 _, .int .i64 _, .int .i64 _, .int .i64 _, .slice _ _ _, .slice _ _ _, .slice _ _ _, .slice _ _ _]]) rfl rfl rfl (sounding_ok (brkM m l) AB pA lA AW cB pcap lcap cW h4 ⟨R.b.ext (Ext.trans (Ext.trans (Ext.trans (Ext.trans E1 E2) E_k) E3) E4), ⟨fun _ _ => rfl, (AccR.rd K2 P3).ext E4⟩, ⟨fun _ _ => rfl, (AccR.rd K3 P4).ext (Ext.refl _)⟩, R.w.ext (Ext.trans (Ext.trans (Ext.trans (Ext.trans E1 E2) E_k) E3) E4)⟩) ?_
    rintro _ h5 E5 S5
    obtain ⟨bs, AB1, AQ1, AL1, AW1, cB1, cQ1, cL1, cW1, rfl, CM, RM1⟩ := id S5
    refine op_alloc (cs := [_]) rfl rfl fun b15 hb15 => ?_
    refine wp_norm [_, _, _, _, _, _] rfl ?_
    refine op_storeP 5 (v := _) (vs := [_]) (c' := [_]) rfl rfl rfl rfl rfl rfl rfl rfl rfl ?_
    refine wp_norm [_, _, _, _, _, _] rfl ?_
    refine xp_seq ?_
    refine xp_region rfl ?_
    refine op_pure (pv_makeFunc (vs := []) (ws := [_, _, _, _]) rfl rfl) ?_
    refine op_pure (pv_assign (v := _) rfl) ?_
    refine xp_ret ?_
    refine res_list (vs := [_]) Try.results43 ⟨resV_tmp rfl rfl, trivial⟩ fun V => ?_
    exact ⟨(Ext.trans (Ext.trans (Ext.trans (Ext.trans (Ext.trans (Ext.trans E1 E2) E_k) E3) E4) E5) (ext_wl V)), b15, b2, b7, b8, rfl, _, cell_own V (i := 5) rfl rfl, S5.ext (ext_wl V), cell_own V (i := 0) rfl rfl, cell_own V (i := 3) rfl rfl, cell_own V (i := 4) rfl rfl⟩
end
end Go.Proofs.Ytlfbcimcehcomaa
/- Walks of package rod: what explains what was heard. Conditions: as each theorem states. -/
namespace Go.Proofs.Ytlfbcimcehcomaa
open Go Go.HL Go.Proofs Go.Wx Go.Rd
section
variable [Lvl]
set_option maxRecDepth 100000
theorem brk_ok (hph : Lvl.ph = true) (m : MachP) (M : MOK m) (l : List FaultP) (hf : ∀ f ∈ l, FOK m f) (a : HandP) (H : HOK m a) (b1 b2 b3 b4 : Nat) (HA OA : Option Addr) (cH cO : Nat) (h : AH) (B : BrkP h m l b1 b2 b3 b4) (RH : HandR h HA OA a) :
    FnT Try.prog 77 #[handV HA OA cH cO a, .pointer (some ⟨b1, 0, none⟩), .pointer (some ⟨b2, 0, none⟩), .pointer (some ⟨b3, 0, none⟩), .pointer (some ⟨b4, 0, none⟩)] h (fun v _ => v = .int .i64 (soundsB m l a : Nat)) := by
  obtain ⟨ys, c1, ⟨bs, AB, AQ, AL, AW, cB, cQ, cL, cW, rfl, CM, RM⟩, c2, c3, c4⟩ := B
  have M2 := brk_mok M l
  have H2 := brk_hok H l
  have PF := pfit_of M2
  have tr := M.travel
  have hbt := brk_bits M.levers.2 hf
  have hss := sounds_small PF a m.travel
  have h62 : soundsM (brkM m l) a m.travel ||| (brkF m l).stay < 2 ^ 60 := Nat.or_lt_two_pow hss (by omega)
  refine call_body Try.func77 rfl Try.ntmps77 rfl ?_
  refine xp_seq ?_
  refine xp_region rfl ?_
  refine op_box (v := .agg #[.slice _ _ _, .slice _ _ _]) (cs := [_, _]) rfl rfl fun b5 hb5 => ?_
  refine wp_norm [_] rfl ?_
  refine op_pure (pv_assign (v := .int .i64 _) rfl) ?_
  refine xp_seq ?_
  refine xp_dw [] rfl rfl rfl ?_
  refine dw_load (i := 0) rfl (by decide +kernel) ?_
  refine op_load (v := .func _ _ _) rfl rfl ((Ext.refl _).cell c1) ?_
  refine dw_load (i := 1) rfl (by decide +kernel) ?_
  refine op_loadPA 0 (vs := [.slice _ _ _, .slice _ _ _]) rfl rfl rfl rfl rfl ?_
  refine dw_pure (i := 2) rfl (by decide +kernel) (pv_fieldAddr rfl rfl rfl rfl _ rfl) ?_
  refine dw_load (i := 3) rfl (by decide +kernel) ?_
  refine op_load (v := .int .i64 m.travel) rfl rfl ((Ext.refl _).cell c2) ?_
  refine dw_load (i := 5) rfl (by decide +kernel) ?_
  refine op_load (v := .int .i64 ((brkF m l).stay : Nat)) rfl rfl ((Ext.refl _).cell c3) ?_
  refine dw_load (i := 7) rfl (by decide +kernel) ?_
  refine op_load (v := .int .i64 ((brkF m l).dumb : Nat)) rfl rfl ((Ext.refl _).cell c4) ?_
  refine dw_eff (i := 4) rfl (by decide +kernel) ?_
  refine op_fn  (vs := _) rfl rfl rfl (snd_ok hph (brkM m l) a (fit_of M2 H2) PF m.travel (by omega) tr.2 bs AB AQ AL AW HA OA cB cQ cL cW cH cO h (CM.ext (Ext.refl _)) (RM.ext (Ext.refl _)) (RH.ext (Ext.refl _))) ?_
  rintro _ h5 E5 rfl
  refine ⟨ext_wlm E5 _, ?_⟩
  refine dw_pure (i := 6) rfl (by decide +kernel) (pv_val (i64_or (soundsM (brkM m l) a m.travel) (brkF m l).stay (by omega) (by omega)) rfl) ?_
  refine dw_pure (i := 8) rfl (by decide +kernel) (pv_val (i64_andNot (soundsM (brkM m l) a m.travel ||| (brkF m l).stay) (brkF m l).dumb (by omega) (by omega)) rfl) ?_
  refine dw_pure (i := 9) rfl (by decide +kernel) (pv_assign (v := .int .i64 _) rfl) ?_
  refine dw_end rfl ?_
  refine xp_ret ?_
  refine res_list (vs := [_]) Try.results77 ⟨resV_tmp rfl rfl, trivial⟩ fun V => ?_
  exact ⟨(Ext.trans E5 (ext_wl V)), rfl⟩
/-- What was heard of a machine, in order. -/
structure HeardOK (m : MachP) (x : HeardP) : Prop where
  h : HOK m x.hand
  s : SetOK x.sounds m.levers
end
end Go.Proofs.Ytlfbcimcehcomaa
/- Walks of package rod: suspects. Conditions: as each theorem states. -/
namespace Go.Proofs.Ytlfbcimcehcomaa
open Go Go.HL Go.Proofs Go.Wx Go.Rd
section
variable [Lvl]
set_option maxRecDepth 100000
theorem fsN_mem {c : Nat → FaultP} {k : Nat} {f : FaultP} (h : f ∈ fsN c k) : ∃ i, i < k ∧ f = c i := by
  unfold fsN at h
  obtain ⟨i, hi, e⟩ := List.mem_map.1 h
  exact ⟨i, List.mem_range.1 hi, e.symm⟩
/-- All faults of a machine are faults of it. -/
theorem faults_fok {m : MachP} (M : MOK m) {f : FaultP} (h : f ∈ faultsM m) : FOK m f := by
  have := M.levers
  unfold faultsM fs3 fs2 fs1 at h
  simp only [List.mem_append] at h
  rcases h with ((h | h) | h) | h <;> obtain ⟨i, hi, rfl⟩ := fsN_mem h
  · show (i : Int) < m.levers; omega
  · show (i : Int) < m.levers; omega
  · exact hi
  · exact hi
theorem fill_fault (f : FaultP) : fillL (fun i => some (i * 1, 1)) ((List.range (1 * 1)).map fun i => ([Value.nilIface] : List Value)[i % ([Value.nilIface] : List Value).length]!) [(0, faultV f)] = some [faultV f] := by cases f <;> rfl
end
end Go.Proofs.Ytlfbcimcehcomaa
/- Plain: all sets of numbers. Conditions: none. -/
namespace Go.Rd
open Go Go.HL Go.Wx
def choP {α : Type} (f : Nat → List α) (a d : Nat) : List α := (List.range' a d).flatMap f
/-- All sets of so many numbers more, from a on and below n, behind l. -/
def choM (n : Nat) : Nat → Nat → List Int → List (List Int)
  | 0, _, l => [l]
  | m + 1, a, l => choP (fun i => choM n m (i + 1) (l ++ [(i : Int)])) a (n - a)
/-- All sets of numbers below n: smaller ones first. -/
def setsM (n : Nat) : List (List Int) := choP (fun m => choM n m 0 []) 0 (n + 1)
end Go.Rd
/- Walks of package rod: all sets of numbers, handed out. Conditions: as each theorem states. -/
namespace Go.Proofs.Ytlfbcimcehcomaa
open Go Go.HL Go.Proofs Go.Wx Go.Rd
section
variable [Lvl]
set_option maxRecDepth 100000
theorem intP2 (x : Int) : (intC x).all plainB = true := rfl
theorem cloneIntF (l : List Int) (A : Option Addr) (c : Nat) (h : AH) (R : Row h 1 intC A l) (hl : l.length < 2 ^ 20) :
    FnM Try.prog (.func (.func 73) #[] ([] : List Value).toArray) [.slice A l.length c] h [] (fun v h' M' => ∃ p, M' = [p] ∧ ∃ a : Acc, p = a.p ∧ v = .slice a.A a.n a.c ∧ AccR 3 1 (l.flatMap intC) a) := by
  cases A with
  | none =>
    have h0 := R.none_nil (by omega)
    subst h0
    refine fnM_body rfl rfl Try.func73 rfl Try.ntmps73 rfl ?_
    refine xp_seq ?_
    refine xp_region rfl ?_
    refine op_pure (pv_assign (v := .slice _ _ _) rfl) ?_
    refine xp_seq ?_
    refine xp_seq ?_
    refine xp_region rfl ?_
    refine op_pure (pv_move (v := .slice _ _ _) rfl) ?_
    refine op_pure (pv_of (v := .bool _) rfl) ?_
    refine xp_cond rfl (fun ht => ?_) (fun ht => ?_)
    · skip
      refine xp_seq ?_
      refine xp_region rfl ?_
      refine op_pure (pv_assign (v := .slice _ _ _) rfl) ?_
      refine xp_ret ?_
      refine res_list (vs := [_]) Try.results73 ⟨resV_tmp rfl rfl, trivial⟩ fun V => ?_
      exact ⟨_, [none], rfl, V, (Ext.refl _), none, rfl, acc0, rfl, rfl, accR0⟩
    · cases ht
  | some a =>
    refine fnM_body rfl rfl Try.func73 rfl Try.ntmps73 rfl ?_
    refine xp_seq ?_
    refine xp_region rfl ?_
    refine op_pure (pv_assign (v := .slice _ _ _) rfl) ?_
    refine xp_seq ?_
    refine xp_seq ?_
    refine xp_region rfl ?_
    refine op_pure (pv_move (v := .slice _ _ _) rfl) ?_
    refine op_pure (pv_of (v := .bool _) rfl) ?_
    refine xp_cond rfl (fun ht => ?_) (fun ht => ?_)
    · cases ht
    · skip
      refine xp_skip ?_
      refine xp_seq ?_
      refine xp_region rfl ?_
      refine op_buildSlice (zc := [_]) (vs := []) (cs := []) rfl rfl rfl rfl rfl rfl rfl fun b5 hb5 => ?_
      refine wp_norm [_] rfl ?_
      refine op_pure (pv_move (v := .slice _ _ _) rfl) ?_
      refine op_appendR 0 accR_new rfl rfl rfl (fun V => R.2.ext (ext_wl V)) (flat_len R.1) (flat_plain intP2 l) rfl rfl rfl rfl rfl rfl rfl (by omega) rfl (by rw [flat_len R.1, List.length_nil]; omega) fun a2 h1a E1a ha2 => ?_
      refine wp_norm [_] rfl ?_
      refine op_pure (pv_assign (v := .slice _ _ _) rfl) ?_
      refine xp_ret ?_
      refine res_list (vs := [_]) Try.results73 ⟨resV_tmp rfl rfl, trivial⟩ fun V => ?_
      exact ⟨_, [_], rfl, V, E1a, _, rfl, a2, rfl, rfl, ha2⟩
theorem fnM_args {P : Program} {y : Value} {vs vs' : List Value} {h : AH} {M : Pv} {R : Value → AH → Pv → Prop} (e : vs = vs') (c : FnM P y vs h M R) : FnM P y vs' h M R := e ▸ c
end
end Go.Proofs.Ytlfbcimcehcomaa
/- Walks of package voice: all that a sound can be, handed out. Conditions: as each theorem states. -/
namespace Go.Vo
open Go Go.HL Go.Wx Go.Rd
variable [Lvl]
def toneN (s : SndP) : Nat := (s.tone.mx + 1 - s.tone.mn).toNat
def slopeN (s : SndP) : Nat := (s.slope.mx + 1 - s.slope.mn).toNat
abbrev Exa := Int × Int
/-- All that a sound can be. -/
def exM (s : SndP) : List Exa := (List.range (toneN s)).flatMap fun d : Nat => (List.range (slopeN s)).map fun e : Nat => (s.tone.mn + (d : Int), s.slope.mn + (e : Int))
def exV (x : Exa) : Value := .agg #[.int .i64 x.1, .int .i64 x.2]
theorem flatR_len {α : Type} (R : Nat) (f : Nat → Nat → α) : ∀ T : Nat, ((List.range T).flatMap fun d => (List.range R).map (f d)).length = T * R
  | 0 => by simp
  | T + 1 => by rw [List.range_succ, List.flatMap_append, List.length_append, flatR_len R f T, Nat.succ_mul]; simp
theorem flatR_at {α : Type} (R : Nat) (f : Nat → Nat → α) {d e : Nat} (he : e < R) : ∀ T : Nat, d < T → ((List.range T).flatMap fun d => (List.range R).map (f d))[d * R + e]? = some (f d e)
  | 0, h => absurd h (Nat.not_lt_zero _)
  | T + 1, h => by
    rw [List.range_succ, List.flatMap_append]
    by_cases hd : d < T
    · have h2 : d * R + e < T * R := by
        have : (d + 1) * R ≤ T * R := Nat.mul_le_mul_right _ hd
        rw [Nat.succ_mul] at this
        omega
      rw [List.getElem?_append_left (by rw [flatR_len]; exact h2)]
      exact flatR_at R f he T hd
    · have hdT : d = T := by omega
      subst hdT
      rw [List.getElem?_append_right (by rw [flatR_len]; omega), flatR_len, Nat.add_sub_cancel_left]
      simp [he]
theorem exM_len (s : SndP) : (exM s).length = toneN s * slopeN s := flatR_len _ _ _
theorem exM_at (s : SndP) {d e : Nat} (hd : d < toneN s) (he : e < slopeN s) : (exM s)[d * slopeN s + e]? = some (s.tone.mn + (d : Int), s.slope.mn + (e : Int)) := flatR_at _ (fun d e => (s.tone.mn + (d : Int), s.slope.mn + (e : Int))) he _ hd
theorem exM_bd {s : SndP} (S : SndB s) {x : Exa} (h : x ∈ exM s) : (-30 ≤ x.1 ∧ x.1 ≤ 30) ∧ (-3 ≤ x.2 ∧ x.2 ≤ 3) := by
  obtain ⟨t0, t1, t2, s0, s1, s2⟩ := S
  unfold exM toneN slopeN at h
  obtain ⟨d, h1, h2⟩ := List.mem_flatMap.1 h
  obtain ⟨e, h3, rfl⟩ := List.mem_map.1 h2
  have := List.mem_range.1 h1
  have := List.mem_range.1 h3
  dsimp only
  omega
def TX (_ : AH) (x : Exa) (v : Value) : Prop := v = exV x
end Go.Vo
namespace Go.Proofs.Ytlfbcimcehcomaa
open Go Go.HL Go.Proofs Go.Wx Go.Rd Go.Vo
section
variable [Lvl]
set_option maxRecDepth 100000
set_option maxHeartbeats 4000000 in
theorem all1_ok (s : SndP) (S : SndB s) (b1 : Nat) (h0 : AH) (CM : Cells h0 b1 0 [.int .i64 s.tone.mn, .int .i64 s.tone.mx, .int .i64 s.slope.mn, .int .i64 s.slope.mx]) :
    IterS Try.prog (.func (.func 97) #[] #[.pointer (some ⟨b1, 0, none⟩)]) h0 (exM s) TX := by
  obtain ⟨t0, t1, t2, s0, s1, s2⟩ := S
  intro fn fs cs I F hI hF Y h M E0 hi
  have hT : (toneN s : Int) = s.tone.mx + 1 - s.tone.mn := by unfold toneN; omega
  have hR : (slopeN s : Int) = s.slope.mx + 1 - s.slope.mn := by unfold slopeN; omega
  refine fnM_body (caps := [.pointer (some ⟨b1, 0, none⟩)]) rfl rfl Try.func97 rfl Try.ntmps97 rfl ?_
  refine goes_front ?_
  refine xp_seq ?_
  refine xp_region rfl ?_
  refine op_pure (pv_fieldAddr rfl rfl rfl rfl _ rfl) ?_
  refine op_pure (pv_fieldAddr rfl rfl rfl rfl _ rfl) ?_
  refine op_load (v := .int .i64 s.tone.mn) rfl rfl ((CM.ext E0) 0 _ rfl) ?_
  refine op_pure (pv_assign (v := .int .i64 _) rfl) ?_
  refine xp_block ?_
  refine xp_loopN [3, 4, 8, 9, 10, 11, 12, 13, 14, 15, 16, 17, 18, 19, 20, 21, 22, 23, 24, 25, 26, 27, 28, 29, 30] (α := Nat × Pv) (fun ⟨d, M'⟩ => [(3, .int .i64 (s.tone.mn + (d : Int)))]) (fun ⟨d, M'⟩ => none :: M') (fun ⟨d, M'⟩ h_d => d ≤ toneN s ∧ I (d * slopeN s) h_d M') (fun ⟨d, M'⟩ => toneN s - d) ((0, M)) ⟨congrArg (Value.int .i64) (by simp), trivial⟩ (rfl) (⟨Nat.zero_le _, by rw [Nat.zero_mul]; exact hi⟩) ?_
  rintro ⟨d, M'⟩ T1 h_d E_d J_d
  refine goes_norm (_ :: _) rfl ?_
  obtain ⟨K1, K2⟩ := J_d
  refine xp_seq ?_
  refine xp_seq ?_
  refine xp_region rfl ?_
  refine op_pure (pv_move (v := .int .i64 _) rfl) ?_
  refine op_pure (pv_fieldAddr rfl rfl rfl rfl _ rfl) ?_
  refine op_pure (pv_fieldAddr rfl rfl rfl rfl _ rfl) ?_
  refine op_load (v := .int .i64 s.tone.mx) rfl rfl ((CM.ext (E0.trans E_d)) 1 _ rfl) ?_
  refine op_pure (pv_of (v := .bool _) rfl) ?_
  refine xp_cond rfl (fun hd => ?_) (fun hd => ?_)
  · skip
    have hdl : d < toneN s := by have := of_decide_eq_true hd; omega
    refine xp_skip ?_
    refine xp_seq ?_
    refine xp_block ?_
    refine xp_seq ?_
    refine xp_region rfl ?_
    refine op_pure (pv_fieldAddr rfl rfl rfl rfl _ rfl) ?_
    refine op_pure (pv_fieldAddr rfl rfl rfl rfl _ rfl) ?_
    refine op_load (v := .int .i64 s.slope.mn) rfl rfl ((CM.ext (E0.trans E_d)) 2 _ rfl) ?_
    refine op_pure (pv_assign (v := .int .i64 _) rfl) ?_
    refine xp_block ?_
    refine xp_loopN [4, 18, 19, 20, 21, 22, 23, 24, 25, 26, 27, 28, 29, 30] (α := Nat × Pv) (fun ⟨e, M'⟩ => [(4, .int .i64 (s.slope.mn + (e : Int)))]) (fun ⟨e, M'⟩ => none :: M') (fun ⟨e, M'⟩ h_e => e ≤ slopeN s ∧ I (d * slopeN s + e) h_e M') (fun ⟨e, M'⟩ => slopeN s - e) ((0, M')) ⟨congrArg (Value.int .i64) (by simp), trivial⟩ (rfl) (⟨Nat.zero_le _, by rw [Nat.add_zero]; exact K2⟩) ?_
    rintro ⟨e, M'⟩ T2 h_e E_e J_e
    refine goes_norm (_ :: _) rfl ?_
    obtain ⟨L1, L2⟩ := J_e
    refine xp_seq ?_
    refine xp_seq ?_
    refine xp_region rfl ?_
    refine op_pure (pv_move (v := .int .i64 _) rfl) ?_
    refine op_pure (pv_fieldAddr rfl rfl rfl rfl _ rfl) ?_
    refine op_pure (pv_fieldAddr rfl rfl rfl rfl _ rfl) ?_
    refine op_load (v := .int .i64 s.slope.mx) rfl rfl ((CM.ext (E0.trans (Ext.trans E_d E_e))) 3 _ rfl) ?_
    refine op_pure (pv_of (v := .bool _) rfl) ?_
    refine xp_cond rfl (fun he => ?_) (fun he => ?_)
    · skip
      have hel : e < slopeN s := by have := of_decide_eq_true he; omega
      refine xp_skip ?_
      refine xp_seq ?_
      refine xp_block ?_
      refine xp_seq ?_
      refine xp_region rfl ?_
      refine op_pure (pv_move (v := _) rfl) ?_
      refine op_pure (pv_move (v := .int .i64 _) rfl) ?_
      refine op_pure (pv_move (v := .int .i64 _) rfl) ?_
      refine op_pure (pv_buildA (zc := [_, _]) (vs := [(0, .int .i64 _), (1, .int .i64 _)]) (cs := [_, _]) rfl rfl rfl rfl rfl rfl) ?_
      refine op_fnM [_] _ (vs := _) rfl rfl rfl (Y (d * slopeN s + e) (s.tone.mn + (d : Int), s.slope.mn + (e : Int)) _ h_e M' (exM_at s hdl hel) rfl L2) ?_
      rintro r h8 M8 E8 hr
      rcases hr with ⟨rfl, i2⟩ | ⟨rfl, f2⟩
      · skip
        refine op_pure (pv_of (v := .bool _) rfl) ?_
        refine xp_condF rfl (rfl) ?_
        refine xp_skip ?_
        refine xp_region rfl ?_
        refine op_pure (pv_move (v := .int .i64 _) rfl) ?_
        refine op_pure (pv_arith rfl (by omega)) ?_
        refine op_pure (pv_assign (v := .int .i64 _) rfl) ?_
        refine ⟨(e + 1, M8), ⟨congrArg (Value.int .i64) (by push_cast; omega), trivial⟩, rfl, rfl, (Ext.trans E_e E8), ⟨hel, i2⟩, by first | omega | (dsimp only; omega), ?_⟩
        repeat (first | exact off_base _ _ _ | refine off_upd (by decide) ?_ | refine off_updL rfl ?_ | refine off_mix rfl ?_)
      · skip
        refine op_pure (pv_of (v := .bool _) rfl) ?_
        refine xp_condT rfl (rfl) ?_
        refine xp_ret ?_
        refine res_list (vs := []) Try.results97 trivial fun V => ?_
        obtain ⟨h9, E9, e9, V9⟩ := wl_shed [_] _ V
        exact ⟨h9, _, e9, V9, Ext.trans (Ext.trans (Ext.trans E_d E_e) E8) E9, .inr (hF _ _ _ E9 f2)⟩
    · skip
      have hee : e = slopeN s := by have := of_decide_eq_false he; omega
      subst hee
      refine xp_exit ?_
      refine xp_region rfl ?_
      refine op_pure (pv_move (v := .int .i64 _) rfl) ?_
      refine op_pure (pv_arith rfl (by omega)) ?_
      refine op_pure (pv_assign (v := .int .i64 _) rfl) ?_
      refine ⟨(d + 1, M'), ⟨congrArg (Value.int .i64) (by push_cast; omega), trivial⟩, rfl, rfl, (Ext.trans E_d E_e), ⟨hdl, by rw [Nat.succ_mul]; exact L2⟩, by first | omega | (dsimp only; omega), ?_⟩
      repeat (first | exact off_base _ _ _ | refine off_upd (by decide) ?_ | refine off_updL rfl ?_ | refine off_mix rfl ?_)
  · skip
    have hde : d = toneN s := by have := of_decide_eq_false hd; omega
    subst hde
    refine xp_exit ?_
    refine res_list (vs := []) Try.results97 trivial fun V => ?_
    obtain ⟨h9, E9, e9, V9⟩ := wl_shed [_] _ V
    exact ⟨h9, _, e9, V9, Ext.trans E_d E9, .inl (by rw [exM_len]; exact hI _ _ _ _ E9 K2)⟩
theorem all_ok (s : SndP) (S : SndB s) (h : AH) : FnT Try.prog 66 #[sndV s] h (fun v h' => IterS Try.prog v h' (exM s) TX) := by
  unfold sndV
  refine call_body Try.func66 rfl Try.ntmps66 rfl ?_
  refine xp_seq ?_
  refine xp_region rfl ?_
  refine op_box (v := .agg #[.int .i64 _, .int .i64 _, .int .i64 _, .int .i64 _]) (cs := [_, _, _, _]) rfl rfl fun b1 hb1 => ?_
  refine wp_norm [_] rfl ?_
  refine op_pure (pv_assign (v := _) rfl) ?_
  refine xp_seq ?_
  refine xp_region rfl ?_
  refine op_pure (pv_makeFunc (vs := []) (ws := [_]) rfl rfl) ?_
  refine op_pure (pv_assign (v := _) rfl) ?_
  refine xp_ret ?_
  refine res_list (vs := [_]) Try.results66 ⟨resV_tmp rfl rfl, trivial⟩ fun V => ?_
  exact ⟨(ext_wl V), all1_ok s S b1 _ (cellsB (cs := [.int .i64 s.tone.mn, .int .i64 s.tone.mx, .int .i64 s.slope.mn, .int .i64 s.slope.mx]) (wl_get V (i := 0) rfl))⟩
end
end Go.Proofs.Ytlfbcimcehcomaa
/- The own logic, part CD: remainders of ints. Conditions: none. -/
namespace Go.HL
open Go
variable [Lvl]
end Go.HL
/- The own logic, part GQ: quotients and remainders of ints. Conditions: none. -/
namespace Go.HL
open Go
variable [Lvl]
section
variable {P : Program} {n : Nat} {d : Option Tmp} {ty : TypeId} {ps : String} {af : Array Edge} {S : Sl} {t u : TypeId} {x y : Operand}
theorem pv_remT {a b : Int} (hx : ev n S x = .int .i64 a) (hy : ev n S y = .int .i64 b) (hb : b ≠ 0) :
    pev P (execOp (ev n S) ⟨d, .binOp .rem t x y u, ty, ps, af, none⟩) = some (.value (.int .i64 (a.tmod b))) := by
  simp only [execOp, hx, hy, binOp, Op.intDiv, if_neg hb]
  rfl
theorem pv_quoT {a b c : Int} (hx : ev n S x = .int .i64 a) (hy : ev n S y = .int .i64 b) (hb : b ≠ 0) (hc : a.tdiv b = c) (h : -2 ^ 63 ≤ c ∧ c < 2 ^ 63) :
    pev P (execOp (ev n S) ⟨d, .binOp .quo t x y u, ty, ps, af, none⟩) = some (.value (.int .i64 c)) := by
  subst hc
  have e : IntKind.wrap .i64 (a.tdiv b) = a.tdiv b := IntWalk.i64_in _ ⟨by omega, by omega⟩
  simp only [execOp, hx, hy, binOp, Op.intDiv, if_neg hb, e]
  rfl
end
end Go.HL
/- The own logic, part HD: words of bits as pure facts; a key looked up in a map. Conditions: none. -/
namespace Go.HL
open Go
variable [Lvl]
section
variable {P : Program} {n : Nat} {d : Option Tmp} {ty : TypeId} {ps : String} {af : Array Edge} {S : Sl} {t u : TypeId} {x y : Operand}
end
section
variable {P : Program} {n : Nat} {ops : Array Oper} {os : List Oper} {K : Sl → Pv → AH → Prop} {E : Value → Sl → Pv → AH → Prop} {S : Sl} {L : Pv} {h : AH} {d : Option Tmp} {ty : TypeId} {ps : String} {af : Array Edge} {α : Type} [DecidableEq α] {kt : TypeId} {enc : α → Value}
end
end Go.HL
/- The own logic, part CC: guarded operations that turn memory, amid drawn regions. Conditions: none. -/
namespace Go.HL
open Go
variable [Lvl]
variable {P : Program} {n : Nat} {ops : Array Oper} {i : Nat} {d : Option Tmp} {op : Op} {ty : TypeId} {ps : String} {af : Array Edge} {S : Sl} {L : Pv} {h : AH} {mask : List Bool} {X : Sl → AH → Prop} {dn ac : List Nat}
theorem dw_effG {j : Nat} {want t : Bool} (hoi : ops[i]? = some ⟨d, op, ty, ps, af, some (j, want)⟩) (hok : okE ops dn i = true)
    (ht : ev n S (.tmp (((ops[j]?).bind (·.dst)).getD n)) = .bool t) (hb : t = want) (w : wpL P n ops [⟨d, op, ty, ps, af, none⟩] (fun S' L' h' => Ext (wl h (rmM mask L)) (wl h' (rmM mask L')) ∧ Dw P n ops mask X (i :: dn) (i :: ac) S' L' h') (fun _ _ _ _ => False) S L h) : Dw P n ops mask X dn ac S L h := by
  intro V G hG
  unfold okE at hok
  rw [hoi] at hok
  simp only [Bool.and_eq_true] at hok
  obtain ⟨⟨hr, hbl⟩, hap⟩ := hok
  obtain ⟨m, hm⟩ := left_pos hr
  obtain ⟨hi, hdi⟩ := ready_lt hr
  rw [hm]
  refine take_any hoi m dn ac G S (wl h L) (fin_wl V) hm hr ?_ ?_ (fun g hg => (hG g hg).2.1) ?_ ?_
  · intro x hx
    have := List.all_eq_true.1 hbl x ((el_mem _ _).1 hx)
    simpa using this
  · intro g hg _
    exact (hG g hg).2.1 _ _ (ext_rm V) (hG g hg).2.2
  · intro j oj hoj hji hdj hbj
    have hjl : j < ops.size := (Array.getElem?_eq_some_iff.1 hoj).1
    have := List.all_eq_true.1 hap j (by simpa using hjl)
    rw [hoj, hdj, hbj] at this
    simp only [Bool.or_false, Bool.or_eq_true, beq_iff_eq, Bool.and_eq_true, Option.isNone_iff_eq_none] at this
    obtain ⟨⟨h1, h2⟩, h3⟩ := this.resolve_left hji
    exact ⟨h1, h2, h3⟩
  · refine ⟨some t, by rw [ht]; rfl, fun _ => ?_, fun hn => absurd (congrArg some hb) hn⟩
    show opW P n ⟨d, op, ty, ps, af, none⟩ S (wl h L) _ noE
    refine opW_mono ?_ ?_ (w V)
    · rintro v H ⟨L', h', rfl, V', hE, hD⟩
      have hG' : ∀ g ∈ G, ((∀ H, g.2 H) ∨ (isLd ops g.1 = true ∧ el g.1 (i :: dn) = true)) ∧ (∀ H1 H2, Ext H1 H2 → g.2 H1 → g.2 H2) ∧ g.2 (wl h' (rmM mask L')) := by
        intro g hg
        obtain ⟨h1, h2, h3⟩ := hG g hg
        exact ⟨h1.imp id (fun e => ⟨e.1, by simp [el_cons, e.2]⟩), h2, h2 _ _ hE h3⟩
      refine ⟨fun g hg _ => (hG' g hg).2.1 _ _ (ext_rm V') (hG' g hg).2.2, ?_⟩
      have := hD V' G hG'
      rw [left_cons hi hdi hm] at this
      exact this
    · rintro v H ⟨L', h', rfl, V', y⟩; exact y
theorem dw_lastG {j : Nat} {want t : Bool} (hoi : ops[i]? = some ⟨d, op, ty, ps, af, some (j, want)⟩) (hok : okE ops dn i = true) (hl : okL ops dn i = true)
    (ht : ev n S (.tmp (((ops[j]?).bind (·.dst)).getD n)) = .bool t) (hb : t = want) (w : wpL P n ops [⟨d, op, ty, ps, af, none⟩] (fun S' L' h' => Dw P n ops mask X (i :: dn) (i :: ac) S' L' h') (fun _ _ _ _ => False) S L h) : Dw P n ops mask X dn ac S L h := by
  intro V G hG
  unfold okE at hok
  rw [hoi] at hok
  simp only [Bool.and_eq_true] at hok
  obtain ⟨⟨hr, hbl⟩, hap⟩ := hok
  obtain ⟨m, hm⟩ := left_pos hr
  obtain ⟨hi, hdi⟩ := ready_lt hr
  rw [hm]
  refine take_any hoi m dn ac G S (wl h L) (fin_wl V) hm hr ?_ ?_ (fun g hg => (hG g hg).2.1) ?_ ?_
  · intro x hx
    have := List.all_eq_true.1 hbl x ((el_mem _ _).1 hx)
    simpa using this
  · intro g hg _
    exact (hG g hg).2.1 _ _ (ext_rm V) (hG g hg).2.2
  · intro j oj hoj hji hdj hbj
    have hjl : j < ops.size := (Array.getElem?_eq_some_iff.1 hoj).1
    have := List.all_eq_true.1 hap j (by simpa using hjl)
    rw [hoj, hdj, hbj] at this
    simp only [Bool.or_false, Bool.or_eq_true, beq_iff_eq, Bool.and_eq_true, Option.isNone_iff_eq_none] at this
    obtain ⟨⟨h1, h2⟩, h3⟩ := this.resolve_left hji
    exact ⟨h1, h2, h3⟩
  · refine ⟨some t, by rw [ht]; rfl, fun _ => ?_, fun hn => absurd (congrArg some hb) hn⟩
    show opW P n ⟨d, op, ty, ps, af, none⟩ S (wl h L) _ noE
    refine opW_mono ?_ ?_ (w V)
    · rintro v H ⟨L', h', rfl, V', hD⟩
      -- the facts that are still asked hold everywhere
      have hdead : ∀ g ∈ G, (∀ H, g.2 H) ∨ ¬ alive ops (i :: ac) g.1 := by
        intro g hg
        rcases (hG g hg).1 with h1 | ⟨h1, h2⟩
        · exact .inl h1
        · right
          intro a
          have := List.all_eq_true.1 hl g.1 ((el_mem _ _).1 h2)
          rw [h1] at this
          simp only [Bool.not_true, Bool.false_or] at this
          have := a i this
          simp [el_cons] at this
      refine ⟨fun g hg a => ((hdead g hg).resolve_right (fun n => n a)) _, ?_⟩
      have hall : ∀ (m : Nat) (dn' ac' : List Nat) (S' : Sl) (H' : AH), (∀ k, el k (i :: ac) = true → el k ac' = true) → WG P n ops m dn' ac' [] X S' H' → WG P n ops m dn' ac' G X S' H' := by
        intro m
        induction m with
        | zero => intro dn' ac' S' H' _ w; exact w
        | succ m ih =>
          intro dn' ac' S' H' hsub w j oj hoj hrj
          refine T1_mono (fun S2 H2 y => ⟨fun g hg a => ?_, ih _ _ _ _ (fun k hk => by simp [el_cons, hsub k hk]) y.2⟩) (w j oj hoj hrj)
          exact ((hdead g hg).resolve_right (fun n => n (alive_less (fun k hk => by simp [el_cons, hsub k hk]) a))) _
      have := hD V' [] (fun g hg => by cases hg)
      rw [left_cons hi hdi hm] at this
      exact hall m _ _ _ _ (fun _ h => h) this
    · rintro v H ⟨L', h', rfl, V', y⟩; exact y
end Go.HL
/- Plain: more causes turn and lift no less; how far rods turn is reached by a cause. Conditions: none. -/
namespace Go.Rd
open Go Go.HL Go.Wx
variable [Lvl]
/-- More of all. -/
structure More (m : MachP) (a : HandP) (m' : MachP) (a' : HandP) : Prop where
  btn : m'.buttons = m.buttons
  hb : ∀ b ∈ a.buttons, b ∈ a'.buttons
  ho : ∀ r ∈ a.on, r ∈ a'.on
  links : ∀ l ∈ m.links, l ∈ m'.links
  pins : ∀ p ∈ m.pins, p ∈ m'.pins
  levers : m'.levers = m.levers
  travel : m'.travel = m.travel
  opn : m'.opn = m.opn
/-- What turns a rod: its buttons, its links. -/
def downN (m : MachP) (a : HandP) (r : Int) : Nat → Int
  | 0 => 0
  | k + 1 => match a.buttons[k]? with
    | some b => if m.buttons.getD b.toNat 0 = r then m.travel else downN m a r k
    | none => downN m a r k
def mostN (m : MachP) (a : HandP) (r : Int) (t : Int → Int) : Nat → Int
  | 0 => downN m a r a.buttons.length
  | k + 1 => match m.links[k]? with
    | some l => if l.to = r ∧ active a.on l = true then max (mostN m a r t k) (t l.frm - l.lag) else mostN m a r t k
    | none => mostN m a r t k
theorem down_val {m : MachP} {a : HandP} {r : Int} : ∀ {k : Nat}, k ≤ a.buttons.length → (downN m a r k = 0 ∧ ∀ (i : Nat) (h : i < a.buttons.length), i < k → m.buttons.getD a.buttons[i].toNat 0 ≠ r) ∨ (downN m a r k = m.travel ∧ ∃ (i : Nat) (h : i < a.buttons.length), i < k ∧ m.buttons.getD a.buttons[i].toNat 0 = r)
  | 0, _ => .inl ⟨rfl, fun i _ h => by omega⟩
  | k + 1, hk => by
    have ih := down_val (m := m) (a := a) (r := r) (k := k) (by omega)
    unfold downN
    rw [List.getElem?_eq_getElem (by omega : k < a.buttons.length)]
    simp only
    split
    · rename_i e
      exact .inr ⟨rfl, k, by omega, by omega, e⟩
    · rename_i e
      rcases ih with ⟨h1, h2⟩ | ⟨h1, i, hi, h2, h3⟩
      · refine .inl ⟨h1, fun i hi hk2 => ?_⟩
        by_cases hik : i = k
        · subst hik; exact e
        · exact h2 i hi (by omega)
      · exact .inr ⟨h1, i, hi, by omega, h3⟩
theorem most_ge {m : MachP} {a : HandP} {r : Int} {t : Int → Int} : ∀ {k : Nat}, k ≤ m.links.length → downN m a r a.buttons.length ≤ mostN m a r t k ∧ ∀ (i : Nat) (h : i < m.links.length), i < k → m.links[i].to = r → active a.on m.links[i] = true → t m.links[i].frm - m.links[i].lag ≤ mostN m a r t k
  | 0, _ => ⟨Int.le_refl _, fun i _ h => by omega⟩
  | k + 1, hk => by
    obtain ⟨i1, i2⟩ := most_ge (m := m) (a := a) (r := r) (t := t) (k := k) (by omega)
    unfold mostN
    rw [List.getElem?_eq_getElem (by omega : k < m.links.length)]
    simp only
    split
    · rename_i e
      refine ⟨Int.le_trans i1 (Int.le_max_left _ _), fun i hi hk2 h1 h2 => ?_⟩
      by_cases hik : i = k
      · subst hik; exact Int.le_max_right _ _
      · exact Int.le_trans (i2 i hi (by omega) h1 h2) (Int.le_max_left _ _)
    · rename_i e
      refine ⟨i1, fun i hi hk2 h1 h2 => ?_⟩
      by_cases hik : i = k
      · subst hik; exact absurd ⟨h1, h2⟩ e
      · exact i2 i hi (by omega) h1 h2
theorem most_le {m : MachP} {a : HandP} {r x : Int} {t : Int → Int} (h0 : downN m a r a.buttons.length ≤ x) (h : ∀ (i : Nat) (h : i < m.links.length), m.links[i].to = r → active a.on m.links[i] = true → t m.links[i].frm - m.links[i].lag ≤ x) : ∀ {k : Nat}, k ≤ m.links.length → mostN m a r t k ≤ x
  | 0, _ => h0
  | k + 1, hk => by
    have ih := most_le (t := t) h0 h (k := k) (by omega)
    unfold mostN
    rw [List.getElem?_eq_getElem (by omega : k < m.links.length)]
    simp only
    split
    · rename_i e
      exact Int.max_le.2 ⟨ih, h k (by omega) e.1 e.2⟩
    · exact ih
/-- Each rod turns as far as some cause turns it, and no cause would turn it further. -/
theorem turn_most {m : MachP} {a : HandP} (F : Fit m a) (ht : 0 ≤ m.travel) {r : Int} (hr : 0 ≤ r) : turnF m a m.travel r = mostN m a r (turnF m a m.travel) m.links.length := by
  have c := turned_clo F ht
  have hm := most_ge (m := m) (a := a) (r := r) (t := turnF m a m.travel) (Nat.le_refl _)
  have dv := down_val (m := m) (a := a) (r := r) (Nat.le_refl _)
  have d0 : 0 ≤ downN m a r a.buttons.length := by rcases dv with ⟨h, _⟩ | ⟨h, _⟩ <;> omega
  refine Int.le_antisymm ?_ (most_le ?_ ?_ (Nat.le_refl _))
  · -- lower f at r
    have key := turned_least F (depth := m.travel) (f := fun s => if s = r then mostN m a r (turnF m a m.travel) m.links.length else turnF m a m.travel s) ?_ r hr
    · simpa using key
    · have low : mostN m a r (turnF m a m.travel) m.links.length ≤ turnF m a m.travel r := most_le (by
          rcases dv with ⟨h, _⟩ | ⟨h, i, hi, _, e⟩
          · rw [h]; exact c.zero r hr
          · rw [h, ← e]; exact c.press _ (List.getElem_mem hi)) (fun i hi e ha => by rw [← e]; exact c.link _ (List.getElem_mem hi) ha) (Nat.le_refl _)
      refine ⟨fun s hs => ?_, fun b hb => ?_, fun l hl ha => ?_⟩
      · show 0 ≤ if s = r then _ else _
        split
        · exact Int.le_trans d0 hm.1
        · exact c.zero s hs
      · show m.travel ≤ if m.buttons.getD b.toNat 0 = r then _ else _
        split
        · rename_i e
          rcases dv with ⟨_, h⟩ | ⟨h, _⟩
          · obtain ⟨i, hi, rfl⟩ := List.getElem_of_mem hb
            exact absurd e (h i hi hi)
          · have h9 := hm.1
            rw [h] at h9
            exact h9
        · exact c.press b hb
      · show (if l.frm = r then _ else _) - l.lag ≤ if l.to = r then _ else _
        have h1 : (if l.frm = r then mostN m a r (turnF m a m.travel) m.links.length else turnF m a m.travel l.frm) ≤ turnF m a m.travel l.frm := by
          split
          · rename_i e; rw [e]; exact low
          · exact Int.le_refl _
        by_cases e : l.to = r
        · rw [if_pos e]
          obtain ⟨i, hi, rfl⟩ := List.getElem_of_mem hl
          have := hm.2 i hi hi e ha
          omega
        · rw [if_neg e]
          have := c.link l hl ha
          omega
  · rcases dv with ⟨h, _⟩ | ⟨h, i, hi, _, e⟩
    · rw [h]; exact c.zero r hr
    · rw [h, ← e]; exact c.press _ (List.getElem_mem hi)
  · intro i hi e ha
    rw [← e]
    exact c.link _ (List.getElem_mem hi) ha
end Go.Rd
/- Plain: elements changed in place; orders. Conditions: none. -/
namespace Go.Wx
open Go Go.HL
variable [Lvl]
structure Order (o : List Int) (n : Nat) : Prop where
  len : o.length = n
  bd : ∀ x ∈ o, 0 ≤ x ∧ x < n
  inj : ∀ (i k : Nat), i < n → k < n → o[i]? = o[k]? → i = k
theorem Order.at' {o : List Int} {n : Nat} (O : Order o n) {i : Nat} (hi : i < n) : ∃ k : Nat, o[i]? = some (k : Int) ∧ k < n := by
  have hl : i < o.length := by rw [O.len]; exact hi
  have := O.bd o[i] (List.getElem_mem hl)
  exact ⟨o[i].toNat, by rw [List.getElem?_eq_getElem hl]; congr 1; omega, by omega⟩
theorem nodup_len : ∀ (n : Nat) (l : List Nat), l.Nodup → (∀ x ∈ l, x < n) → l.length ≤ n
  | 0, l, _, h => by
    cases l with
    | nil => simp
    | cons a l => exact absurd (h a (List.mem_cons_self ..)) (by omega)
  | n + 1, l, nd, h => by
    have h1 := nodup_len n (l.erase n) (nd.erase n) fun x hx => by
      have h2 := h x (List.mem_of_mem_erase hx)
      have h3 : x ≠ n := fun e => by subst e; exact (List.Nodup.not_mem_erase nd) hx
      omega
    have h2 : l.length ≤ (l.erase n).length + 1 := by
      rw [List.length_erase]
      split <;> omega
    omega
theorem inj_surj : ∀ (n : Nat) (f : Nat → Nat), (∀ i, i < n → f i < n) → (∀ i k, i < n → k < n → f i = f k → i = k) → ∀ y, y < n → ∃ i, i < n ∧ f i = y := by
  intro n f hf hi y hy
  have nd : ((List.range n).map f).Nodup := by
    rw [List.nodup_iff_pairwise_ne, List.pairwise_map]
    refine List.Pairwise.imp_of_mem ?_ (List.nodup_range (n := n))
    intro a b ha hb hne e
    exact hne (hi a b (by simpa using ha) (by simpa using hb) e)
  apply Classical.byContradiction
  intro hno
  have h2 : (y :: (List.range n).map f).Nodup := by
    rw [List.nodup_cons]
    refine ⟨fun hm => ?_, nd⟩
    obtain ⟨i, hi1, hi2⟩ := List.mem_map.1 hm
    exact hno ⟨i, by simpa using hi1, hi2⟩
  have h3 := nodup_len n _ h2 (by
    intro x hx
    rcases List.mem_cons.1 hx with rfl | hx
    · exact hy
    · obtain ⟨i, hi1, hi2⟩ := List.mem_map.1 hx
      rw [← hi2]
      exact hf i (by simpa using hi1))
  simp at h3
  omega
/-- Where a joint goes. -/
def ordN (o : List Int) (i : Nat) : Nat := (o.getD i 0).toNat
theorem Order.ordN {o : List Int} {n : Nat} (O : Order o n) {i : Nat} (hi : i < n) : o[i]? = some ((ordN o i : Nat) : Int) ∧ Wx.ordN o i < n := by
  obtain ⟨k, h1, h2⟩ := O.at' hi
  unfold Wx.ordN
  rw [List.getD_eq_getElem?_getD, h1]
  simpa using h2
theorem Order.ordN_inj {o : List Int} {n : Nat} (O : Order o n) {i k : Nat} (hi : i < n) (hk : k < n) (h : Wx.ordN o i = Wx.ordN o k) : i = k := by
  refine O.inj i k hi hk ?_
  rw [(O.ordN hi).1, (O.ordN hk).1, h]
theorem wrL_mid (a c : List Value) : ∀ (vs b : List Value) (j : Nat), j + vs.length ≤ b.length → wrL (a ++ b ++ c) (a.length + j) vs = a ++ wrL b j vs ++ c
  | [], b, j, _ => rfl
  | v :: vs, b, j, h => by
    rw [List.length_cons] at h
    have hj : j < b.length := by omega
    have e : (a ++ b ++ c).set (a.length + j) v = a ++ b.set j v ++ c := by
      rw [List.append_assoc, List.set_append_right _ _ (by omega), Nat.add_sub_cancel_left, List.set_append_left _ _ hj, List.append_assoc]
    show wrL ((a ++ b ++ c).set (a.length + j) v) (a.length + j + 1) vs = _
    rw [e, Nat.add_assoc, wrL_mid a c vs (b.set j v) (j + 1) (by rw [List.length_set]; omega)]
    rfl
section
variable {α : Type} {enc : α → List Value} {m : Nat} (hm : ∀ x, (enc x).length = m)
include hm
/-- A part of an element, written in place. -/
theorem flat_wr {l : List α} {k j : Nat} {vs : List Value} {x : α} (hk : k < l.length) (hj : j + vs.length ≤ m) (hx : wrL (enc l[k]) j vs = enc x) (junk : List Value) : wrL (l.flatMap enc ++ junk) (k * m + j) vs = (l.set k x).flatMap enc ++ junk := by
  have e : l.flatMap enc ++ junk = (l.take k).flatMap enc ++ enc l[k] ++ ((l.drop (k + 1)).flatMap enc ++ junk) := by
    have h1 : l = l.take k ++ l[k] :: l.drop (k + 1) := by rw [← List.drop_eq_getElem_cons hk, List.take_append_drop]
    have h2 : l.flatMap enc = (l.take k ++ l[k] :: l.drop (k + 1)).flatMap enc := congrArg (fun z => z.flatMap enc) h1
    rw [h2, List.flatMap_append, List.flatMap_cons]
    simp only [List.append_assoc]
  have e2 : (l.set k x).flatMap enc ++ junk = (l.take k).flatMap enc ++ enc x ++ ((l.drop (k + 1)).flatMap enc ++ junk) := by
    rw [List.set_eq_take_append_cons_drop, if_pos hk]
    simp [List.flatMap_append]
  have hl : ((l.take k).flatMap enc).length = k * m := by rw [flat_len (fun y _ => hm y), List.length_take, Nat.min_eq_left (Nat.le_of_lt hk)]
  rw [e, e2, ← hl, wrL_mid _ _ _ _ _ (by rw [hm]; exact hj), hx]
theorem flat_at {l : List α} {k j : Nat} {x : α} {v : Value} (hk : l[k]? = some x) (hv : (enc x)[j]? = some v) (junk : List Value) : (l.flatMap enc ++ junk)[k * m + j]? = some v := by
  have := flat_get enc m l (fun y _ => hm y) k x hk j v hv
  rw [List.getElem?_append_left (List.getElem?_eq_some_iff.1 this).1]
  exact this
end
theorem intM (x : Int) : (intC x).length = 1 := rfl
/-- The first i places hold the numbers below i, in some order. -/
structure MixP (l : List Int) (i : Nat) : Prop where
  bd : ∀ m, m < i → ∃ v : Int, l[m]? = some v ∧ 0 ≤ v ∧ v < i
  inj : ∀ m m' : Nat, m < i → m' < i → l[m]? = l[m']? → m = m'
theorem MixP.zero (l : List Int) : MixP l 0 := ⟨fun m h => absurd h (Nat.not_lt_zero m), fun m _ h => absurd h (Nat.not_lt_zero m)⟩
def mixS (l : List Int) (i k : Nat) : List Int := (l.set i (l.getD k 0)).set k (i : Int)
theorem mixS_len (l : List Int) (i k : Nat) : (mixS l i k).length = l.length := by simp [mixS]
theorem mixS_get {l : List Int} {i k : Nat} (hi : i < l.length) (hk : k ≤ i) (m : Nat) : (mixS l i k)[m]? = if m = k then some (i : Int) else if m = i then l[k]? else l[m]? := by
  unfold mixS
  have hkl : k < l.length := by omega
  rw [List.getElem?_set, List.length_set]
  by_cases h1 : k = m
  · subst h1
    simp [hkl]
  · rw [if_neg h1, if_neg (fun e => h1 e.symm), List.getElem?_set]
    by_cases h2 : i = m
    · subst h2
      simp [hi, List.getD_eq_getElem?_getD, List.getElem?_eq_getElem hkl]
    · rw [if_neg h2, if_neg (fun e => h2 e.symm)]
theorem MixP.step {l : List Int} {i k : Nat} (P : MixP l i) (hi : i < l.length) (hk : k ≤ i) : MixP (mixS l i k) (i + 1) := by
  have gk : k < i → ∃ v : Int, l[k]? = some v ∧ 0 ≤ v ∧ v < i := fun h => P.bd k h
  constructor
  · intro m hm
    rw [mixS_get hi hk]
    by_cases h1 : m = k
    · rw [if_pos h1]; exact ⟨i, rfl, by omega, by omega⟩
    · rw [if_neg h1]
      by_cases h2 : m = i
      · rw [if_pos h2]
        obtain ⟨v, e, a, b⟩ := gk (by omega)
        exact ⟨v, e, a, by omega⟩
      · rw [if_neg h2]
        obtain ⟨v, e, a, b⟩ := P.bd m (by omega)
        exact ⟨v, e, a, by omega⟩
  · have val : ∀ m, m < i + 1 → ∃ v : Int, (mixS l i k)[m]? = some v ∧ (m ≠ k → v < i) ∧ (m = k → v = i) := by
      intro m hm
      rw [mixS_get hi hk]
      by_cases h1 : m = k
      · rw [if_pos h1]; exact ⟨i, rfl, fun h => absurd h1 h, fun _ => rfl⟩
      · rw [if_neg h1]
        by_cases h2 : m = i
        · rw [if_pos h2]
          obtain ⟨v, e, a, b⟩ := gk (by omega)
          exact ⟨v, e, fun _ => b, fun h => absurd h h1⟩
        · rw [if_neg h2]
          obtain ⟨v, e, a, b⟩ := P.bd m (by omega)
          exact ⟨v, e, fun _ => b, fun h => absurd h h1⟩
    intro m m' hm hm' e
    obtain ⟨v, e1, a1, b1⟩ := val m hm
    obtain ⟨v', e2, a2, b2⟩ := val m' hm'
    have hv : v = v' := by rw [e1, e2] at e; simpa using e
    by_cases h1 : m = k
    · by_cases h2 : m' = k
      · omega
      · have := a2 h2; have := b1 h1; omega
    · by_cases h2 : m' = k
      · have := a1 h1; have := b2 h2; omega
      · rw [mixS_get hi hk, mixS_get hi hk, if_neg h1, if_neg h2] at e
        by_cases h3 : m = i
        · by_cases h4 : m' = i
          · omega
          · rw [if_pos h3, if_neg h4] at e
            have := P.inj k m' (by omega) (by omega) e
            omega
        · by_cases h4 : m' = i
          · rw [if_neg h3, if_pos h4] at e
            have := P.inj m k (by omega) (by omega) e
            omega
          · rw [if_neg h3, if_neg h4] at e
            exact P.inj m m' (by omega) (by omega) e
theorem MixP.order {l : List Int} {n : Nat} (P : MixP l n) (hl : l.length = n) : Order l n := by
  refine ⟨hl, fun x hx => ?_, P.inj⟩
  obtain ⟨i, hi⟩ := List.mem_iff_getElem?.1 hx
  have := (List.getElem?_eq_some_iff.1 hi).1
  obtain ⟨v, e, a, b⟩ := P.bd i (by omega)
  rw [hi] at e
  cases e
  exact ⟨a, b⟩
theorem row_of_block {α : Type} {enc : α → List Value} {m : Nat} {l : List α} (hl : ∀ x ∈ l, (enc x).length = m) {h : AH} {b : Nat} {t : TypeId} (hb : h b = some (.cells (l.flatMap enc).toArray t (0, 0))) : Row h m enc (some ⟨b, 0, none⟩) l :=
  ⟨hl, fun _ => ⟨b, 0, rfl, cellsB hb⟩⟩
end Go.Wx
/- The own logic, part BB: words whose value does not matter. Conditions: none. -/
namespace Go.HL
open Go
variable [Lvl]
section
variable {P : Program} {n : Nat} {ops : Array Oper} {d : Option Tmp} {op : Op} {ty : TypeId} {ps : String} {af : Array Edge} {os : List Oper} {K : Sl → Pv → AH → Prop} {E : Value → Sl → Pv → AH → Prop} {S : Sl} {L : Pv} {h : AH}
theorem wrap_u64 (z : Int) : ∃ r : Nat, r < 2 ^ 64 ∧ IntKind.wrap .u64 z = (r : Int) := by
  have e : IntKind.wrap .u64 z = z % 2 ^ 64 := by simp [IntKind.wrap, IntKind.bits, IntKind.signed]
  have h1 : 0 ≤ z % 2 ^ 64 := Int.emod_nonneg _ (by decide)
  have h2 : z % 2 ^ 64 < 2 ^ 64 := Int.emod_lt_of_pos _ (by decide)
  exact ⟨(z % 2 ^ 64).toNat, by omega, by rw [e]; omega⟩
theorem op_some {z : Int} (hv : pev P (execOp (ev n S) ⟨d, op, ty, ps, af, none⟩) = some (.value (.int .u64 (IntKind.wrap .u64 z))))
    (k : ∀ r : Nat, r < 2 ^ 64 → wpL P n ops os K E (put S d (.int .u64 (r : Int))) L h) : wpL P n ops (⟨d, op, ty, ps, af, none⟩ :: os) K E S L h := by
  obtain ⟨r, hr, e⟩ := wrap_u64 z
  rw [e] at hv
  exact op_pure hv (k r hr)
theorem dw_some {mask : List Bool} {X : Sl → AH → Prop} {dn ac : List Nat} {i : Nat} {z : Int} (hoi : ops[i]? = some ⟨d, op, ty, ps, af, none⟩) (hok : okS ops dn ac i = true) (hv : pev P (execOp (ev n S) ⟨d, op, ty, ps, af, none⟩) = some (.value (.int .u64 (IntKind.wrap .u64 z))))
    (k : ∀ r : Nat, r < 2 ^ 64 → Dw P n ops mask X (i :: dn) ac (put S d (.int .u64 (r : Int))) L h) : Dw P n ops mask X dn ac S L h := by
  obtain ⟨r, hr, e⟩ := wrap_u64 z
  rw [e] at hv
  exact dw_pure hoi hok hv (k r hr)
theorem pv_rem {t u : TypeId} {x y : Operand} {a b : Nat} {b' : Int} (hx : ev n S x = .int .u64 (a : Int)) (hy : ev n S y = .int .u64 b') (eb : b' = b) (hb : 0 < b) :
    pev P (execOp (ev n S) ⟨d, .binOp .rem t x y u, ty, ps, af, none⟩) = some (.value (.int .u64 ((a % b : Nat) : Int))) := by
  subst eb
  have h0 : ¬ ((b : Nat) : Int) = 0 := by omega
  simp only [execOp, hx, hy, binOp, Op.intDiv, if_neg h0]
  rfl
end
end Go.HL
/- Walks: the pot of numbers, lists. Conditions: as each theorem states. -/
namespace Go.Proofs.Ytlfbcimcehcomaa
open Go Go.HL Go.Proofs Go.Wx Go.Rd
section
variable [Lvl]
set_option maxRecDepth 100000
theorem step_ok (b x : Nat) (h : AH) : FnM Try.prog (.func (.func 47) #[] ([] : List Value).toArray) [.pointer (some ⟨b, 0, none⟩)] h [some (b, .cells #[.int .u64 (x : Int)] 76 (0, 0))]
    (fun v h' M' => ∃ x' r : Nat, M' = [some (b, .cells #[.int .u64 (x' : Int)] 76 (0, 0))] ∧ v = .int .u64 (r : Int)) := by
  refine fnM_body rfl rfl Try.func47 rfl Try.ntmps47 rfl ?_
  refine xp_seq ?_
  refine xp_region rfl ?_
  refine op_pure (pv_assign (v := .int .u64 _) rfl) ?_
  refine xp_seq ?_
  refine xp_region rfl ?_
  refine op_pure (pv_move (v := .pointer (some ⟨b, 0, none⟩)) rfl) ?_
  refine op_pure (pv_move (v := .pointer (some ⟨b, 0, none⟩)) rfl) ?_
  refine op_pure (pv_of (v := .pointer (some ⟨b, 0, none⟩)) rfl) ?_
  refine op_pure (pv_fieldAddr rfl rfl rfl rfl 0 rfl) ?_
  refine op_loadP 0 (v := .int .u64 _) rfl rfl rfl rfl ?_
  refine op_some rfl fun r1 hr1 => ?_
  refine op_some rfl fun r2 hr2 => ?_
  refine op_pure (pv_of (v := .pointer (some ⟨b, 0, none⟩)) rfl) ?_
  refine op_pure (pv_fieldAddr rfl rfl rfl rfl 0 rfl) ?_
  refine op_storeP 0 (v := .int .u64 _) (vs := [_]) (c' := [_]) rfl rfl rfl rfl rfl rfl rfl rfl rfl ?_
  refine wp_norm [_] rfl ?_
  refine xp_seq ?_
  refine xp_region rfl ?_
  refine op_pure (pv_move (v := .pointer (some ⟨b, 0, none⟩)) rfl) ?_
  refine op_pure (pv_of (v := .pointer (some ⟨b, 0, none⟩)) rfl) ?_
  refine op_pure (pv_fieldAddr rfl rfl rfl rfl 0 rfl) ?_
  refine op_loadP 0 (v := .int .u64 _) rfl rfl rfl rfl ?_
  refine op_pure (pv_assign (v := .int .u64 _) rfl) ?_
  refine xp_seq ?_
  refine xp_region rfl ?_
  refine op_pure (pv_move (v := .int .u64 _) rfl) ?_
  refine op_pure (pv_move (v := .int .u64 _) rfl) ?_
  refine op_pure (pv_shr _ 33 (.inr rfl) rfl rfl rfl rfl (by omega)) ?_
  refine op_some rfl fun r3 hr3 => ?_
  refine op_some rfl fun r4 hr4 => ?_
  refine op_pure (pv_assign (v := .int .u64 _) rfl) ?_
  refine xp_seq ?_
  refine xp_region rfl ?_
  refine op_pure (pv_move (v := .int .u64 _) rfl) ?_
  refine op_pure (pv_move (v := .int .u64 _) rfl) ?_
  refine op_pure (pv_shr _ 33 (.inr rfl) rfl rfl rfl rfl (by omega)) ?_
  refine op_some rfl fun r5 hr5 => ?_
  refine op_some rfl fun r6 hr6 => ?_
  refine op_pure (pv_assign (v := .int .u64 _) rfl) ?_
  refine xp_seq ?_
  refine xp_region rfl ?_
  refine op_pure (pv_move (v := .int .u64 _) rfl) ?_
  refine op_pure (pv_move (v := .int .u64 _) rfl) ?_
  refine op_pure (pv_shr _ 33 (.inr rfl) rfl rfl rfl rfl (by omega)) ?_
  refine op_some rfl fun r7 hr7 => ?_
  refine op_pure (pv_assign (v := .int .u64 _) rfl) ?_
  refine xp_ret ?_
  refine res_list (vs := [_]) Try.results47 ⟨resV_tmp rfl rfl, trivial⟩ fun V => ?_
  exact ⟨_, [_], rfl, V, (Ext.refl _), r2, r7, rfl, rfl⟩
theorem Upto_ok (b x : Nat) (n : Int) (hn : n < 2 ^ 40) (h : AH) : FnM Try.prog (.func (.func 20) #[] ([] : List Value).toArray) [.pointer (some ⟨b, 0, none⟩), .int .i64 n] h [some (b, .cells #[.int .u64 (x : Int)] 76 (0, 0))]
    (fun v h' M' => ∃ (x' : Nat) (k : Int), M' = [some (b, .cells #[.int .u64 (x' : Int)] 76 (0, 0))] ∧ v = .int .i64 k ∧ 0 ≤ k ∧ k ≤ max n 0) := by
  refine fnM_body rfl rfl Try.func20 rfl Try.ntmps20 rfl ?_
  refine xp_seq ?_
  refine xp_region rfl ?_
  refine op_pure (pv_assign (v := .int .i64 _) rfl) ?_
  refine xp_seq ?_
  refine xp_seq ?_
  refine xp_region rfl ?_
  refine op_pure (pv_move (v := .int .i64 _) rfl) ?_
  refine op_pure (pv_of (v := .bool _) rfl) ?_
  refine xp_cond rfl (fun ht => ?_) (fun ht => ?_)
  · skip
    refine xp_seq ?_
    refine xp_region rfl ?_
    refine op_pure (pv_assign (v := .int .i64 _) rfl) ?_
    refine xp_ret ?_
    refine res_list (vs := [_]) Try.results20 ⟨resV_tmp rfl rfl, trivial⟩ fun V => ?_
    exact ⟨_, [_], rfl, V, (Ext.refl _), x, 0, rfl, rfl, by omega, by omega⟩
  · skip
    have h1 : 1 ≤ n := by simpa using ht
    refine xp_skip ?_
    refine xp_seq ?_
    refine xp_region rfl ?_
    refine op_pure (pv_move (v := .pointer (some ⟨b, 0, none⟩)) rfl) ?_
    refine op_fnMM [] [_] [] (vs := _) rfl rfl rfl ((step_ok b x h)) ?_
    rintro _ h2 _ E2 ⟨x2, r, rfl, rfl⟩
    refine wp_norm [_] rfl ?_
    refine op_pure (pv_shr _ 11 (.inr rfl) rfl rfl rfl rfl (by omega)) ?_
    refine op_pure (pv_move (v := .int .i64 _) rfl) ?_
    refine op_pure (pv_arith rfl (by omega)) ?_
    refine op_pure (pv_val (intE (show IntKind.wrap .u64 (n + 1) = (((n + 1).toNat : Nat) : Int) by rw [IntWalk.u64_in _ (by omega)]; omega)) rfl) ?_
    refine op_pure (pv_rem (b := (n + 1).toNat) rfl rfl rfl (by omega)) ?_
    have hm : r / 2 ^ 11 % (n + 1).toNat < (n + 1).toNat := Nat.mod_lt _ (by omega)
    refine op_pure (pv_val (intE (show IntKind.wrap .i64 ((r / 2 ^ 11 % (n + 1).toNat : Nat) : Int) = ((r / 2 ^ 11 % (n + 1).toNat : Nat) : Int) by rw [IntWalk.i64_in _ (by omega)])) rfl) ?_
    refine op_pure (pv_assign (v := .int .i64 _) rfl) ?_
    refine xp_ret ?_
    refine res_list (vs := [_]) Try.results20 ⟨resV_tmp rfl rfl, trivial⟩ fun V => ?_
    exact ⟨_, [_], rfl, V, E2, x2, _, rfl, rfl, by omega, by omega⟩
theorem Within_ok (b x : Nat) (lo hi : Int) (h1 : -2 ^ 30 ≤ lo) (h2 : lo ≤ hi) (h3 : hi ≤ 2 ^ 30) (h : AH) : FnM Try.prog (.func (.func 19) #[] ([] : List Value).toArray) [.pointer (some ⟨b, 0, none⟩), .int .i64 lo, .int .i64 hi] h [some (b, .cells #[.int .u64 (x : Int)] 76 (0, 0))]
    (fun v h' M' => ∃ (x' : Nat) (k : Int), M' = [some (b, .cells #[.int .u64 (x' : Int)] 76 (0, 0))] ∧ v = .int .i64 k ∧ lo ≤ k ∧ k ≤ hi) := by
  refine fnM_body rfl rfl Try.func19 rfl Try.ntmps19 rfl ?_
  refine xp_seq ?_
  refine xp_region rfl ?_
  refine op_pure (pv_assign (v := .int .i64 _) rfl) ?_
  refine xp_seq ?_
  refine xp_region rfl ?_
  refine op_pure (pv_move (v := .int .i64 _) rfl) ?_
  refine op_pure (pv_move (v := .pointer (some ⟨b, 0, none⟩)) rfl) ?_
  refine op_pure (pv_move (v := .int .i64 _) rfl) ?_
  refine op_pure (pv_move (v := .int .i64 _) rfl) ?_
  refine op_pure (pv_arith rfl (by omega)) ?_
  refine op_fnMM [] [_] [] (vs := [.pointer _, .int .i64 _]) rfl rfl rfl ((Upto_ok b x (hi - lo) (by omega) h)) ?_
  rintro _ h2 _ E2 ⟨x2, k, rfl, rfl, k1, k2⟩
  refine wp_norm [_] rfl ?_
  refine op_pure (pv_arith rfl (by omega)) ?_
  refine op_pure (pv_assign (v := .int .i64 _) rfl) ?_
  refine xp_ret ?_
  refine res_list (vs := [_]) Try.results19 ⟨resV_tmp rfl rfl, trivial⟩ fun V => ?_
  exact ⟨_, [_], rfl, V, E2, x2, lo + k, rfl, rfl, by omega, by omega⟩
theorem NewPot_ok (l : List Int) (hl : l.length < 2 ^ 63) (A : Option Addr) (c : Nat) (h : AH) (R : Row h 1 intC A l) : FnM Try.prog (.func (.func 5) #[] ([] : List Value).toArray) [.slice A l.length c] h []
    (fun v h' M' => ∃ b x : Nat, M' = [some (b, .cells #[.int .u64 (x : Int)] 76 (0, 0))] ∧ v = .pointer (some ⟨b, 0, none⟩)) := by
  refine fnM_body rfl rfl Try.func5 rfl Try.ntmps5 rfl ?_
  refine xp_seq ?_
  refine xp_region rfl ?_
  refine op_pure (pv_assign (v := .pointer _) rfl) ?_
  refine xp_seq ?_
  refine xp_region rfl ?_
  refine op_pure (pv_build (zc := [_]) (vs := [(0, .int .u64 _)]) (cs := [_]) rfl rfl rfl rfl rfl rfl) ?_
  refine op_box (v := .agg #[.int .u64 _]) (cs := [_]) rfl rfl fun b6 hb6 => ?_
  refine wp_norm [_] rfl ?_
  refine op_pure (pv_assign (v := .pointer (some ⟨b6, 0, none⟩)) rfl) ?_
  refine xp_seq ?_
  refine xp_seq ?_
  refine xp_region rfl ?_
  refine op_pure (pv_assign (v := .int .i64 _) rfl) ?_
  refine xp_block ?_
  refine xp_loopL [4, 7, 8, 9, 10, 11, 12, 13, 14, 15, 16, 17, 18, 19, 20, 21, 22, 23, 24, 25, 26, 27, 28, 29, 30, 31, 32, 33, 34, 35, 36, 37, 38, 39] 1 (α := Nat × Nat) (fun ⟨k, x⟩ => [(4, .int .i64 k)]) (fun ⟨k, x⟩ L => L.set 0 (some (b6, .cells #[.int .u64 (x : Int)] 76 (0, 0)))) (fun ⟨k, x⟩ h_k => k ≤ l.length) (fun ⟨k, x⟩ => l.length - k) ((0, 2611923443488327891)) ⟨rfl, trivial⟩ (rfl) (Nat.zero_le _) ?_
  rintro ⟨k, x⟩ T1 h_k E_k J_k
  refine goes_norm [_] rfl ?_
  refine xp_seq ?_
  refine xp_seq ?_
  refine xp_region rfl ?_
  refine op_pure (pv_move (v := .int .i64 _) rfl) ?_
  refine op_pure (pv_move (v := .slice _ _ _) rfl) ?_
  refine op_pure (pv_len rfl rfl) ?_
  refine op_pure (pv_of (v := .bool _) rfl) ?_
  refine xp_cond rfl (fun ht => ?_) (fun ht => ?_)
  · skip
    have hlt := ltI ht
    obtain ⟨g, off, hA, hc⟩ := (R.ext E_k).at (by omega) hlt
    refine xp_skip ?_
    refine xp_seq ?_
    refine xp_block ?_
    refine xp_seq ?_
    refine xp_dw [] rfl rfl rfl ?_
    refine dw_pure (i := 0) rfl (by decide +kernel) (pv_move (v := .pointer (some ⟨b6, 0, none⟩)) rfl) ?_
    refine dw_pure (i := 1) rfl (by decide +kernel) (pv_move (v := .pointer (some ⟨b6, 0, none⟩)) rfl) ?_
    refine dw_pure (i := 2) rfl (by decide +kernel) (pv_of (v := .pointer (some ⟨b6, 0, none⟩)) rfl) ?_
    refine dw_pure (i := 3) rfl (by decide +kernel) (pv_fieldAddr rfl rfl rfl rfl 0 rfl) ?_
    refine dw_load (i := 4) rfl (by decide +kernel) ?_
    refine op_loadP 0 (v := .int .u64 _) rfl rfl rfl rfl ?_
    refine dw_pure (i := 5) rfl (by decide +kernel) (pv_move (v := .slice _ _ _) rfl) ?_
    refine dw_pure (i := 6) rfl (by decide +kernel) (pv_move (v := .int .i64 _) rfl) ?_
    refine dw_pure (i := 7) rfl (by decide +kernel) (pv_indexE rfl hA rfl rfl rfl (by omega) (by omega)) ?_
    refine dw_load (i := 8) rfl (by decide +kernel) ?_
    refine op_load (v := .int .i64 _) rfl rfl ((hc) 0 _ rfl) ?_
    refine dw_some (i := 9) rfl (by decide +kernel) rfl fun r1 hr1 => ?_
    refine dw_some (i := 10) rfl (by decide +kernel) rfl fun r2 hr2 => ?_
    refine dw_some (i := 11) rfl (by decide +kernel) rfl fun r3 hr3 => ?_
    refine dw_pure (i := 12) rfl (by decide +kernel) (pv_of (v := .pointer (some ⟨b6, 0, none⟩)) rfl) ?_
    refine dw_pure (i := 13) rfl (by decide +kernel) (pv_fieldAddr rfl rfl rfl rfl 0 rfl) ?_
    refine dw_last (i := 14) rfl (by decide +kernel) (by decide +kernel) ?_
    refine op_storeP 0 (v := .int .u64 _) (vs := [_]) (c' := [_]) rfl rfl rfl rfl rfl rfl rfl rfl rfl ?_
    refine dw_norm [_] rfl ?_
    refine dw_end rfl ?_
    refine xp_dw [] rfl rfl rfl ?_
    refine dw_pure (i := 0) rfl (by decide +kernel) (pv_move (v := .pointer (some ⟨b6, 0, none⟩)) rfl) ?_
    refine dw_pure (i := 1) rfl (by decide +kernel) (pv_move (v := .pointer (some ⟨b6, 0, none⟩)) rfl) ?_
    refine dw_pure (i := 2) rfl (by decide +kernel) (pv_of (v := .pointer (some ⟨b6, 0, none⟩)) rfl) ?_
    refine dw_pure (i := 3) rfl (by decide +kernel) (pv_fieldAddr rfl rfl rfl rfl 0 rfl) ?_
    refine dw_load (i := 4) rfl (by decide +kernel) ?_
    refine op_loadP 0 (v := .int .u64 _) rfl rfl rfl rfl ?_
    refine dw_pure (i := 5) rfl (by decide +kernel) (pv_move (v := .pointer (some ⟨b6, 0, none⟩)) rfl) ?_
    refine dw_pure (i := 6) rfl (by decide +kernel) (pv_of (v := .pointer (some ⟨b6, 0, none⟩)) rfl) ?_
    refine dw_pure (i := 7) rfl (by decide +kernel) (pv_fieldAddr rfl rfl rfl rfl 0 rfl) ?_
    refine dw_load (i := 8) rfl (by decide +kernel) ?_
    refine op_loadP 0 (v := .int .u64 _) rfl rfl rfl rfl ?_
    refine dw_pure (i := 9) rfl (by decide +kernel) (pv_shr _ 32 (.inr rfl) rfl rfl rfl rfl (by omega)) ?_
    refine dw_some (i := 10) rfl (by decide +kernel) rfl fun r4 hr4 => ?_
    refine dw_pure (i := 11) rfl (by decide +kernel) (pv_of (v := .pointer (some ⟨b6, 0, none⟩)) rfl) ?_
    refine dw_pure (i := 12) rfl (by decide +kernel) (pv_fieldAddr rfl rfl rfl rfl 0 rfl) ?_
    refine dw_last (i := 13) rfl (by decide +kernel) (by decide +kernel) ?_
    refine op_storeP 0 (v := .int .u64 _) (vs := [_]) (c' := [_]) rfl rfl rfl rfl rfl rfl rfl rfl rfl ?_
    refine dw_norm [_] rfl ?_
    refine dw_end rfl ?_
    refine xp_region rfl ?_
    refine op_pure (pv_move (v := .int .i64 _) rfl) ?_
    refine op_pure (pv_arith rfl (by omega)) ?_
    refine op_pure (pv_assign (v := .int .i64 _) rfl) ?_
    refine ⟨(k + 1, r4), ⟨rfl, trivial⟩, rfl, rfl, E_k, fun h3 E3 => hlt, by first | omega | (dsimp only; omega), ?_⟩
    repeat (first | exact off_base _ _ _ | refine off_upd (by decide) ?_ | refine off_updL rfl ?_ | refine off_mix rfl ?_)
  · skip
    refine xp_exit ?_
    refine xp_seq ?_
    refine xp_region rfl ?_
    refine op_pure (pv_move (v := .pointer (some ⟨b6, 0, none⟩)) rfl) ?_
    refine op_pure (pv_assign (v := .pointer (some ⟨b6, 0, none⟩)) rfl) ?_
    refine xp_ret ?_
    refine res_list (vs := [_]) Try.results5 ⟨resV_tmp rfl rfl, trivial⟩ fun V => ?_
    exact ⟨_, [_], rfl, V, E_k, b6, x, rfl, rfl⟩
theorem Odds_ok (b x : Nat) (n m : Int) (hm : -2 ^ 30 ≤ m ∧ m ≤ 2 ^ 30) (h : AH) : FnM Try.prog (.func (.func 21) #[] ([] : List Value).toArray) [.pointer (some ⟨b, 0, none⟩), .int .i64 n, .int .i64 m] h [some (b, .cells #[.int .u64 (x : Int)] 76 (0, 0))]
    (fun v h' M' => ∃ (x' : Nat) (u : Bool), M' = [some (b, .cells #[.int .u64 (x' : Int)] 76 (0, 0))] ∧ v = .bool u) := by
  refine fnM_body rfl rfl Try.func21 rfl Try.ntmps21 rfl ?_
  refine xp_seq ?_
  refine xp_region rfl ?_
  refine op_pure (pv_assign (v := .bool _) rfl) ?_
  refine xp_seq ?_
  refine xp_region rfl ?_
  refine op_pure (pv_move (v := .pointer (some ⟨b, 0, none⟩)) rfl) ?_
  refine op_pure (pv_move (v := .int .i64 _) rfl) ?_
  refine op_pure (pv_arith rfl (by omega)) ?_
  refine op_fnMM [] [_] [] (vs := [.pointer _, .int .i64 _]) rfl rfl rfl ((Upto_ok b x (m - 1) (by omega) h)) ?_
  rintro _ h2 _ E2 ⟨x2, k, rfl, rfl, k1, k2⟩
  refine wp_norm [_] rfl ?_
  refine op_pure (pv_move (v := .int .i64 _) rfl) ?_
  refine op_pure (pv_of (v := .bool _) rfl) ?_
  refine op_pure (pv_assign (v := .bool _) rfl) ?_
  refine xp_ret ?_
  refine res_list (vs := [_]) Try.results21 ⟨resV_tmp rfl rfl, trivial⟩ fun V => ?_
  exact ⟨_, [_], rfl, V, E2, x2, _, rfl, rfl⟩
theorem Pick_ok (b x n : Nat) (hn : n < 2 ^ 20) (h : AH) : FnM Try.prog (.func (.func 29) #[] ([] : List Value).toArray) [.pointer (some ⟨b, 0, none⟩), .int .i64 n] h [some (b, .cells #[.int .u64 (x : Int)] 76 (0, 0))]
    (fun v h' M' => ∃ (x' : Nat) (l : List Int), M' = [some (b, .cells #[.int .u64 (x' : Int)] 76 (0, 0))] ∧ SlR h' 1 intC l v ∧ (∀ z ∈ l, 0 ≤ z ∧ z < n) ∧ l.Pairwise (· < ·) ∧ l.length ≤ n) := by
  refine fnM_body rfl rfl Try.func29 rfl Try.ntmps29 rfl ?_
  refine goes_more ?_
  refine goes_norm [_, _] rfl ?_
  refine xp_seq ?_
  refine xp_region rfl ?_
  refine op_pure (pv_assign (v := .slice _ _ _) rfl) ?_
  refine xp_seq ?_
  refine xp_region rfl ?_
  refine op_pure (pv_assign (v := .slice _ _ _) rfl) ?_
  refine xp_seq ?_
  refine xp_seq ?_
  refine xp_region rfl ?_
  refine op_pure (pv_assign (v := .int .i64 _) rfl) ?_
  refine xp_block ?_
  refine xp_loopL [5, 6, 7, 8, 9, 10, 11, 12, 13, 14, 15, 16, 17] 2 (α := Nat × Nat × List Int × Acc) (fun ⟨i, y, l, a⟩ => [(6, .int .i64 i), (5, .slice a.A a.n a.c)]) (fun ⟨i, y, l, a⟩ L => (L.set 0 (some (b, .cells #[.int .u64 (y : Int)] 76 (0, 0)))).set 1 (a.p)) (fun ⟨i, y, l, a⟩ h_i => (i ≤ n ∧ l.length ≤ i) ∧ (∀ z ∈ l, 0 ≤ z ∧ z < i) ∧ l.Pairwise (· < ·) ∧ AccR 3 1 (l.flatMap intC) a) (fun ⟨i, y, l, a⟩ => n - i) ((0, x, [], acc0)) ⟨rfl, rfl, trivial⟩ (rfl) (⟨⟨Nat.zero_le _, Nat.le_refl _⟩, by simp, List.Pairwise.nil, accR0⟩) ?_
  rintro ⟨i, y, l, a⟩ T1 h_i E_i J_i
  refine goes_norm [_, _] rfl ?_
  obtain ⟨⟨K1, K2⟩, K3, K4, K5⟩ := J_i
  refine xp_seq ?_
  refine xp_seq ?_
  refine xp_region rfl ?_
  refine op_pure (pv_move (v := .int .i64 _) rfl) ?_
  refine op_pure (pv_move (v := .int .i64 _) rfl) ?_
  refine op_pure (pv_of (v := .bool _) rfl) ?_
  refine xp_cond rfl (fun ht => ?_) (fun ht => ?_)
  · skip
    have hin : i < n := ltI ht
    refine xp_skip ?_
    refine xp_seq ?_
    refine xp_block ?_
    refine xp_seq ?_
    refine xp_region rfl ?_
    refine op_pure (pv_move (v := .pointer (some ⟨b, 0, none⟩)) rfl) ?_
    refine op_fnMM [] [_] [_] (vs := [.pointer _, .int .i64 _, .int .i64 _]) rfl rfl rfl ((Odds_ok b y 1 2 (by omega) h_i)) ?_
    rintro _ g2 _ E2 ⟨y2, u, rfl, rfl⟩
    refine wp_norm [_, _] rfl ?_
    refine xp_cond rfl (fun hu => ?_) (fun hu => ?_)
    · skip
      refine xp_region rfl ?_
      refine op_pure (pv_move (v := .slice _ _ _) rfl) ?_
      refine op_pure (pv_move (v := .int .i64 _) rfl) ?_
      refine op_buildSlice (zc := [_]) (vs := [(0, .int .i64 _)]) (cs := [_]) rfl rfl rfl rfl rfl rfl rfl fun b16 hb16 => ?_
      refine wp_norm [_, _, _] rfl ?_
      refine op_appendR 1 K5 rfl rfl rfl (fun V => rdP V (i := 2) rfl) rfl rfl rfl rfl rfl rfl rfl rfl rfl (by omega) rfl (by rw [flat_len (m := 1) (fun _ _ => rfl)]; simp; omega) fun a2 h2a E2a ha2 => ?_
      refine wp_norm [_, _, _] rfl ?_
      refine op_pure (pv_assign (v := .slice _ _ _) rfl) ?_
      refine xp_region rfl ?_
      refine op_pure (pv_move (v := .int .i64 _) rfl) ?_
      refine op_pure (pv_arith rfl (by omega)) ?_
      refine op_pure (pv_assign (v := .int .i64 _) rfl) ?_
      refine ⟨(i + 1, y2, l ++ [(i : Int)], a2), ⟨rfl, rfl, trivial⟩, rfl, rfl, (Ext.trans (Ext.trans E_i E2) E2a), fun h3 E3 => ⟨⟨hin, by rw [List.length_append]; simp; omega⟩, fun z hz => (List.mem_append.1 hz).elim (fun h => by have := K3 z h; omega) (fun h => by rw [List.mem_singleton.1 h]; omega), List.pairwise_append.2 ⟨K4, by simp, fun z hz w hw => by rw [List.mem_singleton.1 hw]; exact (K3 z hz).2⟩, by rw [List.flatMap_append]; exact ha2⟩, by first | omega | (dsimp only; omega), ?_⟩
      repeat (first | exact off_base _ _ _ | refine off_upd (by decide) ?_ | refine off_updL rfl ?_ | refine off_mix rfl ?_)
    · skip
      refine xp_skip ?_
      refine xp_region rfl ?_
      refine op_pure (pv_move (v := .int .i64 _) rfl) ?_
      refine op_pure (pv_arith rfl (by omega)) ?_
      refine op_pure (pv_assign (v := .int .i64 _) rfl) ?_
      refine ⟨(i + 1, y2, l, a), ⟨rfl, rfl, trivial⟩, rfl, rfl, (Ext.trans E_i E2), fun h3 E3 => ⟨⟨hin, by omega⟩, fun z hz => by have := K3 z hz; omega, K4, K5⟩, by first | omega | (dsimp only; omega), ?_⟩
      repeat (first | exact off_base _ _ _ | refine off_upd (by decide) ?_ | refine off_updL rfl ?_ | refine off_mix rfl ?_)
  · skip
    have hie : i = n := by have := geI ht; omega
    subst hie
    obtain ⟨p7, A7, n7, c7⟩ := a
    obtain rfl : n7 = l.length := by have := AccR.len K5; rw [flat_len (m := 1) (fun _ _ => rfl)] at this; dsimp only at this; omega
    dsimp only
    refine goes_pubO 1 rfl ?_
    intro g7 G7 P7
    refine goes_norm [_, _] rfl ?_
    refine xp_exit ?_
    refine xp_seq ?_
    refine xp_region rfl ?_
    refine op_pure (pv_move (v := .slice _ _ _) rfl) ?_
    refine op_pure (pv_assign (v := .slice _ _ _) rfl) ?_
    refine xp_ret ?_
    refine res_list (vs := [_]) Try.results29 ⟨resV_tmp rfl rfl, trivial⟩ fun V => ?_
    obtain ⟨h9, E9, e9, V9⟩ := wl_drop [_] [_] V
    exact ⟨h9, _, e9, V9, Ext.trans (Ext.trans E_i G7) E9, y, l, rfl, ⟨A7, c7, rfl, Row.ext (⟨fun _ _ => rfl, AccR.rd K5 P7⟩ : Row g7 1 intC A7 l) E9⟩, K3, K4, K2⟩
theorem zeros_int (n : Nat) : ((List.replicate n (0 : Int)).flatMap intC) = List.replicate n (.int .i64 0) := by
  induction n with
  | zero => rfl
  | succ n ih => rw [List.replicate_succ, List.flatMap_cons, ih, List.replicate_succ]; rfl
theorem zeros_map (n : Nat) : ((List.range (n * 1)).map fun i => [Value.int .i64 0][i % 1]!) = List.replicate n (.int .i64 0) := by
  rw [Nat.mul_one]
  apply List.ext_getElem?
  intro i
  rw [List.getElem?_map, List.getElem?_replicate]
  by_cases hi : i < n
  · rw [List.getElem?_range hi, if_pos hi]
    simp [Nat.mod_one]
  · rw [List.getElem?_eq_none (by simpa using hi), if_neg hi]; rfl
theorem Mix_ok (b x n : Nat) (hn : n < 2 ^ 20) (h : AH) : FnM Try.prog (.func (.func 12) #[] ([] : List Value).toArray) [.pointer (some ⟨b, 0, none⟩), .int .i64 n] h [some (b, .cells #[.int .u64 (x : Int)] 76 (0, 0))]
    (fun v h' M' => ∃ (x' : Nat) (o : List Int), M' = [some (b, .cells #[.int .u64 (x' : Int)] 76 (0, 0))] ∧ SlR h' 1 intC o v ∧ Order o n) := by
  refine fnM_body rfl rfl Try.func12 rfl Try.ntmps12 rfl ?_
  refine xp_seq ?_
  refine xp_region rfl ?_
  refine op_pure (pv_assign (v := .slice _ _ _) rfl) ?_
  refine xp_seq ?_
  refine xp_region rfl ?_
  refine op_pure (pv_move (v := .int .i64 _) rfl) ?_
  refine op_pure (pv_max rfl rfl) ?_
  refine op_makeSlice (len := n) (cap := n) (zc := [.int .i64 0]) rfl rfl (by omega) (by omega) rfl rfl rfl rfl rfl (by omega) (by omega) rfl fun o ho => ?_
  refine wp_norm [_, _] rfl ?_
  have e0 : (List.replicate n (0 : Int)).flatMap intC ++ [] = (List.range (n * 1)).map fun i => [Value.int .i64 0][i % 1]! := by rw [List.append_nil, zeros_int, zeros_map]
  refine op_pure (pv_assign (v := .slice _ _ _) rfl) ?_
  refine xp_seq ?_
  refine xp_seq ?_
  refine xp_region rfl ?_
  refine op_pure (pv_assign (v := .int .i64 _) rfl) ?_
  refine xp_block ?_
  refine xp_loopL [6, 7, 11, 12, 13, 14, 15, 16, 17, 18, 19, 20, 21, 22, 23, 24, 25, 26, 27, 28, 29] 2 (α := Nat × Nat × List Int) (fun ⟨i, y, l⟩ => [(6, .int .i64 i)]) (fun ⟨i, y, l⟩ L => (L.set 0 (some (b, .cells #[.int .u64 (y : Int)] 76 (0, 0)))).set 1 (some (o, .cells (l.flatMap intC ++ []).toArray 3 (0, 0)))) (fun ⟨i, y, l⟩ h_i => i ≤ n ∧ l.length = n ∧ MixP l i) (fun ⟨i, y, l⟩ => n - i) ((0, x, List.replicate n 0)) ⟨rfl, trivial⟩ (by exact congrArg (fun z : List Value => [some (b, Obj.cells #[.int .u64 (x : Int)] 76 (0, 0)), some (o, Obj.cells z.toArray 3 (0, 0))]) e0) (⟨Nat.zero_le _, by simp, MixP.zero _⟩) ?_
  rintro ⟨i, y, l⟩ T1 h_i E_i J_i
  refine goes_norm [_, _] rfl ?_
  obtain ⟨K1, K2, K3⟩ := J_i
  refine xp_seq ?_
  refine xp_seq ?_
  refine xp_region rfl ?_
  refine op_pure (pv_move (v := .int .i64 _) rfl) ?_
  refine op_pure (pv_move (v := .int .i64 _) rfl) ?_
  refine op_pure (pv_of (v := .bool _) rfl) ?_
  refine xp_cond rfl (fun ht => ?_) (fun ht => ?_)
  · skip
    have hin : i < n := ltI ht
    have hil : i < l.length := by omega
    refine xp_skip ?_
    refine xp_seq ?_
    refine xp_block ?_
    refine xp_seq ?_
    refine xp_region rfl ?_
    refine op_pure (pv_move (v := .pointer (some ⟨b, 0, none⟩)) rfl) ?_
    refine op_pure (pv_move (v := .int .i64 _) rfl) ?_
    refine op_fnMM [] [_] [_] (vs := [.pointer _, .int .i64 _]) rfl rfl rfl ((Upto_ok b y i (by omega) h_i)) ?_
    rintro _ h2 _ E2 ⟨y2, k, rfl, rfl, k1, k2⟩
    refine wp_norm [_, _] rfl ?_
    obtain ⟨q, rfl⟩ : ∃ q : Nat, k = q := ⟨k.toNat, by omega⟩
    have hq : q ≤ i := by omega
    have hql : q < l.length := by omega
    have hlq : l[q]? = some (l.getD q 0) := by rw [List.getD_eq_getElem?_getD, List.getElem?_eq_getElem hql]; rfl
    refine op_pure (pv_assign (v := .int .i64 _) rfl) ?_
    refine xp_seq ?_
    refine xp_region rfl ?_
    refine op_pure (pv_move (v := .slice _ _ _) rfl) ?_
    refine op_pure (pv_move (v := .int .i64 _) rfl) ?_
    refine op_pure (pv_move (v := .slice _ _ _) rfl) ?_
    refine op_pure (pv_move (v := .int .i64 _) rfl) ?_
    refine op_pure (pv_index rfl rfl rfl rfl (by omega) (by omega)) ?_
    refine op_loadP 1 (v := .int .i64 (l.getD q 0)) (off := 0 + (q : Int).toNat * 1) rfl rfl rfl (by rw [show 0 + (q : Int).toNat * 1 = q * 1 + 0 from by omega, List.getElem?_toArray]; exact flat_at (j := 0) (v := .int .i64 (l.getD q 0)) intM hlq rfl ([] : List Value)) ?_
    refine op_pure (pv_index rfl rfl rfl rfl (by omega) (by omega)) ?_
    refine op_storeP 1 (m := 1) (v := .int .i64 _) (vs := [.int .i64 (l.getD q 0)]) (off := 0 + (i : Int).toNat * 1) (c' := (l.set i (l.getD q 0)).flatMap intC ++ []) rfl rfl rfl rfl rfl rfl (Nat.ble_eq_true_of_le (by rw [List.length_append, flat_len (m := 1) (fun _ _ => rfl)]; omega)) rfl (by rw [show 0 + (i : Int).toNat * 1 = i * 1 + 0 from by omega]; exact flat_wr intM hil (by simp) rfl []) ?_
    refine wp_norm [_, _] rfl ?_
    refine xp_region rfl ?_
    refine op_pure (pv_move (v := .slice _ _ _) rfl) ?_
    refine op_pure (pv_move (v := .int .i64 _) rfl) ?_
    refine op_pure (pv_move (v := .int .i64 _) rfl) ?_
    refine op_pure (pv_index rfl rfl rfl rfl (by omega) (by omega)) ?_
    refine op_storeP 1 (m := 1) (v := .int .i64 _) (vs := [.int .i64 (i : Int)]) (off := 0 + (q : Int).toNat * 1) (c' := (mixS l i q).flatMap intC ++ []) rfl rfl rfl rfl rfl rfl (Nat.ble_eq_true_of_le (by rw [List.length_append, flat_len (m := 1) (fun _ _ => rfl), List.length_set]; omega)) rfl (by rw [show 0 + (q : Int).toNat * 1 = q * 1 + 0 from by omega]; exact flat_wr intM (l := l.set i (l.getD q 0)) (by rw [List.length_set]; exact hql) (by simp) rfl []) ?_
    refine wp_norm [_, _] rfl ?_
    refine xp_region rfl ?_
    refine op_pure (pv_move (v := .int .i64 _) rfl) ?_
    refine op_pure (pv_arith rfl (by omega)) ?_
    refine op_pure (pv_assign (v := .int .i64 _) rfl) ?_
    refine ⟨(i + 1, y2, mixS l i q), ⟨rfl, trivial⟩, rfl, rfl, (Ext.trans E_i E2), fun h3 E3 => ⟨hin, by rw [mixS_len]; exact K2, K3.step hil hq⟩, by first | omega | (dsimp only; omega), ?_⟩
    repeat (first | exact off_base _ _ _ | refine off_upd (by decide) ?_ | refine off_updL rfl ?_ | refine off_mix rfl ?_)
  · skip
    have hie : i = n := by have := geI ht; omega
    subst hie
    refine goes_pub 1 rfl ?_
    intro h3 E3 p3
    refine xp_exit ?_
    refine xp_seq ?_
    refine xp_region rfl ?_
    refine op_pure (pv_move (v := .slice _ _ _) rfl) ?_
    refine op_pure (pv_assign (v := .slice _ _ _) rfl) ?_
    refine xp_ret ?_
    refine res_list (vs := [_]) Try.results12 ⟨resV_tmp rfl rfl, trivial⟩ fun V => ?_
    obtain ⟨h9, E9, e9, V9⟩ := wl_drop [_] [_] V
    refine ⟨h9, _, e9, V9, Ext.trans (Ext.trans E_i E3) E9, y, l, rfl, ⟨some ⟨o, 0, none⟩, i, by rw [K2]; rfl, ?_⟩, K3.order K2⟩
    rw [List.append_nil] at p3
    exact (row_of_block (enc := intC) (m := 1) (fun _ _ => rfl) p3).ext E9
theorem boolI {p q : Bool} (e : p = true ↔ q = true) : Value.bool p = Value.bool q := by rw [Bool.eq_iff_iff.2 e]
theorem sameInts_ok (a b : List Int) (A B : Option Addr) (ca cb : Nat) (h : AH) (Ra : Row h 1 intC A a) (Rb : Row h 1 intC B b) (ha : a.length < 2 ^ 40) :
    FnT Try.prog 14 #[.slice A a.length ca, .slice B b.length cb] h (fun v _ => v = .bool (decide (a = b))) := by
  refine call_body Try.func14 rfl Try.ntmps14 rfl ?_
  refine xp_seq ?_
  refine xp_region rfl ?_
  refine op_pure (pv_assign (v := .bool _) rfl) ?_
  refine xp_seq ?_
  refine xp_region rfl ?_
  refine op_pure (pv_move (v := .slice _ _ _) rfl) ?_
  refine op_pure (pv_len rfl rfl) ?_
  refine op_pure (pv_move (v := .slice _ _ _) rfl) ?_
  refine op_pure (pv_len rfl rfl) ?_
  refine op_pure (pv_of (v := .bool _) rfl) ?_
  refine op_pure (pv_assign (v := .bool _) rfl) ?_
  refine xp_seq ?_
  refine xp_seq ?_
  refine xp_region rfl ?_
  refine op_pure (pv_assign (v := .int .i64 _) rfl) ?_
  refine xp_block ?_
  refine xp_loopM [5, 6, 12, 13, 14, 15, 16, 17, 18, 19, 20, 21, 22, 23, 24, 25, 26, 27, 28, 29] 0 (fun k : Nat => [(5, .bool (decide (a.length = b.length ∧ a.take k = b.take k))), (6, .int .i64 k)]) (fun k D L h' => D = [] ∧ k ≤ a.length ∧ Ext h h' ∧ L = []) (fun k => a.length - k) 0 ⟨by refine boolI ?_; simp; omega, rfl, trivial⟩ ⟨rfl, Nat.zero_le _, Ext.refl h, rfl⟩ ?_
  rintro k T D' L' h' ⟨rfl, hk, E, rfl⟩
  refine xp_seq ?_
  refine xp_seq ?_
  refine xp_region rfl ?_
  refine op_pure (pv_move (v := .bool _) rfl) ?_
  refine op_pure (pv_move (v := .bool _) rfl) ?_
  by_cases hp : a.length = b.length ∧ a.take k = b.take k
  · have hb : decide (a.length = b.length ∧ a.take k = b.take k) = true := by simpa using hp
    refine guard_yes rfl hb ?_
    refine op_pure (pv_move (v := .int .i64 _) rfl) ?_
    refine guard_yes rfl hb ?_
    refine op_pure (pv_move (v := .slice _ _ _) rfl) ?_
    refine guard_yes rfl hb ?_
    refine op_pure (pv_len rfl rfl) ?_
    refine guard_yes rfl hb ?_
    refine op_pure (pv_of (v := .bool _) rfl) ?_
    refine op_pure (pv_pickT rfl hb (v := .bool _) rfl) ?_
    refine xp_cond rfl (fun ht => ?_) (fun ht => ?_)
    · skip
      have hlt : k < a.length := by simpa using ht
      have hlt2 : k < b.length := by omega
      obtain ⟨g, off, rfl, hc⟩ := (Ra.ext E).at (by omega) hlt
      obtain ⟨g2, off2, rfl, hc2⟩ := (Rb.ext E).at (by omega) hlt2
      refine xp_skip ?_
      refine xp_seq ?_
      refine xp_block ?_
      refine xp_dw [] rfl rfl rfl ?_
      refine dw_pure (i := 0) rfl (by decide +kernel) (pv_move (v := .slice _ _ _) rfl) ?_
      refine dw_pure (i := 1) rfl (by decide +kernel) (pv_move (v := .int .i64 _) rfl) ?_
      refine dw_pure (i := 2) rfl (by decide +kernel) (pv_index rfl rfl rfl rfl (by omega) (by omega)) ?_
      refine dw_load (i := 3) rfl (by decide +kernel) ?_
      refine op_load rfl rfl (hc 0 (.int .i64 a[k]) rfl) ?_
      refine dw_pure (i := 4) rfl (by decide +kernel) (pv_move (v := .slice _ _ _) rfl) ?_
      refine dw_pure (i := 5) rfl (by decide +kernel) (pv_move (v := .int .i64 _) rfl) ?_
      refine dw_pure (i := 6) rfl (by decide +kernel) (pv_index rfl rfl rfl rfl (by omega) (by omega)) ?_
      refine dw_load (i := 7) rfl (by decide +kernel) ?_
      refine op_load rfl rfl (hc2 0 (.int .i64 b[k]) rfl) ?_
      refine dw_pure (i := 8) rfl (by decide +kernel) (pv_of (v := .bool _) rfl) ?_
      refine dw_pure (i := 9) rfl (by decide +kernel) (pv_assign (v := .bool _) rfl) ?_
      refine dw_end rfl ?_
      refine xp_region rfl ?_
      refine op_pure (pv_move (v := .int .i64 _) rfl) ?_
      refine op_pure (pv_arith rfl (by omega)) ?_
      refine op_pure (pv_assign (v := .int .i64 _) rfl) ?_
      refine ⟨k + 1, ⟨?_, rfl, trivial⟩, fun h3 E3 => ⟨rfl, by omega, E.trans E3, rfl⟩, by omega, ?_⟩
      · refine boolI ?_
        have e1 := List.take_succ_eq_append_getElem hlt
        have e2 := List.take_succ_eq_append_getElem hlt2
        have e3 : (a.length = b.length ∧ b.take k ++ [a[k]] = b.take k ++ [b[k]]) ↔ a[k] = b[k] := ⟨fun e => by have := List.append_cancel_left e.2; injection this, fun e => ⟨hp.1, by rw [e]⟩⟩
        rw [e1, e2, hp.2, decide_eq_true_iff, e3]
        simp
      · repeat (first | exact off_base _ _ _ | refine off_upd (by decide) ?_ | refine off_updL rfl ?_ | refine off_mix rfl ?_)
    · skip
      refine xp_exit ?_
      refine xp_seq ?_
      refine xp_region rfl ?_
      refine op_pure (pv_move (v := .bool _) rfl) ?_
      refine op_pure (pv_assign (v := .bool _) rfl) ?_
      refine xp_ret ?_
      refine res_list (vs := [_]) Try.results14 ⟨resV_tmp rfl rfl, trivial⟩ fun V => ?_
      refine ⟨E.trans (ext_wl V), boolI ?_⟩
      have : k = a.length := by simp at ht; omega
      subst this
      have h2 := hp.2
      rw [hp.1, List.take_length, ← hp.1, List.take_length] at h2
      simp [h2]
  · have hb : decide (a.length = b.length ∧ a.take k = b.take k) = false := by simpa using hp
    refine guard_no rfl hb ?_
    refine guard_no rfl hb ?_
    refine guard_no rfl hb ?_
    refine guard_no rfl hb ?_
    refine op_pure (pv_pickF rfl hb (v := .bool _) rfl) ?_
    refine xp_cond rfl (fun ht => ?_) (fun ht => ?_)
    · cases ht
    · skip
      refine xp_exit ?_
      refine xp_seq ?_
      refine xp_region rfl ?_
      refine op_pure (pv_move (v := .bool _) rfl) ?_
      refine op_pure (pv_assign (v := .bool _) rfl) ?_
      refine xp_ret ?_
      refine res_list (vs := [_]) Try.results14 ⟨resV_tmp rfl rfl, trivial⟩ fun V => ?_
      refine ⟨E.trans (ext_wl V), boolI ?_⟩
      have : a ≠ b := fun e => hp (by rw [e]; exact ⟨rfl, rfl⟩)
      simp [this]
      exact fun x y => hp ⟨x, y⟩
end
end Go.Proofs.Ytlfbcimcehcomaa
/- Walks of package rod: all hands of a machine. Conditions: as each theorem states. -/
namespace Go.Proofs.Ytlfbcimcehcomaa
open Go Go.HL Go.Proofs Go.Wx Go.Rd
section
variable [Lvl]
set_option maxRecDepth 100000
def pairsM (ls bs : List (List Int)) : List HandP := ls.flatMap fun b => bs.map fun o => ⟨b, o⟩
/-- All hands of a machine, in order. -/
def handsM (m : MachP) : List HandP := pairsM (setsM m.buttons.length) (setsM m.regs.toNat)
/-- A hand, as a value. -/
def TA (h : AH) (a : HandP) (v : Value) : Prop := HandV h a v
end
end Go.Proofs.Ytlfbcimcehcomaa
/- Walks of package rod: the next test. Conditions: as each theorem states. -/
namespace Go.Proofs.Ytlfbcimcehcomaa
open Go Go.HL Go.Proofs Go.Wx Go.Rd
section
variable [Lvl]
set_option maxRecDepth 100000
def sndL (m : MachP) (ms : List (List FaultP)) (a : HandP) : List Nat := ms.map fun l => soundsB m l a
/-- The most that sound alike, of the first k. -/
def worstN (ss : List Nat) : Nat → Nat
  | 0 => 0
  | k + 1 => max (worstN ss k) ((ss.take (k + 1)).reverse.count (ss.getD k 0))
def bestS (m : MachP) (ms : List (List FaultP)) (q : HandP × Nat) (a : HandP) : HandP × Nat := if worstN (sndL m ms a) ms.length < q.2 then (a, worstN (sndL m ms a) ms.length) else q
def bestN (m : MachP) (ms : List (List FaultP)) (k : Nat) : HandP × Nat := ((handsM m).take k).foldl (bestS m ms) (⟨[], []⟩, ms.length)
/-- Machines with faults, as elements. -/
def TB (m : MachP) (h : AH) (l : List FaultP) (c : List Value) : Prop := ∃ y, c = [y] ∧ BrkV h m l y
theorem TB.mono (m : MachP) : Mono (TB m) := fun h h' l c e ⟨y, hc, r⟩ => ⟨y, hc, r.ext e⟩
/-- What holds between the hands. -/
def TestI (m : MachP) (ms : List (List FaultP)) (p2 p10 : Nat × Obj) (b4 b5 l : Nat) (r : Loop) (h0 : AH) (k : Nat) (h : AH) (M : Pv) : Prop :=
  Ext h0 h ∧ ∃ (HA OA : Option Addr) (cH cO : Nat), HandR h HA OA (bestN m ms k).1 ∧
    M = [some p2, some (b4, .cells #[.slice HA (bestN m ms k).1.buttons.length cH, .slice OA (bestN m ms k).1.on.length cO] 37 (0, 0)), some (b5, .cells #[.int .i64 ((bestN m ms k).2 : Nat)] 3 (0, 0)), some p10, none, some (l, obL r .ready none)]
theorem TestI.ext {m : MachP} {ms : List (List FaultP)} {p2 p10 : Nat × Obj} {b4 b5 l : Nat} {r : Loop} {h0 : AH} {k : Nat} {h h' : AH} {M : Pv} (I : TestI m ms p2 p10 b4 b5 l r h0 k h M) (E : Ext h h') : TestI m ms p2 p10 b4 b5 l r h0 k h' M := by
  obtain ⟨E0, HA, OA, cH, cO, RH, e⟩ := I
  exact ⟨E0.trans E, HA, OA, cH, cO, RH.ext E, e⟩
end
end Go.Proofs.Ytlfbcimcehcomaa
/- Walks of package voice: whether tongues keep a law. Conditions: as each theorem states. -/
namespace Go.HL
open Go
variable [Lvl]
section
variable {P : Program} {n : Nat} {ops : Array Oper} {os : List Oper} {K : Sl → Pv → AH → Prop} {E : Value → Sl → Pv → AH → Prop} {S : Sl} {L : Pv} {h : AH} {d : Option Tmp} {ty : TypeId} {ps : String} {af : Array Edge}
theorem op_lenMap (i : Nat) {t kt et : TypeId} {x : Operand} {m : Nat} {l : List (Value × Value)} (hx : ev n S x = .map (some m)) (ht : pev P (underlying t) = some (.map kt et)) (hi : L[i]? = some (some (m, mapO l)))
    (k : wpL P n ops os K E (put S d (.int .i64 (l.length : Int))) L h) : wpL P n ops (⟨d, .call ⟨.builtin .len, #[x], #[t]⟩, ty, ps, af, none⟩ :: os) K E S L h := by
  refine op_of fun V => ?_
  unfold opW
  rw [exec_builtin (xs := [x]) (vs := [.map (some m)]) (by simp [hx])]
  refine dem_bind (dem_pev_bind ht ?_)
  simp only
  refine dem_bind ?_
  refine ⟨_, wl_get V hi, trivial, ?_⟩
  have e : (mapEs l 0).toArray.size = l.length := by simp [mapEs_length]
  have fin : ∃ L' h', wl h L = wl h' L' ∧ Valid h' L' ∧ wpL P n ops os K E (put S d (goInt ((mapEs l 0).toArray.size : Int))) L' h' := ⟨L, h, rfl, V, by rw [e]; exact k⟩
  exact fin
end
theorem encs_get' {α : Type} {enc : α → Value} {l : List (α × Value)} {j : Nat} {p : Value × Value} (h : (encs enc l)[j]? = some p) : ∃ y v, l[j]? = some (y, v) ∧ p = (enc y, v) := by
  unfold encs at h
  rw [List.getElem?_map] at h
  cases hl : l[j]? with
  | none => rw [hl] at h; cases h
  | some q => rw [hl] at h; simp at h; exact ⟨q.1, q.2, rfl, h.symm⟩
theorem snoc_nodup' {sn : List Nat} {j : Nat} (h : sn.Nodup) (hj : j ∉ sn) : (sn ++ [j]).Nodup := by
  rw [List.nodup_append]
  exact ⟨h, by simp, fun a ha b hb e => by simp at hb; subst hb; subst e; exact hj ha⟩
theorem swap25 (a b c d e f g : Option (Nat × Obj)) : (cl [a, b, c, d, e, f, g]).Perm (cl [a, b, f, d, e, c, g]) := by
  unfold cl
  refine List.Perm.filterMap _ ?_
  refine List.Perm.cons _ (List.Perm.cons _ ?_)
  have h1 : (c :: [d, e] ++ f :: [g]).Perm (f :: (c :: [d, e] ++ [g])) := List.perm_middle
  refine h1.trans (List.Perm.cons _ ?_)
  exact (List.perm_middle (l₁ := [d, e]) (a := c) (l₂ := [g])).symm
end Go.HL
namespace Go.Vo
open Go Go.HL Go.Wx Go.Rd
variable [Lvl]
/-- The last tongue's values that can be, the tongues being given from the last one on. -/
def reach (w : LawP) (due : Int) : List SndP → Exa → Prop
  | [], _ => False
  | [s], y => y ∈ exM s
  | s :: t :: r, y => y ∈ exM s ∧ ∃ x, reach w due (t :: r) x ∧ agreeM w due (y.1 - x.1) (y.2 - x.2) = true
def sureM (w : LawP) (due : Int) : List SndP → Bool
  | [] => true
  | [_] => true
  | s :: t :: r => sureM w due (t :: r) && decide (offM w.press due t s ≤ w.span)
theorem reach_mem {w : LawP} {due : Int} {s : SndP} {r : List SndP} {y : Exa} (h : reach w due (s :: r) y) : y ∈ exM s := by
  cases r with
  | nil => exact h
  | cons t r => exact h.1
theorem exBeq (a b : Exa) : (a.1 == b.1 && a.2 == b.2) = decide (a = b) := by
  obtain ⟨a1, a2⟩ := a
  obtain ⟨b1, b2⟩ := b
  rw [Bool.eq_iff_iff]
  simp
end Go.Vo
namespace Go.Proofs.Ytlfbcimcehcomaa
open Go Go.HL Go.Proofs Go.Wx Go.Rd Go.Vo
section
variable [Lvl]
set_option maxRecDepth 100000
theorem exK : KeyT Try.prog 139 exV := by
  refine ⟨fun e a => ?_, fun a b => ?_, fun td ht a b => ?_, ⟨_, rfl⟩, fun a => by simp [Instr.sameBits, exV]⟩
  · refine chk_array (len := 2) rfl rfl ?_
    intro i hi
    match i, hi with
    | 0, _ => exact ⟨_, rfl, chk_int rfl⟩
    | 1, _ => exact ⟨_, rfl, chk_int rfl⟩
  · have h1 := eq_array (P := Try.prog) (t := 139) (d := 9999) (len := 2) (xs := #[.int .i64 a.1, .int .i64 a.2]) (ys := #[.int .i64 b.1, .int .i64 b.2]) (rs := [a.1 == b.1, a.2 == b.2]) rfl rfl rfl ?_
    · refine h1.trans ?_
      rw [← exBeq]
      simp
    · intro i r hr
      match i, hr with
      | 0, hr => cases hr; exact ⟨_, _, rfl, rfl, eq_int rfl _ _⟩
      | 1, hr => cases hr; exact ⟨_, _, rfl, rfl, eq_int rfl _ _⟩
      | i + 2, hr => simp at hr
  · cases ht
    left
    rfl
set_option maxHeartbeats 8000000 in
theorem keeps_ok (w : LawP) (W : LawB w) (due : Int) (hd : 0 ≤ due ∧ due ≤ 30) (ts : List SndP) (hts : ∀ s ∈ ts, SndB s) (h4 : ts.length ≤ 4) (A : Option Addr) (cA : Nat) (h : AH) (R : Row h 4 sndC A ts) :
    FnT Try.prog 35 #[lawV w, .int .i64 due, .slice A ts.length cA] h (fun v _ => ∃ e : Bool, v = .int .i64 (if sureM w due ts.reverse then 1 else if e then 2 else 3) ∧ (e = true ↔ ∀ y, ¬ reach w due ts.reverse y)) := by
  unfold lawV
  refine call_body Try.func35 rfl Try.ntmps35 rfl ?_
  refine xp_seq ?_
  refine xp_region rfl ?_
  refine op_box (v := .agg #[.int .i64 _, .int .i64 _, .int .i64 _, .int .i64 _]) (cs := [_, _, _, _]) rfl rfl fun b3 hb3 => ?_
  refine wp_norm [_] rfl ?_
  refine op_box (v := .int .i64 _) (cs := [_]) rfl rfl fun b4 hb4 => ?_
  refine wp_norm [_, _] rfl ?_
  refine op_pure (pv_assign (v := .int .i64 _) rfl) ?_
  refine xp_seq ?_
  refine xp_region rfl ?_
  refine op_pure (pv_assign (v := .bool _) rfl) ?_
  refine xp_seq ?_
  refine xp_region rfl ?_
  refine op_makeMap fun b15 hb15 => ?_
  refine wp_norm [_, _, _] rfl ?_
  refine op_alloc (cs := [_]) rfl rfl fun b8 hb8 => ?_
  refine wp_norm [_, _, _, _] rfl ?_
  refine op_storeP 3 (v := .map _) (vs := [_]) (c' := [_]) rfl rfl rfl rfl rfl rfl rfl rfl rfl ?_
  refine wp_norm [_, _, _, _] rfl ?_
  refine xp_seq ?_
  refine xp_seq ?_
  refine xp_region rfl ?_
  refine op_pure (pv_move (v := .slice _ _ _) rfl) ?_
  refine op_pure (pv_len rfl rfl) ?_
  refine op_pure (pv_move (v := .int .i64 _) rfl) ?_
  refine xp_block ?_
  -- L = b3 b4 b15 b8
  refine xp_loopD [7, 9, 10, 11, 12, 13, 14, 18, 19, 20, 21, 22, 23, 24, 25, 26, 27, 28, 29, 30, 31, 32, 33, 34, 35, 36, 37, 38, 39, 40, 41, 42, 43, 44, 45, 46, 47, 48, 49, 50, 51, 52, 53, 54, 55, 56, 57, 58, 59, 60, 61, 62, 63, 64, 65, 66, 67, 68, 69, 70, 71, 72] 4 (α := Nat × Bool × Nat × List (Exa × Value)) (fun ⟨i, sure, m, nw⟩ => [(18, .int .i64 i), (7, .bool sure)]) (fun ⟨i, sure, m, nw⟩ L => (L.set 2 (some (m, mapO (encs exV nw)))).set 3 (some (b8, .cells #[.map (some m)] 135 (0, 0)))) (fun ⟨i, sure, m, nw⟩ h_i => i ≤ ts.length ∧ sure = sureM w due (ts.take i).reverse ∧ ∀ y, y ∈ nw.map (·.1) ↔ reach w due (ts.take i).reverse y) (fun ⟨i, sure, m, nw⟩ => ts.length - i) ((0, true, b15, [])) ⟨rfl, rfl, trivial⟩ (rfl) (⟨Nat.zero_le _, rfl, fun y => ⟨fun h => absurd h List.not_mem_nil, fun h => h.elim⟩⟩) (rfl) ?_
  rintro ⟨i, sure, m, nw⟩ T1 h_i E_i J_i D_i hD_i
  refine goes_norm [_, _, _, _] rfl ?_
  obtain ⟨K1, K2, K3⟩ := J_i
  refine xp_seq ?_
  refine xp_region rfl ?_
  refine op_pure (pv_of (v := .bool _) rfl) ?_
  refine xp_seq ?_
  refine xp_cond rfl (fun hk => ?_) (fun hk => ?_)
  · skip
    have hil : i < ts.length := ltI hk
    obtain ⟨g, off, hA, hc⟩ := (R.ext E_i).at (by omega) hil
    have SB := hts _ (List.getElem_mem hil)
    refine xp_skip ?_
    refine xp_seq ?_
    refine xp_block ?_
    refine xp_seq ?_
    refine xp_region rfl ?_
    refine op_pure (pv_move (v := .int .i64 _) rfl) ?_
    refine op_pure (pv_indexE rfl hA rfl rfl rfl (by omega) (by omega)) ?_
    refine op_loadA rfl rfl rfl rfl (hc) ?_
    refine op_alloc (cs := [_, _, _, _]) rfl rfl fun b10 hb10 => ?_
    refine wp_norm [_, _, _, _, _] rfl ?_
    refine op_pure (pv_assign (v := .int .i64 _) rfl) ?_
    refine op_storeP 4 (v := .agg #[.int .i64 _, .int .i64 _, .int .i64 _, .int .i64 _]) (vs := [_, _, _, _]) (c' := [_, _, _, _]) rfl rfl rfl rfl rfl rfl rfl rfl rfl ?_
    refine wp_norm [_, _, _, _, _] rfl ?_
    refine xp_seq ?_
    refine xp_region rfl ?_
    refine op_makeMap fun b23 hb23 => ?_
    refine wp_norm [_, _, _, _, _, _] rfl ?_
    refine op_alloc (cs := [_]) rfl rfl fun b11 hb11 => ?_
    refine wp_norm [_, _, _, _, _, _, _] rfl ?_
    refine op_storeP 6 (v := .map _) (vs := [_]) (c' := [_]) rfl rfl rfl rfl rfl rfl rfl rfl rfl ?_
    refine wp_norm [_, _, _, _, _, _, _] rfl ?_
    refine xp_seq ?_
    refine xp_seq ?_
    refine xp_region rfl ?_
    refine op_pure (pv_move (v := .int .i64 _) rfl) ?_
    refine op_pure (pv_of (v := .bool _) rfl) ?_
    by_cases hi0 : i = 0
    · skip
      subst hi0
      refine xp_condT rfl (rfl) ?_
      refine xp_seq ?_
      refine xp_seq ?_
      refine xp_region rfl ?_
      refine op_loadPA 4 (vs := [.int .i64 _, .int .i64 _, .int .i64 _, .int .i64 _]) rfl rfl rfl rfl rfl ?_
      refine op_fn (caps := []) (vs := [sndV ts[0]]) rfl rfl rfl (all_ok ts[0] SB h_i) ?_
      rintro y f1 F1 It
      refine xp_block ?_
      refine xp_rangeFunc rfl ?_
      intro r l lp htm hpr has hbd V0
      refine CallV.mono (It (.yield l) #[] #[] (fun k h' M' => Ext f1 h' ∧ M' = [some (b3, .cells #[.int .i64 w.first, .int .i64 w.step, .int .i64 w.span, .int .i64 w.press] 31 (0, 0)), some (b4, .cells #[.int .i64 due] 3 (0, 0)), some (m, mapO (encs exV nw)), some (b8, .cells #[.map (some m)] 135 (0, 0)), some (b10, .cells #[.int .i64 ts[0].tone.mn, .int .i64 ts[0].tone.mx, .int .i64 ts[0].slope.mn, .int .i64 ts[0].slope.mx] 85 (0, 0)), some (b23, mapO (encs exV (insAll ((exM ts[0]).take k)))), some (b11, .cells #[.map (some b23)] 135 (0, 0)), some (l, obL lp .ready none)]) (fun _ _ => False) (fun k h1 h2 M E I => ⟨I.1.trans E, I.2⟩) (fun _ _ _ _ f => f) ?_ f1 _ (Ext.refl _) ⟨Ext.refl _, rfl⟩ V0) ?_ (fun _ _ y => y)
      · rintro k x v hcl M' hk hT ⟨E8, rfl⟩
        have hT : v = exV x := hT
        subst hT
        intro V
        refine callV_yield (wl_get V (i := 7) rfl) hpr rfl htm has hbd ?_
        refine round_enter (i := 7) (r := lp) ?_ V
        refine goes_norm [_, _, _, _, _, _, _, _] rfl ?_
        refine xp_region rfl ?_
        refine op_alloc (cs := [_, _]) rfl rfl fun b12 hb12 => ?_
        refine wp_norm [_, _, _, _, _, _, _, _, _] rfl ?_
        refine op_storeP 8 (v := .agg #[.int .i64 _, .int .i64 _]) (vs := [_, _]) (c' := [_, _]) rfl rfl rfl rfl rfl rfl rfl rfl rfl ?_
        refine wp_norm [_, _, _, _, _, _, _, _, _] rfl ?_
        refine ⟨rfl, none, rfl, ?_⟩
        refine goes_norm [_, _, _, _, _, _, _, _, _] rfl ?_
        refine xp_block ?_
        refine xp_region rfl ?_
        refine op_loadP 6 (v := .map _) rfl rfl rfl rfl ?_
        refine op_loadPA 8 (vs := [.int .i64 _, .int .i64 _]) rfl rfl rfl rfl rfl ?_
        refine op_mapUpdate 5 (a := x) (l := insAll ((exM ts[0]).take k)) exK rfl rfl rfl rfl rfl ?_
        refine wp_norm [_, _, _, _, _, _, _, _, _] rfl ?_
        intro V2
        have V3 := valid_set (o' := obL lp .ready none) V2 (i := 7) rfl
        obtain ⟨h9, E9, e9, V9⟩ := wl_drop [_] [_, _, _, _, _, _, _, _] V3
        have hkx : k < (exM ts[0]).length := (List.getElem?_eq_some_iff.1 hk).1
        have hx : (exM ts[0])[k] = x := (List.getElem?_eq_some_iff.1 hk).2
        refine ⟨rfl, ⟨_, _, rfl⟩, h9, _, e9, V9, Ext.trans (Ext.refl _) E9, .inl ⟨rfl, Ext.trans E8 (Ext.trans (Ext.refl _) E9), ?_⟩⟩
        rw [take_snoc hkx, insAll_snoc, hx]
        rfl
      · rintro v H ⟨h', M', rfl, V', E', ⟨E8, rfl⟩ | f⟩
        · refine ⟨h', [_, _, _, _, _, _, _], .ready, none, rfl, V', by simp, fun h'' E'' => ?_⟩
          rw [List.take_length]
          refine goes_norm [_, _, _, _, _, _, _] rfl ?_
          refine goes_turn (fun V => wl_perm (swap25 _ _ _ _ _ _ _) V) ?_
          refine xp_seq ?_
          refine xp_region rfl ?_
          refine op_loadP 6 (v := .map _) rfl rfl rfl rfl ?_
          refine op_storeP 3 (v := .map _) (vs := [_]) (c' := [_]) rfl rfl rfl rfl rfl rfl rfl rfl rfl ?_
          refine wp_norm [_, _, _, _, _, _, _] rfl ?_
          refine xp_exit ?_
          refine xp_region rfl ?_
          refine op_pure (pv_arith rfl (by omega)) ?_
          refine op_pure (pv_move (v := .int .i64 _) rfl) ?_
          have hrev : (ts.take 1).reverse = [ts[0]] := by rw [show (1 : Nat) = 0 + 1 from rfl, take_snoc hil]; rfl
          refine ⟨(1, sure, b23, insAll (exM ts[0])), ⟨rfl, rfl, trivial⟩, (by first | exact hD_i | exact allMarks_cons hD_i), rfl, (Ext.trans (Ext.trans (Ext.trans E_i F1) E') E''), fun h3 E3 => ⟨hil, by rw [K2, hrev]; rfl, fun y => by rw [hrev]; exact insAll_keys _ y⟩, by first | omega | (dsimp only; omega), ?_⟩
          repeat (first | exact off_base _ _ _ | refine off_upd (by decide) ?_ | refine off_updL rfl ?_ | refine off_mix rfl ?_)
        · exact f.elim
    · skip
      have hip : i - 1 < ts.length := by omega
      obtain ⟨g2, off2, hA2, hc2⟩ := (R.ext E_i).at (by omega) hip
      have SB2 := hts _ (List.getElem_mem hip)
      have hrv : (ts.take i).reverse = ts[i - 1] :: (ts.take (i - 1)).reverse := by
        have := take_snoc (l := ts) hip
        rw [show i - 1 + 1 = i by omega] at this
        rw [this, List.reverse_append]; rfl
      have hrv2 : (ts.take (i + 1)).reverse = ts[i] :: ts[i - 1] :: (ts.take (i - 1)).reverse := by
        rw [take_snoc hil, List.reverse_append, hrv]; rfl
      refine xp_condF rfl ((by simp; omega)) ?_
      refine xp_skip ?_
      refine xp_cutB [7, 32, 33, 34, 35, 36, 37, 38, 39, 40, 41, 42, 43, 44, 45, 46] 7 (α := Bool) (fun s2 => [(7, .bool s2)]) (fun s2 L => L) (fun s2 h_s2 => s2 = (sure && decide (offM w.press due ts[i - 1] ts[i] ≤ w.span))) ?_ ?_
      · skip
        cases sure with
        | true =>
          refine xp_dw [] rfl rfl rfl ?_
          refine dw_pure (i := 0) rfl (by decide +kernel) (pv_move (v := .bool _) rfl) ?_
          refine dw_pure (i := 1) rfl (by decide +kernel) (pv_move (v := .bool _) rfl) ?_
          refine dw_loadG (i := 2) rfl (by decide +kernel) rfl rfl ?_
          refine op_loadPA 0 (vs := [.int .i64 _, .int .i64 _, .int .i64 _, .int .i64 _]) rfl rfl rfl rfl rfl ?_
          refine dw_loadG (i := 3) rfl (by decide +kernel) rfl rfl ?_
          refine op_loadP 1 (v := .int .i64 _) rfl rfl rfl rfl ?_
          refine dw_pureG (i := 4) rfl (by decide +kernel) rfl rfl (pv_move (v := .slice _ _ _) rfl) ?_
          refine dw_pureG (i := 5) rfl (by decide +kernel) rfl rfl (pv_move (v := .int .i64 _) rfl) ?_
          refine dw_pureG (i := 6) rfl (by decide +kernel) rfl rfl (pv_val (v' := .int .i64 ((i - 1 : Nat) : Int)) (congrArg (Value.int .i64) (by omega)) (pv_arith rfl (by omega))) ?_
          refine dw_pureG (i := 7) rfl (by decide +kernel) rfl rfl (pv_indexE rfl hA2 rfl rfl rfl (by omega) (by omega)) ?_
          refine dw_loadG (i := 8) rfl (by decide +kernel) rfl rfl ?_
          refine op_loadA rfl rfl rfl rfl (hc2) ?_
          refine dw_loadG (i := 9) rfl (by decide +kernel) rfl rfl ?_
          refine op_loadPA 4 (vs := [.int .i64 _, .int .i64 _, .int .i64 _, .int .i64 _]) rfl rfl rfl rfl rfl ?_
          refine dw_pureG (i := 11) rfl (by decide +kernel) rfl rfl (pv_fieldAddr rfl rfl rfl rfl 2 rfl) ?_
          refine dw_loadG (i := 12) rfl (by decide +kernel) rfl rfl ?_
          refine op_loadP 0 (v := .int .i64 _) rfl rfl rfl rfl ?_
          refine dw_effG (i := 10) rfl (by decide +kernel) rfl rfl ?_
          refine op_fn (caps := []) (vs := [lawV w, .int .i64 due, sndV ts[i - 1], sndV ts[i]]) rfl rfl rfl (off_ok w W due hd ts[i - 1] ts[i] SB2 SB h_i) ?_
          rintro _ e1 E1 rfl
          refine ⟨ext_wlm E1 _, ?_⟩
          refine dw_pureG (i := 13) rfl (by decide +kernel) rfl rfl (pv_of (v := .bool _) rfl) ?_
          refine dw_pure (i := 14) rfl (by decide +kernel) (pv_pickT rfl rfl (v := .bool _) rfl) ?_
          refine dw_pure (i := 15) rfl (by decide +kernel) (pv_assign (v := .bool _) rfl) ?_
          refine dw_end rfl ?_
          refine ⟨_, ⟨rfl, trivial⟩, rfl, rfl, E1, fun h3 E3 => by rw [Bool.true_and], ?_⟩
          repeat (first | exact off_refl _ _ | exact off_base _ _ _ | refine off_upd (by decide) ?_ | refine off_updL rfl ?_ | refine off_mix rfl ?_)
        | false =>
          refine xp_dw [] rfl rfl rfl ?_
          refine dw_pure (i := 0) rfl (by decide +kernel) (pv_move (v := .bool _) rfl) ?_
          refine dw_pure (i := 1) rfl (by decide +kernel) (pv_move (v := .bool _) rfl) ?_
          refine dw_skip (i := 2) rfl (by decide +kernel) rfl rfl ?_
          refine dw_skip (i := 3) rfl (by decide +kernel) rfl rfl ?_
          refine dw_skip (i := 4) rfl (by decide +kernel) rfl rfl ?_
          refine dw_skip (i := 5) rfl (by decide +kernel) rfl rfl ?_
          refine dw_skip (i := 6) rfl (by decide +kernel) rfl rfl ?_
          refine dw_skip (i := 7) rfl (by decide +kernel) rfl rfl ?_
          refine dw_skip (i := 8) rfl (by decide +kernel) rfl rfl ?_
          refine dw_skip (i := 9) rfl (by decide +kernel) rfl rfl ?_
          refine dw_skip (i := 11) rfl (by decide +kernel) rfl rfl ?_
          refine dw_skip (i := 12) rfl (by decide +kernel) rfl rfl ?_
          refine dw_skip (i := 10) rfl (by decide +kernel) rfl rfl ?_
          refine dw_skip (i := 13) rfl (by decide +kernel) rfl rfl ?_
          refine dw_pure (i := 14) rfl (by decide +kernel) (pv_pickF rfl rfl (v := .bool _) rfl) ?_
          refine dw_pure (i := 15) rfl (by decide +kernel) (pv_assign (v := .bool _) rfl) ?_
          refine dw_end rfl ?_
          refine ⟨false, ⟨rfl, trivial⟩, rfl, rfl, (Ext.refl _), fun h3 E3 => rfl, ?_⟩
          repeat (first | exact off_refl _ _ | exact off_base _ _ _ | refine off_upd (by decide) ?_ | refine off_updL rfl ?_ | refine off_mix rfl ?_)
      · rintro s2 T2 h_s2 E_s2 J_s2
        refine goes_norm [_, _, _, _, _, _, _] rfl ?_
        subst J_s2
        refine xp_seq ?_
        refine xp_seq ?_
        refine xp_region rfl ?_
        refine op_loadPA 4 (vs := [.int .i64 _, .int .i64 _, .int .i64 _, .int .i64 _]) rfl rfl rfl rfl rfl ?_
        refine op_fn (caps := []) (vs := [sndV ts[i]]) rfl rfl rfl (all_ok ts[i] SB h_s2) ?_
        rintro y f1 F1 It
        refine xp_block ?_
        refine xp_rangeFunc rfl ?_
        intro r l lp htm hpr has hbd V0
        refine CallV.mono (It (.yield l) #[] #[] (fun k h' M' => Ext f1 h' ∧ ∃ l2, M' = [some (b3, .cells #[.int .i64 w.first, .int .i64 w.step, .int .i64 w.span, .int .i64 w.press] 31 (0, 0)), some (b4, .cells #[.int .i64 due] 3 (0, 0)), some (m, mapO (encs exV nw)), some (b8, .cells #[.map (some m)] 135 (0, 0)), some (b10, .cells #[.int .i64 ts[i].tone.mn, .int .i64 ts[i].tone.mx, .int .i64 ts[i].slope.mn, .int .i64 ts[i].slope.mx] 85 (0, 0)), some (b23, mapO (encs exV l2)), some (b11, .cells #[.map (some b23)] 135 (0, 0)), some (l, obL lp .ready none)] ∧ ∀ z, z ∈ l2.map (·.1) ↔ z ∈ (exM ts[i]).take k ∧ ∃ x, x ∈ nw.map (·.1) ∧ agreeM w due (z.1 - x.1) (z.2 - x.2) = true) (fun _ _ => False) (fun k h1 h2 M E I => ⟨I.1.trans E, I.2⟩) (fun _ _ _ _ f => f) ?_ f1 _ (Ext.refl _) ⟨Ext.refl _, [], rfl, fun z => ⟨fun h => absurd h List.not_mem_nil, fun h => absurd h.1 List.not_mem_nil⟩⟩ V0) ?_ (fun _ _ y => y)
        · rintro k x v hcl M' hk hT ⟨E8, l2, rfl, hl2⟩
          have hT : v = exV x := hT
          subst hT
          have hkx : k < (exM ts[i]).length := (List.getElem?_eq_some_iff.1 hk).1
          have hx : (exM ts[i])[k] = x := (List.getElem?_eq_some_iff.1 hk).2
          have xb := exM_bd SB (List.mem_of_getElem? hk)
          intro V
          refine callV_yield (wl_get V (i := 7) rfl) hpr rfl htm has hbd ?_
          refine round_enter (i := 7) (r := lp) ?_ V
          refine goes_norm [_, _, _, _, _, _, _, _] rfl ?_
          refine xp_region rfl ?_
          refine op_alloc (cs := [_, _]) rfl rfl fun b13 hb13 => ?_
          refine wp_norm [_, _, _, _, _, _, _, _, _] rfl ?_
          refine op_storeP 8 (v := .agg #[.int .i64 _, .int .i64 _]) (vs := [_, _]) (c' := [_, _]) rfl rfl rfl rfl rfl rfl rfl rfl rfl ?_
          refine wp_norm [_, _, _, _, _, _, _, _, _] rfl ?_
          refine ⟨rfl, none, rfl, ?_⟩
          refine goes_norm [_, _, _, _, _, _, _, _, _] rfl ?_
          refine xp_block ?_
          refine xp_scope ?_
          refine xp_seq ?_
          refine xp_label ?_
          refine xp_seq ?_
          refine xp_region rfl ?_
          refine op_loadP 3 (v := .map _) rfl rfl rfl rfl ?_
          refine op_range rfl rfl (fun V => wl_get V (i := 2) rfl) fun it51 hit51 => ?_
          refine wp_norm [_, _, _, _, _, _, _, _, _, _] rfl ?_
          refine xp_block ?_
          refine xp_loopL [14, 52, 53, 54, 55, 56, 57, 58, 59, 60, 61, 62, 63, 64, 65, 66, 67, 68, 69, 70] 10 (α := List Nat) (fun sn => []) (fun sn L => L.set 9 (some (it51, iterO m (encs exV nw).length sn))) (fun sn h_sn => sn.Nodup ∧ (∀ q ∈ sn, q < nw.length) ∧ ∀ q ∈ sn, ∀ z u, nw[q]? = some (z, u) → agreeM w due (x.1 - z.1) (x.2 - z.2) = false) (fun sn => nw.length - sn.length) ([]) trivial (rfl) (⟨List.nodup_nil, fun _ h => absurd h List.not_mem_nil, fun _ h => absurd h List.not_mem_nil⟩) ?_
          rintro sn T3 h_sn E_sn J_sn
          refine goes_norm [_, _, _, _, _, _, _, _, _, _] rfl ?_
          obtain ⟨N1, N2, N3⟩ := J_sn
          have hnl : (encs exV nw).length = nw.length := List.length_map _
          refine xp_seq ?_
          refine xp_region rfl ?_
          refine op_next 9 rfl rfl (fun V => wl_get V (i := 2) rfl) ?_ ?_
          · intro jx p hp hjn
            obtain ⟨z, u, hz, rfl⟩ := encs_get' hp
            have hzl : jx < nw.length := (List.getElem?_eq_some_iff.1 hz).1
            have hzm : z ∈ nw.map (·.1) := List.mem_map.2 ⟨(z, u), List.mem_of_getElem? hz, rfl⟩
            have zb := exM_bd SB2 (reach_mem (hrv ▸ (K3 z).1 hzm))
            have hsn2 := nodup_len nw.length _ (snoc_nodup' N1 hjn) (fun q hq => by
              rcases List.mem_append.1 hq with h | h
              · exact N2 q h
              · simp at h; subst h; exact hzl)
            have hsl2 : (sn ++ [jx]).length = sn.length + 1 := by simp
            refine op_pure (pv_of (v := .bool _) rfl) ?_
            refine xp_seq ?_
            refine xp_condT rfl (rfl) ?_
            refine xp_skip ?_
            refine xp_block ?_
            refine xp_seq ?_
            refine xp_region rfl ?_
            refine op_entry 9 rfl rfl (fun V => wl_get V (i := 2) rfl) hp ?_
            refine op_pure (pv_of (v := .agg #[.int .i64 _, .int .i64 _]) rfl) ?_
            refine op_alloc (cs := [_, _]) rfl rfl fun b14 hb14 => ?_
            refine wp_norm [_, _, _, _, _, _, _, _, _, _, _] rfl ?_
            refine op_storeP 10 (v := .agg #[.int .i64 _, .int .i64 _]) (vs := [_, _]) (c' := [_, _]) rfl rfl rfl rfl rfl rfl rfl rfl rfl ?_
            refine wp_norm [_, _, _, _, _, _, _, _, _, _, _] rfl ?_
            refine xp_seq ?_
            refine xp_region rfl ?_
            refine op_loadPA 0 (vs := [.int .i64 _, .int .i64 _, .int .i64 _, .int .i64 _]) rfl rfl rfl rfl rfl ?_
            refine op_loadP 1 (v := .int .i64 _) rfl rfl rfl rfl ?_
            refine op_pure (pv_indexA rfl rfl rfl rfl (by omega) (by omega)) ?_
            refine op_loadP 8 (v := .int .i64 _) rfl rfl rfl rfl ?_
            refine op_pure (pv_indexA rfl rfl rfl rfl (by omega) (by omega)) ?_
            refine op_loadP 10 (v := .int .i64 _) rfl rfl rfl rfl ?_
            refine op_pure (pv_arith rfl (by omega)) ?_
            refine op_pure (pv_indexA rfl rfl rfl rfl (by omega) (by omega)) ?_
            refine op_loadP 8 (v := .int .i64 _) rfl rfl rfl rfl ?_
            refine op_pure (pv_indexA rfl rfl rfl rfl (by omega) (by omega)) ?_
            refine op_loadP 10 (v := .int .i64 _) rfl rfl rfl rfl ?_
            refine op_pure (pv_arith rfl (by omega)) ?_
            refine op_fn (caps := []) (vs := [lawV w, .int .i64 due, .int .i64 (x.1 - z.1), .int .i64 (x.2 - z.2)]) rfl rfl rfl (agree_ok w W due (x.1 - z.1) (x.2 - z.2) hd (by omega) (by omega) h_sn) ?_
            rintro _ e2 E2 rfl
            refine xp_cond rfl (fun hag => ?_) (fun hag => ?_)
            · skip
              have hag' : agreeM w due (x.1 - z.1) (x.2 - z.2) = true := hag
              refine xp_seq ?_
              refine xp_region rfl ?_
              refine op_loadP 6 (v := .map _) rfl rfl rfl rfl ?_
              refine op_loadPA 8 (vs := [.int .i64 _, .int .i64 _]) rfl rfl rfl rfl rfl ?_
              refine op_mapUpdate 5 (a := x) (l := l2) exK rfl rfl rfl rfl rfl ?_
              refine wp_norm [_, _, _, _, _, _, _, _, _, _, _] rfl ?_
              refine xp_exit ?_
              intro V2
              have V3 := valid_set (o' := obL lp .ready none) V2 (i := 7) rfl
              obtain ⟨h9, E9, e9, V9⟩ := wl_drop [_, _, _] [_, _, _, _, _, _, _, _] V3
              refine ⟨rfl, ⟨_, _, rfl⟩, h9, _, e9, V9, Ext.trans (Ext.trans E_sn E2) E9, .inl ⟨rfl, Ext.trans E8 (Ext.trans (Ext.trans E_sn E2) E9), _, rfl, fun t => ?_⟩⟩
              rw [putL_keys, hl2, take_snoc hkx, hx, List.mem_append, List.mem_singleton]
              constructor
              · rintro (rfl | h)
                · exact ⟨.inr rfl, z, hzm, hag'⟩
                · exact ⟨.inl h.1, h.2⟩
              · rintro ⟨h | h, h2⟩
                · exact .inr ⟨h, h2⟩
                · exact .inl h
            · skip
              have hag' : agreeM w due (x.1 - z.1) (x.2 - z.2) = false := hag
              refine xp_skip ?_
              have M2 : ∀ q ∈ sn ++ [jx], q < nw.length := fun q hq => by
                rcases List.mem_append.1 hq with h | h
                · exact N2 q h
                · simp at h; subst h; exact hzl
              have M3 : ∀ q ∈ sn ++ [jx], ∀ z u, nw[q]? = some (z, u) → agreeM w due (x.1 - z.1) (x.2 - z.2) = false := fun q hq z' u' hz' => by
                rcases List.mem_append.1 hq with h | h
                · exact N3 q h z' u' hz'
                · simp at h; subst h; rw [hz] at hz'; cases hz'; exact hag'
              refine ⟨sn ++ [jx], trivial, rfl, rfl, (Ext.trans E_sn E2), fun h3 E3 => ⟨snoc_nodup' N1 hjn, M2, M3⟩, by first | omega | (dsimp only; omega), ?_⟩
              repeat (first | exact off_base _ _ _ | refine off_upd (by decide) ?_ | refine off_updL rfl ?_ | refine off_mix rfl ?_)
          · intro hall
            refine op_pure (pv_of (v := .bool _) rfl) ?_
            refine xp_seq ?_
            refine xp_condF rfl (rfl) ?_
            refine xp_exit ?_
            intro V2
            have V3 := valid_set (o' := obL lp .ready none) V2 (i := 7) rfl
            obtain ⟨h9, E9, e9, V9⟩ := wl_drop [_, _] [_, _, _, _, _, _, _, _] V3
            refine ⟨rfl, ⟨_, _, rfl⟩, h9, _, e9, V9, Ext.trans E_sn E9, .inl ⟨rfl, Ext.trans E8 (Ext.trans E_sn E9), _, rfl, fun t => ?_⟩⟩
            rw [hl2, take_snoc hkx, hx, List.mem_append, List.mem_singleton]
            constructor
            · rintro ⟨h1, h2⟩
              exact ⟨.inl h1, h2⟩
            · rintro ⟨h | h, z, hz, hg⟩
              · exact ⟨h, z, hz, hg⟩
              · exfalso
                subst h
                obtain ⟨⟨z', u'⟩, hm, rfl⟩ := List.mem_map.1 hz
                obtain ⟨q, hq⟩ := List.getElem?_of_mem hm
                have hql : q < nw.length := (List.getElem?_eq_some_iff.1 hq).1
                have := N3 q (hall q (by rw [hnl]; exact hql)) z' u' hq
                rw [this] at hg
                cases hg
        · rintro v H ⟨h', M', rfl, V', E', ⟨E8, l2, rfl, hl2⟩ | f⟩
          · refine ⟨h', [_, _, _, _, _, _, _], .ready, none, rfl, V', by simp, fun h'' E'' => ?_⟩
            rw [List.take_length] at hl2
            refine goes_norm [_, _, _, _, _, _, _] rfl ?_
            refine goes_turn (fun V => wl_perm (swap25 _ _ _ _ _ _ _) V) ?_
            refine xp_region rfl ?_
            refine op_loadP 6 (v := .map _) rfl rfl rfl rfl ?_
            refine op_storeP 3 (v := .map _) (vs := [_]) (c' := [_]) rfl rfl rfl rfl rfl rfl rfl rfl rfl ?_
            refine wp_norm [_, _, _, _, _, _, _] rfl ?_
            refine xp_region rfl ?_
            refine op_pure (pv_arith rfl (by omega)) ?_
            refine op_pure (pv_move (v := .int .i64 _) rfl) ?_
            refine ⟨(i + 1, sure && decide (offM w.press due ts[i - 1] ts[i] ≤ w.span), b23, l2), ⟨rfl, rfl, trivial⟩, (by first | exact hD_i | exact allMarks_cons hD_i), rfl, (Ext.trans (Ext.trans (Ext.trans (Ext.trans E_i E_s2) F1) E') E''), fun h3 E3 => ⟨hil, by rw [K2, hrv2, hrv]; rfl, fun z => by rw [hrv2, hl2]; simp only [K3, hrv]; rfl⟩, by first | omega | (dsimp only; omega), ?_⟩
            repeat (first | exact off_base _ _ _ | refine off_upd (by decide) ?_ | refine off_updL rfl ?_ | refine off_mix rfl ?_)
          · exact f.elim
  · skip
    have hie : i = ts.length := by have := geI hk; omega
    subst hie
    rw [List.take_length] at K2 K3
    refine xp_exit ?_
    refine xp_seq ?_
    refine xp_block ?_
    refine xp_seq ?_
    refine xp_region rfl ?_
    refine op_pure (pv_move (v := .bool _) rfl) ?_
    refine op_pure (pv_assign (v := .bool _) rfl) ?_
    cases sure with
    | true =>
      refine xp_condT rfl (rfl) ?_
      refine xp_seq ?_
      refine xp_region rfl ?_
      refine op_pure (pv_assign (v := .int .i64 _) rfl) ?_
      refine xp_ret ?_
      refine res_listM (vs := [_]) hD_i Try.results35 ⟨resV_tmp rfl rfl, trivial⟩ fun hM EM V => ?_
      refine ⟨Ext.trans E_i (Ext.trans EM (ext_wl V)), @decide (∀ y, ¬ reach w due ts.reverse y) (Classical.propDecidable _), ?_, by simp⟩
      rw [← K2]; rfl
    | false =>
      refine xp_condF rfl (rfl) ?_
      refine xp_seq ?_
      refine xp_region rfl ?_
      refine op_loadP 3 (v := .map _) rfl rfl rfl rfl ?_
      refine op_lenMap 2 rfl rfl rfl ?_
      refine op_pure (pv_of (v := .bool _) rfl) ?_
      refine op_pure (pv_assign (v := .bool _) rfl) ?_
      have hnl : (encs exV nw).length = nw.length := List.length_map _
      refine xp_cond rfl (fun hz => ?_) (fun hz => ?_)
      · skip
        have hz' : nw = [] := by have : ((encs exV nw).length : Int) = 0 := by simpa using hz
                                 exact List.length_eq_zero_iff.1 (by omega)
        refine xp_seq ?_
        refine xp_region rfl ?_
        refine op_pure (pv_assign (v := .int .i64 _) rfl) ?_
        refine xp_ret ?_
        refine res_listM (vs := [_]) hD_i Try.results35 ⟨resV_tmp rfl rfl, trivial⟩ fun hM EM V => ?_
        refine ⟨Ext.trans E_i (Ext.trans EM (ext_wl V)), true, ?_, ?_⟩
        · rw [← K2]; rfl
        · refine ⟨fun _ y hy => ?_, fun _ => rfl⟩
          have := (K3 y).2 hy
          rw [hz'] at this
          exact absurd this List.not_mem_nil
      · skip
        have hz' : nw ≠ [] := by intro e; subst e; simp [encs] at hz
        refine xp_skip ?_
        refine xp_seq ?_
        refine xp_region rfl ?_
        refine op_pure (pv_assign (v := .int .i64 _) rfl) ?_
        refine xp_ret ?_
        refine res_listM (vs := [_]) hD_i Try.results35 ⟨resV_tmp rfl rfl, trivial⟩ fun hM EM V => ?_
        refine ⟨Ext.trans E_i (Ext.trans EM (ext_wl V)), false, ?_, ?_⟩
        · rw [← K2]; rfl
        · refine ⟨fun h => absurd h Bool.false_ne_true, fun h => ?_⟩
          obtain ⟨p, hp⟩ := List.exists_mem_of_ne_nil _ hz'
          exact absurd ((K3 p.1).1 (List.mem_map.2 ⟨p, hp, rfl⟩)) (h p.1)
end
end Go.Proofs.Ytlfbcimcehcomaa
/- Walks of package voice: Tremolo of scales that are right. Conditions: as each theorem states. -/
namespace Go.Vo
open Go Go.HL Go.Wx Go.Rd
variable [Lvl]
/-- A verdict on tongues. -/
def Verd (w : LawP) (due : Int) (ts : List SndP) (v : Int) : Prop := ∃ e : Bool, v = (if sureM w due ts.reverse then 1 else if e then 2 else 3) ∧ (e = true ↔ ∀ y, ¬ reach w due ts.reverse y)
def dueM (w : LawP) (k : Nat) : Int := w.first + w.step * k
end Go.Vo
namespace Go.Proofs.Ytlfbcimcehcomaa
open Go Go.HL Go.Proofs Go.Wx Go.Rd Go.Vo
section
variable [Lvl]
set_option maxRecDepth 100000
theorem voices_bd (s : ScaP) (n : Nat) (S : ScaB s n) (rs : List Int) (G : RegB rs s.rows.length) (k : Nat) (hk : k < n) : ∀ x ∈ voicesM s rs k, SndB x := by
  intro x hx
  obtain ⟨r, hr, rfl⟩ := List.mem_map.1 hx
  have gb := G.b r hr
  have hq : r.toNat < s.rows.length := by omega
  have rn := S.rn _ (List.getElem_mem hq)
  unfold voiceM
  rw [List.getD_eq_getElem?_getD, List.getD_eq_getElem?_getD, List.getElem?_eq_getElem hq, Option.getD_some, List.getElem?_eq_getElem (by omega)]
  exact S.rb _ (List.getElem_mem hq) _ (List.getElem_mem _)
set_option maxHeartbeats 4000000 in
theorem Tremolo_ok (s : ScaP) (n : Nat) (S : ScaB s n) (rs : List Int) (G : RegB rs s.rows.length) (h4 : rs.length ≤ 4) (A B : Option Addr) (cA cB : Nat) (h : AH) (R : SlX h 1 TS s.rows (.slice A s.rows.length cA)) (RB : Row h 1 intC B rs) :
    FnT Try.prog 11 #[scaV A cA s, .slice B rs.length cB] h (fun v h' => ∃ u vs, v = .tuple #[u, .int .i64 0] ∧ SlR h' 1 intC vs u ∧ vs.length = notesM s ∧ ∀ k : Nat, k < notesM s → Verd s.law (dueM s.law k) (voicesM s rs k) (vs.getD k 0)) := by
  have RS := R
  have n6 := S.n6
  have hnm := notesM_eq S
  unfold scaV
  refine call_body Try.func11 rfl Try.ntmps11 rfl ?_
  refine xp_seq ?_
  refine xp_region rfl ?_
  refine op_box (v := .agg #[.int .i64 _, .int .i64 _, .int .i64 _, .int .i64 _, .slice _ _ _]) (cs := [_, _, _, _, _]) rfl rfl fun b2 hb2 => ?_
  refine wp_norm [_] rfl ?_
  refine op_pure (pv_assign (v := .slice _ _ _) rfl) ?_
  refine op_pure (pv_assign (v := .int .i64 _) rfl) ?_
  refine xp_seq ?_
  refine xp_seq ?_
  refine xp_region rfl ?_
  refine op_loadPA 0 (vs := [.int .i64 _, .int .i64 _, .int .i64 _, .int .i64 _, .slice _ _ _]) rfl rfl rfl rfl rfl ?_
  refine op_pure (pv_move (v := .slice _ _ _) rfl) ?_
  refine op_fn (caps := []) (vs := [scaV A cA s, .slice _ _ _]) rfl rfl rfl (checkRegister_ok s n S rs G h4 A B cA cB h (RS.ext TS.mono (Ext.refl _)) (RB.ext (Ext.refl _))) ?_
  rintro _ e1 E1 rfl
  refine op_pure (pv_assign (v := .int .i64 _) rfl) ?_
  refine xp_seq ?_
  refine xp_region rfl ?_
  refine op_pure (pv_move (v := .int .i64 _) rfl) ?_
  refine op_pure (pv_of (v := .bool _) rfl) ?_
  refine xp_condF rfl (rfl) ?_
  refine xp_skip ?_
  refine xp_seq ?_
  refine xp_region rfl ?_
  refine op_loadPA 0 (vs := [.int .i64 _, .int .i64 _, .int .i64 _, .int .i64 _, .slice _ _ _]) rfl rfl rfl rfl rfl ?_
  refine op_pure (pv_move (v := .slice _ _ _) rfl) ?_
  refine op_pure (pv_build (zc := [_, _, _, _, _, _]) (vs := [(0, .agg #[.int .i64 _, .int .i64 _, .int .i64 _, .int .i64 _, .slice _ _ _]), (1, .slice _ _ _)]) (cs := [_, _, _, _, _, _]) rfl rfl rfl rfl rfl rfl) ?_
  refine op_alloc (cs := [_, _, _, _, _, _]) rfl rfl fun b7 hb7 => ?_
  refine wp_norm [_, _] rfl ?_
  refine op_storeP 1 (v := .agg #[.int .i64 _, .int .i64 _, .int .i64 _, .int .i64 _, .slice _ _ _, .slice _ _ _]) (vs := [_, _, _, _, _, _]) (c' := [_, _, _, _, _, _]) rfl rfl rfl rfl rfl rfl rfl rfl rfl ?_
  refine wp_norm [_, _] rfl ?_
  refine xp_seq ?_
  refine xp_region rfl ?_
  refine op_pure (pv_assign (v := .slice _ _ _) rfl) ?_
  refine goes_more ?_
  refine goes_norm [_, _, _] rfl ?_
  refine xp_seq ?_
  refine xp_seq ?_
  refine xp_region rfl ?_
  refine op_loadPA 0 (vs := [.int .i64 _, .int .i64 _, .int .i64 _, .int .i64 _, .slice _ _ _]) rfl rfl rfl rfl rfl ?_
  refine op_fn (caps := []) (vs := [scaV A cA s]) rfl rfl rfl (notes_ok s A cA e1 (RS.ext TS.mono E1)) ?_
  rintro _ e2 E2 rfl
  refine op_pure (pv_move (v := .int .i64 _) rfl) ?_
  refine xp_block ?_
  refine xp_loopL [8, 9, 21, 22, 23, 24, 25, 26, 27, 28, 29, 30, 31, 32, 33, 34, 35, 36, 37] 3 (α := Nat × Acc × List Int) (fun ⟨k, a, vs⟩ => [(21, .int .i64 k), (8, .slice a.A a.n a.c)]) (fun ⟨k, a, vs⟩ L => L.set 2 (a.p)) (fun ⟨k, a, vs⟩ h_k => k ≤ notesM s ∧ vs.length = k ∧ AccR 3 1 (vs.flatMap intC) a ∧ ∀ j : Nat, j < k → Verd s.law (dueM s.law j) (voicesM s rs j) (vs.getD j 0)) (fun ⟨k, a, vs⟩ => notesM s - k) ((0, acc0, [])) ⟨rfl, rfl, trivial⟩ (rfl) (⟨Nat.zero_le _, rfl, accR0, fun _ h => absurd h (Nat.not_lt_zero _)⟩) ?_
  rintro ⟨k, a, vs⟩ T1 h_k E_k J_k
  refine goes_norm [_, _, _] rfl ?_
  obtain ⟨K1, K2, K3, K4⟩ := J_k
  refine xp_seq ?_
  refine xp_region rfl ?_
  refine op_pure (pv_of (v := .bool _) rfl) ?_
  refine xp_seq ?_
  refine xp_cond rfl (fun hk => ?_) (fun hk => ?_)
  · skip
    have hkl : k < notesM s := ltI hk
    have hkn : k < n := by rw [hnm] at hkl; split at hkl <;> omega
    have dd := S.d k hkn
    refine xp_skip ?_
    refine xp_seq ?_
    refine xp_block ?_
    refine xp_seq ?_
    refine xp_region rfl ?_
    refine op_pure (pv_move (v := .int .i64 _) rfl) ?_
    refine op_pure (pv_assign (v := .int .i64 _) rfl) ?_
    refine xp_dw [] rfl rfl rfl ?_
    refine dw_pure (i := 0) rfl (by decide +kernel) (pv_move (v := .slice _ _ _) rfl) ?_
    refine dw_pure (i := 1) rfl (by decide +kernel) (pv_fieldAddr rfl rfl rfl rfl 0 rfl) ?_
    refine dw_load (i := 2) rfl (by decide +kernel) ?_
    refine op_loadPA 0 (vs := [.int .i64 _, .int .i64 _, .int .i64 _, .int .i64 _]) rfl rfl rfl rfl rfl ?_
    refine dw_pure (i := 3) rfl (by decide +kernel) (pv_fieldAddr rfl rfl rfl rfl 0 rfl) ?_
    refine dw_load (i := 4) rfl (by decide +kernel) ?_
    refine op_loadPA 0 (vs := [.int .i64 _, .int .i64 _, .int .i64 _, .int .i64 _]) rfl rfl rfl rfl rfl ?_
    refine dw_pure (i := 5) rfl (by decide +kernel) (pv_move (v := .int .i64 _) rfl) ?_
    refine dw_load (i := 7) rfl (by decide +kernel) ?_
    refine op_loadPA 1 (vs := [.int .i64 _, .int .i64 _, .int .i64 _, .int .i64 _, .slice _ _ _, .slice _ _ _]) rfl rfl rfl rfl rfl ?_
    refine dw_pure (i := 8) rfl (by decide +kernel) (pv_move (v := .int .i64 _) rfl) ?_
    refine dw_eff (i := 6) rfl (by decide +kernel) ?_
    refine op_fn (caps := []) (vs := [lawV s.law, .int .i64 (k : Int)]) rfl rfl rfl (vDue_ok s.law S.l (k : Int) (by omega) h_k) ?_
    rintro _ e3 E3 rfl
    refine ⟨ext_wlm E3 _, ?_⟩
    refine dw_eff (i := 9) rfl (by decide +kernel) ?_
    refine op_fn (caps := []) (vs := [.agg #[_, _, _, _, _, _], .int .i64 _]) rfl rfl rfl (voices_ok s n S rs G h4 k hkn A B cA cB e3 (RS.ext TS.mono (Ext.trans (Ext.trans (Ext.trans E1 E2) E_k) E3)) (RB.ext (Ext.trans (Ext.trans (Ext.trans E1 E2) E_k) E3))) ?_
    rintro _ e4 E4 ⟨VA, cV, rfl, RV⟩
    refine ⟨ext_wlm E4 _, ?_⟩
    refine dw_last (i := 10) rfl (by decide +kernel) (by decide +kernel) ?_
    refine op_fn (caps := []) (vs := [lawV s.law, .int .i64 (s.law.first + s.law.step * (k : Int)), .slice _ _ _]) rfl rfl rfl (keeps_ok s.law S.l (s.law.first + s.law.step * (k : Int)) dd (voicesM s rs k) (voices_bd s n S rs G k hkn) (by unfold voicesM; rw [List.length_map]; exact h4) VA cV e4 (RV.ext (Ext.refl _))) ?_
    rintro _ e5 E5 ⟨eb, rfl, heb⟩
    obtain ⟨vv, hvv⟩ : ∃ vv : Int, vv = (if sureM s.law (s.law.first + s.law.step * (k : Int)) (voicesM s rs k).reverse then 1 else if eb then 2 else 3) := ⟨_, rfl⟩
    rw [← hvv]
    refine dw_last (i := 11) rfl (by decide +kernel) (by decide +kernel) ?_
    refine op_buildSlice (zc := [_]) (vs := [(0, .int .i64 _)]) (cs := [_]) rfl rfl rfl rfl rfl rfl rfl fun b35 hb35 => ?_
    refine dw_norm [_, _, _, _] rfl ?_
    refine dw_last (i := 12) rfl (by decide +kernel) (by decide +kernel) ?_
    refine op_appendR 2 K3 rfl rfl rfl (fun V => rdP V (i := 3) rfl) rfl rfl rfl rfl rfl rfl rfl rfl rfl (by omega) rfl (by rw [flat_len (m := 1) (fun _ _ => rfl)]; simp; omega) fun a2 h2a E2a ha2 => ?_
    refine dw_norm [_, _, _, _] rfl ?_
    refine dw_pure (i := 13) rfl (by decide +kernel) (pv_assign (v := .slice _ _ _) rfl) ?_
    refine dw_end rfl ?_
    refine xp_region rfl ?_
    refine op_pure (pv_arith rfl (by omega)) ?_
    refine op_pure (pv_move (v := .int .i64 _) rfl) ?_
    have hvd : Verd s.law (dueM s.law k) (voicesM s rs k) vv := ⟨eb, hvv, heb⟩
    have hall : ∀ j : Nat, j < k + 1 → Verd s.law (dueM s.law j) (voicesM s rs j) ((vs ++ [vv]).getD j 0) := by
      intro j hj
      by_cases hjk : j < k
      · have := K4 j hjk
        rw [List.getD_eq_getElem?_getD, List.getElem?_append_left (by omega), ← List.getD_eq_getElem?_getD]
        exact this
      · have : j = k := by omega
        subst this
        rw [List.getD_eq_getElem?_getD, List.getElem?_append_right (by omega), K2, Nat.sub_self]
        exact hvd
    refine ⟨(k + 1, a2, vs ++ [vv]), ⟨rfl, rfl, trivial⟩, rfl, rfl, (Ext.trans (Ext.trans (Ext.trans (Ext.trans E_k E3) E4) E5) E2a), fun h3 E3 => ⟨hkl, by rw [List.length_append, K2]; rfl, by rw [List.flatMap_append]; exact ha2, hall⟩, by first | omega | (dsimp only; omega), ?_⟩
    repeat (first | exact off_base _ _ _ | refine off_upd (by decide) ?_ | refine off_updL rfl ?_ | refine off_mix rfl ?_)
  · skip
    have hke : k = notesM s := by have := geI hk; omega
    subst hke
    refine xp_exit ?_
    refine xp_seq ?_
    refine xp_region rfl ?_
    refine op_pure (pv_move (v := .slice _ _ _) rfl) ?_
    refine op_pure (pv_assign (v := .slice _ _ _) rfl) ?_
    refine op_pure (pv_assign (v := .int .i64 _) rfl) ?_
    refine xp_ret ?_
    refine res_list (vs := [_, _]) Try.results11 ⟨resV_tmp rfl rfl, resV_tmp rfl rfl, trivial⟩ fun V => ?_
    exact ⟨(Ext.trans (Ext.trans (Ext.trans E1 E2) E_k) (ext_wl V)), _, vs, rfl, AccP.row (i := 2) K3 (by omega) (fun _ _ => rfl) V rfl, K2, K4⟩
end
end Go.Proofs.Ytlfbcimcehcomaa
/- Tongues in plain data: fewer rows keep what always holds, more rows keep what never holds. Conditions: none. -/
namespace Go.Vo
open Go Go.HL Go.Wx Go.Rd
variable [Lvl]
theorem sure_tail {w : LawP} {d : Int} {s : SndP} {r : List SndP} (h : sureM w d (s :: r) = true) : sureM w d r = true := by
  cases r with
  | nil => rfl
  | cons t r =>
    unfold sureM at h
    rw [Bool.and_eq_true] at h
    exact h.1
theorem sure_init {w : LawP} {d : Int} {s : SndP} : ∀ {r : List SndP}, sureM w d (r ++ [s]) = true → sureM w d r = true
  | [], _ => rfl
  | [a], _ => rfl
  | a :: b :: r, h => by
    have h1 : (sureM w d (b :: (r ++ [s])) && decide (offM w.press d b a ≤ w.span)) = true := h
    rw [Bool.and_eq_true] at h1
    show (sureM w d (b :: r) && decide (offM w.press d b a ≤ w.span)) = true
    rw [Bool.and_eq_true]
    exact ⟨sure_init (r := b :: r) h1.1, h1.2⟩
theorem reach_tail {w : LawP} {d : Int} {s : SndP} {r : List SndP} {y : Exa} (hr : r ≠ []) (h : reach w d (s :: r) y) : ∃ x, reach w d r x := by
  cases r with
  | nil => exact absurd rfl hr
  | cons t r =>
    obtain ⟨_, x, hx, _⟩ := h
    exact ⟨x, hx⟩
theorem reach_init {w : LawP} {d : Int} {s : SndP} : ∀ {r : List SndP} {y : Exa}, r ≠ [] → reach w d (r ++ [s]) y → reach w d r y
  | [], _, hr, _ => absurd rfl hr
  | [a], y, _, h => by
    have h1 : y ∈ exM a ∧ ∃ x, reach w d [s] x ∧ agreeM w d (y.1 - x.1) (y.2 - x.2) = true := h
    exact h1.1
  | a :: b :: r, y, _, h => by
    have h1 : y ∈ exM a ∧ ∃ x, reach w d ((b :: r) ++ [s]) x ∧ agreeM w d (y.1 - x.1) (y.2 - x.2) = true := h
    obtain ⟨h2, x, hx, hg⟩ := h1
    exact ⟨h2, x, reach_init (r := b :: r) (List.cons_ne_nil _ _) hx, hg⟩
theorem verd_one {w : LawP} {d : Int} {ts : List SndP} {v : Int} (V : Verd w d ts v) : v = 1 ↔ sureM w d ts.reverse = true := by
  obtain ⟨e, hv, he⟩ := V
  cases hs : sureM w d ts.reverse with
  | true => rw [hs] at hv; exact ⟨fun _ => rfl, fun _ => hv⟩
  | false =>
    rw [hs] at hv
    refine ⟨fun h => ?_, fun h => by cases h⟩
    rw [hv] at h
    cases e <;> simp at h
theorem verd_two {w : LawP} {d : Int} {ts : List SndP} {v : Int} (V : Verd w d ts v) : v = 2 ↔ sureM w d ts.reverse = false ∧ ∀ y, ¬ reach w d ts.reverse y := by
  obtain ⟨e, hv, he⟩ := V
  cases hs : sureM w d ts.reverse with
  | true =>
    rw [hs] at hv
    refine ⟨fun h => ?_, fun h => by cases h.1⟩
    rw [hv] at h
    simp at h
  | false =>
    rw [hs] at hv
    cases e with
    | true => exact ⟨fun _ => ⟨rfl, he.1 rfl⟩, fun _ => hv⟩
    | false =>
      refine ⟨fun h => ?_, fun h => ?_⟩
      · rw [hv] at h; simp at h
      · have := he.2 h.2; cases this
/-- What always holds holds without the first tongue, and without the last one. -/
theorem one_tail {w : LawP} {d : Int} {t : SndP} {ts : List SndP} {v v' : Int} (V : Verd w d (t :: ts) v) (V' : Verd w d ts v') (h : v = 1) : v' = 1 := by
  rw [verd_one V, List.reverse_cons] at h
  rw [verd_one V']
  exact sure_init h
theorem one_init {w : LawP} {d : Int} {t : SndP} {ts : List SndP} {v v' : Int} (V : Verd w d (ts ++ [t]) v) (V' : Verd w d ts v') (h : v = 1) : v' = 1 := by
  rw [verd_one V, List.reverse_append] at h
  rw [verd_one V']
  exact sure_tail h
/-- What never holds does not hold with a tongue more ahead or behind. -/
theorem two_cons {w : LawP} {d : Int} {t : SndP} {ts : List SndP} {v v' : Int} (V : Verd w d ts v) (V' : Verd w d (t :: ts) v') (h : v = 2) : v' = 2 := by
  rw [verd_two V] at h
  rw [verd_two V', List.reverse_cons]
  have hne : ts.reverse ≠ [] := fun e => by rw [e] at h; cases h.1
  refine ⟨?_, fun y hy => h.2 y (reach_init hne hy)⟩
  cases hs : sureM w d (ts.reverse ++ [t]) with
  | false => rfl
  | true => have := sure_init hs; rw [h.1] at this; cases this
theorem two_snoc {w : LawP} {d : Int} {t : SndP} {ts : List SndP} {v v' : Int} (V : Verd w d ts v) (V' : Verd w d (ts ++ [t]) v') (h : v = 2) : v' = 2 := by
  rw [verd_two V] at h
  rw [verd_two V', List.reverse_append]
  have hne : ts.reverse ≠ [] := fun e => by rw [e] at h; cases h.1
  refine ⟨?_, fun y hy => ?_⟩
  · cases hs : sureM w d ([t].reverse ++ ts.reverse) with
    | false => rfl
    | true => have := sure_tail (s := t) (r := ts.reverse) hs; rw [h.1] at this; cases this
  · obtain ⟨x, hx⟩ := reach_tail (s := t) (r := ts.reverse) hne hy
    exact h.2 x hx
end Go.Vo
/- Walks: laws and sounds made of numbers. Conditions: as each theorem states. -/
namespace Go.Proofs.Ytlfbcimcehcomaa
open Go Go.HL Go.Proofs Go.Wx Go.Rd Go.Vo
section
variable [Lvl]
set_option maxRecDepth 100000
theorem Of_ok (b x : Nat) (l : List Int) (hl : 0 < l.length) (hl2 : l.length < 2 ^ 20) (A : Option Addr) (c : Nat) (h : AH) (R : Row h 1 intC A l) : FnM Try.prog (.func (.func 58) #[] ([] : List Value).toArray) [.pointer (some ⟨b, 0, none⟩), .slice A l.length c] h [some (b, .cells #[.int .u64 (x : Int)] 76 (0, 0))]
    (fun v h' M' => ∃ (x' : Nat) (k : Int), M' = [some (b, .cells #[.int .u64 (x' : Int)] 76 (0, 0))] ∧ v = .int .i64 k ∧ k ∈ l) := by
  refine fnM_body rfl rfl Try.func58 rfl Try.ntmps58 rfl ?_
  refine xp_seq ?_
  refine xp_region rfl ?_
  refine op_pure (pv_assign (v := .int .i64 _) rfl) ?_
  refine xp_seq ?_
  refine xp_seq ?_
  refine xp_region rfl ?_
  refine op_pure (pv_move (v := .slice _ _ _) rfl) ?_
  refine op_pure (pv_len rfl rfl) ?_
  refine op_pure (pv_of (v := .bool _) rfl) ?_
  refine xp_condF rfl (by first | (rw [decide_eq_false_iff_not]; omega) | (rw [beq_eq_false_iff_ne]; omega)) ?_
  refine xp_skip ?_
  refine xp_seq ?_
  refine xp_region rfl ?_
  refine op_pure (pv_move (v := .slice _ _ _) rfl) ?_
  refine op_pure (pv_move (v := .pointer (some ⟨b, 0, none⟩)) rfl) ?_
  refine op_pure (pv_move (v := .slice _ _ _) rfl) ?_
  refine op_pure (pv_len rfl rfl) ?_
  refine op_pure (pv_arith rfl (by omega)) ?_
  refine op_fnMM [] [_] [] (vs := [.pointer _, .int .i64 _]) rfl rfl rfl ((Upto_ok b x (l.length - 1) (by omega) h)) ?_
  rintro _ h2 _ E2 ⟨x2, k, rfl, rfl, k1, k2⟩
  refine wp_norm [_] rfl ?_
  obtain ⟨q, rfl⟩ : ∃ q : Nat, k = q := ⟨k.toNat, by omega⟩
  have hq : q < l.length := by omega
  obtain ⟨g, off, hA, hc⟩ := (R.ext E2).at (by omega) hq
  refine op_pure (pv_indexE rfl hA rfl rfl rfl (by omega) (by omega)) ?_
  refine op_load (v := .int .i64 _) rfl rfl ((hc) 0 _ rfl) ?_
  refine op_pure (pv_assign (v := .int .i64 _) rfl) ?_
  refine xp_ret ?_
  refine res_list (vs := [_]) Try.results58 ⟨resV_tmp rfl rfl, trivial⟩ fun V => ?_
  exact ⟨_, [_], rfl, V, E2, x2, l[q], rfl, rfl, List.getElem_mem hq⟩
theorem Near_ok (b x : Nat) (a lo hi d : Int) (ha : -2 ^ 30 ≤ a ∧ a ≤ 2 ^ 30) (hd : 0 ≤ d ∧ d ≤ 2 ^ 30) (h : AH) : FnM Try.prog (.func (.func 57) #[] ([] : List Value).toArray) [.pointer (some ⟨b, 0, none⟩), .int .i64 a, .int .i64 lo, .int .i64 hi, .int .i64 d] h [some (b, .cells #[.int .u64 (x : Int)] 76 (0, 0))]
    (fun v h' M' => ∃ (x' : Nat) (u w : Int), M' = [some (b, .cells #[.int .u64 (x' : Int)] 76 (0, 0))] ∧ v = .agg #[.int .i64 (max lo (a - u)), .int .i64 (min hi (a + w))] ∧ 0 ≤ u ∧ u ≤ d ∧ 0 ≤ w ∧ w ≤ d) := by
  refine fnM_body rfl rfl Try.func57 rfl Try.ntmps57 rfl ?_
  refine xp_seq ?_
  refine xp_region rfl ?_
  refine op_alloc (cs := [_, _]) rfl rfl fun b10 hb10 => ?_
  refine wp_norm [_, _] rfl ?_
  refine xp_seq ?_
  refine xp_region rfl ?_
  refine op_pure (pv_move (v := .int .i64 _) rfl) ?_
  refine op_pure (pv_move (v := .int .i64 _) rfl) ?_
  refine op_pure (pv_move (v := .pointer (some ⟨b, 0, none⟩)) rfl) ?_
  refine op_pure (pv_move (v := .pointer (some ⟨b, 0, none⟩)) rfl) ?_
  refine op_pure (pv_move (v := .int .i64 _) rfl) ?_
  refine op_fnMM [] [_] [_] (vs := [.pointer _, .int .i64 _]) rfl rfl rfl ((Upto_ok b x d (by omega) h)) ?_
  rintro _ h2 _ E2 ⟨x2, k2, rfl, rfl, k21, k22⟩
  refine wp_norm [_, _] rfl ?_
  refine op_buildSlice (zc := [_]) (vs := [(0, .int .i64 _), (1, .int .i64 _), (2, .int .i64 _)]) (cs := [_, _, _]) rfl rfl rfl rfl rfl rfl rfl fun b17 hb17 => ?_
  refine wp_norm [_, _, _] rfl ?_
  refine wp_pub 2 rfl rfl ?_
  intro h3 E3 p3
  refine wp_norm [_, _, _] rfl ?_
  refine op_fnMM [] [_] [_, _] (vs := [.pointer _, .slice _ _ _]) rfl rfl rfl ((Of_ok b x2 [0, 0, k2] (by simp) (by simp) _ _ h3 (row_of_block (enc := intC) (m := 1) (l := [0, 0, k2]) (fun _ _ => rfl) p3))) ?_
  rintro _ h4 _ E4 ⟨x4, k4, rfl, rfl, k4m⟩
  refine wp_norm [_, _, _] rfl ?_
  have k4b : 0 ≤ k4 ∧ k4 ≤ d := by simp at k4m; omega
  refine op_pure (pv_arith rfl (by omega)) ?_
  refine op_pure (pv_max rfl rfl) ?_
  refine op_pure (pv_move (v := .int .i64 _) rfl) ?_
  refine op_pure (pv_move (v := .int .i64 _) rfl) ?_
  refine op_pure (pv_move (v := .pointer (some ⟨b, 0, none⟩)) rfl) ?_
  refine op_pure (pv_move (v := .pointer (some ⟨b, 0, none⟩)) rfl) ?_
  refine op_pure (pv_move (v := .int .i64 _) rfl) ?_
  refine op_fnMM [] [_] [_, _] (vs := [.pointer _, .int .i64 _]) rfl rfl rfl ((Upto_ok b x4 d (by omega) h4)) ?_
  rintro _ h5 _ E5 ⟨x5, k5, rfl, rfl, k51, k52⟩
  refine wp_norm [_, _, _] rfl ?_
  refine op_buildSlice (zc := [_]) (vs := [(0, .int .i64 _), (1, .int .i64 _), (2, .int .i64 _)]) (cs := [_, _, _]) rfl rfl rfl rfl rfl rfl rfl fun b27 hb27 => ?_
  refine wp_norm [_, _, _, _] rfl ?_
  refine wp_pub 3 rfl rfl ?_
  intro h6 E6 p6
  refine wp_norm [_, _, _, _] rfl ?_
  refine op_fnMM [] [_] [_, _, _] (vs := [.pointer _, .slice _ _ _]) rfl rfl rfl ((Of_ok b x5 [0, 0, k5] (by simp) (by simp) _ _ h6 (row_of_block (enc := intC) (m := 1) (l := [0, 0, k5]) (fun _ _ => rfl) p6))) ?_
  rintro _ h7 _ E7 ⟨x7, k7, rfl, rfl, k7m⟩
  refine wp_norm [_, _, _, _] rfl ?_
  have k7b : 0 ≤ k7 ∧ k7 ≤ d := by simp at k7m; omega
  refine op_pure (pv_arith rfl (by omega)) ?_
  refine op_pure (pv_min rfl rfl) ?_
  refine op_pure (pv_build (zc := [_, _]) (vs := [(0, .int .i64 _), (1, .int .i64 _)]) (cs := [_, _]) rfl rfl rfl rfl rfl rfl) ?_
  refine op_storeP 1 (v := .agg #[.int .i64 _, .int .i64 _]) (vs := [_, _]) (c' := [_, _]) rfl rfl rfl rfl rfl rfl rfl rfl rfl ?_
  refine wp_norm [_, _, _, _] rfl ?_
  refine xp_ret ?_
  refine res_list (vs := [_]) Try.results57 ⟨resV_agg 1 rfl rfl rfl rfl rfl (vs := [.int .i64 _, .int .i64 _]) rfl, trivial⟩ fun V => ?_
  obtain ⟨h9, E9, e9, V9⟩ := wl_drop [_, _, _] [_] V
  exact ⟨h9, _, e9, V9, Ext.trans (Ext.trans (Ext.trans (Ext.trans (Ext.trans (Ext.trans E2 E3) E4) E5) E6) E7) E9, x7, k4, k7, rfl, rfl, k4b.1, k4b.2, k7b.1, k7b.2⟩
theorem SoundOf_ok (b x : Nat) (tone wide : Int) (ht : -1000 ≤ tone ∧ tone ≤ 1000) (hw : 0 ≤ wide ∧ wide ≤ 3) (h : AH) : FnM Try.prog (.func (.func 28) #[] ([] : List Value).toArray) [.pointer (some ⟨b, 0, none⟩), .int .i64 tone, .int .i64 wide] h [some (b, .cells #[.int .u64 (x : Int)] 76 (0, 0))]
    (fun v h' M' => ∃ (x' : Nat) (s : SndP), M' = [some (b, .cells #[.int .u64 (x' : Int)] 76 (0, 0))] ∧ v = sndV s ∧ SndB s) := by
  refine fnM_body rfl rfl Try.func28 rfl Try.ntmps28 rfl ?_
  refine xp_seq ?_
  refine xp_region rfl ?_
  refine op_alloc (cs := [_, _, _, _]) rfl rfl fun b6 hb6 => ?_
  refine wp_norm [_, _] rfl ?_
  refine xp_seq ?_
  refine xp_region rfl ?_
  refine op_pure (pv_move (v := .int .i64 _) rfl) ?_
  refine op_pure (pv_min rfl rfl) ?_
  refine op_pure (pv_max rfl rfl) ?_
  refine op_pure (pv_assign (v := .int .i64 _) rfl) ?_
  refine xp_seq ?_
  refine xp_region rfl ?_
  refine op_pure (pv_move (v := .pointer (some ⟨b, 0, none⟩)) rfl) ?_
  refine op_pure (pv_move (v := .int .i64 _) rfl) ?_
  refine op_pure (pv_move (v := .int .i64 _) rfl) ?_
  refine op_fnMM [] [_] [_] (vs := [.pointer _, .int .i64 _, .int .i64 _, .int .i64 _, .int .i64 _]) rfl rfl rfl ((Near_ok b x (max (-30) (min 30 tone)) (-30) 30 wide (by omega) (by omega) h)) ?_
  rintro _ h1 _ E1 ⟨x1, u1, w1, rfl, rfl, a1, a2, a3, a4⟩
  refine wp_norm [_, _] rfl ?_
  refine op_pure (pv_move (v := .pointer (some ⟨b, 0, none⟩)) rfl) ?_
  refine op_pure (pv_move (v := .pointer (some ⟨b, 0, none⟩)) rfl) ?_
  refine op_pure (pv_move (v := .pointer (some ⟨b, 0, none⟩)) rfl) ?_
  refine op_fnMM [] [_] [_] (vs := [.pointer _, .int .i64 _, .int .i64 _]) rfl rfl rfl ((Within_ok b x1 (-2) 2 (by omega) (by omega) (by omega) h1)) ?_
  rintro _ h2 _ E2 ⟨x2, k2, rfl, rfl, k21, k22⟩
  refine wp_norm [_, _] rfl ?_
  refine op_buildSlice (zc := [_]) (vs := [(0, .int .i64 _), (1, .int .i64 _), (2, .int .i64 _)]) (cs := [_, _, _]) rfl rfl rfl rfl rfl rfl rfl fun b18 hb18 => ?_
  refine wp_norm [_, _, _] rfl ?_
  refine wp_pub 2 rfl rfl ?_
  intro h3 E3 p3
  refine wp_norm [_, _, _] rfl ?_
  refine op_fnMM [] [_] [_, _] (vs := [.pointer _, .slice _ _ _]) rfl rfl rfl ((Of_ok b x2 [0, 0, k2] (by simp) (by simp) _ _ h3 (row_of_block (enc := intC) (m := 1) (l := [0, 0, k2]) (fun _ _ => rfl) p3))) ?_
  rintro _ h4 _ E4 ⟨x4, k4, rfl, rfl, k4m⟩
  refine wp_norm [_, _, _] rfl ?_
  have k4b : -2 ≤ k4 ∧ k4 ≤ 2 := by simp at k4m; omega
  refine op_pure (pv_move (v := .int .i64 _) rfl) ?_
  refine op_pure (pv_min rfl rfl) ?_
  refine op_fnMM [] [_] [_, _] (vs := [.pointer _, .int .i64 _, .int .i64 _, .int .i64 _, .int .i64 _]) rfl rfl rfl ((Near_ok b x4 k4 (-3) 3 (min wide 1) (by omega) (by omega) h4)) ?_
  rintro _ h5 _ E5 ⟨x5, u5, w5, rfl, rfl, c1, c2, c3, c4⟩
  refine wp_norm [_, _, _] rfl ?_
  refine op_pure (pv_build (zc := [_, _, _, _]) (vs := [(0, .agg #[.int .i64 _, .int .i64 _]), (1, .agg #[.int .i64 _, .int .i64 _])]) (cs := [_, _, _, _]) rfl rfl rfl rfl rfl rfl) ?_
  refine op_storeP 1 (v := .agg #[.int .i64 _, .int .i64 _, .int .i64 _, .int .i64 _]) (vs := [_, _, _, _]) (c' := [_, _, _, _]) rfl rfl rfl rfl rfl rfl rfl rfl rfl ?_
  refine wp_norm [_, _, _] rfl ?_
  refine xp_ret ?_
  refine res_list (vs := [_]) Try.results28 ⟨resV_agg 1 rfl rfl rfl rfl rfl (vs := [.int .i64 _, .int .i64 _, .int .i64 _, .int .i64 _]) rfl, trivial⟩ fun V => ?_
  obtain ⟨h9, E9, e9, V9⟩ := wl_drop [_, _] [_] V
  exact ⟨h9, _, e9, V9, Ext.trans (Ext.trans (Ext.trans (Ext.trans (Ext.trans E1 E2) E3) E4) E5) E9, x5, ⟨⟨max (-30) (max (-30) (min 30 tone) - u1), min 30 (max (-30) (min 30 tone) + w1)⟩, ⟨max (-3) (k4 - u5), min 3 (k4 + w5)⟩⟩, rfl, rfl, ⟨by dsimp only; omega, by dsimp only; omega, by dsimp only; omega, by dsimp only; omega, by dsimp only; omega, by dsimp only; omega⟩⟩
theorem LawOf_ok (b x : Nat) (n : Int) (hn : 0 ≤ n ∧ n ≤ 6) (h : AH) : FnM Try.prog (.func (.func 27) #[] ([] : List Value).toArray) [.pointer (some ⟨b, 0, none⟩), .int .i64 n] h [some (b, .cells #[.int .u64 (x : Int)] 76 (0, 0))]
    (fun v h' M' => ∃ (x' : Nat) (w : LawP), M' = [some (b, .cells #[.int .u64 (x' : Int)] 76 (0, 0))] ∧ v = lawV w ∧ (5 ≤ w.first ∧ w.first ≤ 25) ∧ (1 ≤ w.span ∧ w.span ≤ 8) ∧ (0 ≤ w.press ∧ w.press ≤ 3) ∧ (-(5 / max 1 n) ≤ w.step ∧ w.step ≤ 5 / max 1 n)) := by
  have hq : 0 ≤ 5 / max 1 n ∧ 5 / max 1 n ≤ 5 := by
    have h : n = 0 ∨ n = 1 ∨ n = 2 ∨ n = 3 ∨ n = 4 ∨ n = 5 ∨ n = 6 := by omega
    rcases h with rfl | rfl | rfl | rfl | rfl | rfl | rfl <;> decide
  generalize hqq : 5 / max 1 n = q at *
  refine fnM_body rfl rfl Try.func27 rfl Try.ntmps27 rfl ?_
  refine xp_seq ?_
  refine xp_region rfl ?_
  refine op_alloc (cs := [_, _, _, _]) rfl rfl fun b4 hb4 => ?_
  refine wp_norm [_, _] rfl ?_
  refine xp_seq ?_
  refine xp_region rfl ?_
  refine op_pure (pv_move (v := .pointer (some ⟨b, 0, none⟩)) rfl) ?_
  refine op_fnMM [] [_] [_] (vs := [.pointer _, .int .i64 _, .int .i64 _]) rfl rfl rfl ((Within_ok b x 5 25 (by omega) (by omega) (by omega) h)) ?_
  rintro _ h1 _ E1 ⟨x1, f, rfl, rfl, f1, f2⟩
  refine wp_norm [_, _] rfl ?_
  refine op_pure (pv_move (v := .pointer (some ⟨b, 0, none⟩)) rfl) ?_
  refine op_fnMM [] [_] [_] (vs := [.pointer _, .int .i64 _, .int .i64 _]) rfl rfl rfl ((Within_ok b x1 1 8 (by omega) (by omega) (by omega) h1)) ?_
  rintro _ h2 _ E2 ⟨x2, sp, rfl, rfl, s1, s2⟩
  refine wp_norm [_, _] rfl ?_
  refine op_pure (pv_move (v := .pointer (some ⟨b, 0, none⟩)) rfl) ?_
  refine op_fnMM [] [_] [_] (vs := [.pointer _, .int .i64 _]) rfl rfl rfl ((Upto_ok b x2 3 (by omega) h2)) ?_
  rintro _ h3 _ E3 ⟨x3, p, rfl, rfl, p1, p2⟩
  refine wp_norm [_, _] rfl ?_
  refine op_pure (pv_build (zc := [_, _, _, _]) (vs := [(0, .int .i64 _), (2, .int .i64 _), (3, .int .i64 _)]) (cs := [_, _, _, _]) rfl rfl rfl rfl rfl rfl) ?_
  refine op_alloc (cs := [_, _, _, _]) rfl rfl fun b5 hb5 => ?_
  refine wp_norm [_, _, _] rfl ?_
  refine op_storeP 2 (v := .agg #[.int .i64 _, .int .i64 _, .int .i64 _, .int .i64 _]) (vs := [_, _, _, _]) (c' := [_, _, _, _]) rfl rfl rfl rfl rfl rfl rfl rfl rfl ?_
  refine wp_norm [_, _, _] rfl ?_
  refine xp_seq ?_
  refine xp_seq ?_
  refine xp_region rfl ?_
  refine op_pure (pv_move (v := .int .i64 _) rfl) ?_
  refine op_pure (pv_max rfl rfl) ?_
  refine op_pure (pv_quoT (c := q) rfl rfl (by omega) (by rw [Int.tdiv_eq_ediv_of_nonneg (by omega)]; exact hqq) (by omega)) ?_
  refine op_pure (pv_min rfl rfl) ?_
  refine op_pure (pv_assign (v := .int .i64 _) rfl) ?_
  refine xp_seq ?_
  refine xp_region rfl ?_
  refine op_pure (pv_move (v := .int .i64 _) rfl) ?_
  refine op_pure (pv_of (v := .bool _) rfl) ?_
  refine xp_cond rfl (fun hc => ?_) (fun hc => ?_)
  · skip
    refine xp_region rfl ?_
    refine op_pure (pv_move (v := .pointer (some ⟨b, 0, none⟩)) rfl) ?_
    refine op_pure (pv_move (v := .int .i64 _) rfl) ?_
    refine op_pure (pv_arith rfl (by omega)) ?_
    refine op_pure (pv_move (v := .int .i64 _) rfl) ?_
    refine op_fnMM [] [_] [_, _] (vs := [.pointer _, .int .i64 _, .int .i64 _]) rfl rfl rfl ((Within_ok b x3 (0 - min 5 q) (min 5 q) (by omega) (by omega) (by omega) h3)) ?_
    rintro _ h4 _ E4 ⟨x4, st, rfl, rfl, t1, t2⟩
    refine wp_norm [_, _, _] rfl ?_
    refine op_pure (pv_fieldAddr rfl rfl rfl rfl 1 rfl) ?_
    refine op_storeP 2 (v := .int .i64 _) (vs := [_]) (c' := [_, _, _, _]) rfl rfl rfl rfl rfl rfl rfl rfl rfl ?_
    refine wp_norm [_, _, _] rfl ?_
    refine xp_seq ?_
    refine xp_region rfl ?_
    refine op_loadPA 2 (vs := [.int .i64 _, .int .i64 _, .int .i64 _, .int .i64 _]) rfl rfl rfl rfl rfl ?_
    refine op_storeP 1 (v := .agg #[.int .i64 _, .int .i64 _, .int .i64 _, .int .i64 _]) (vs := [_, _, _, _]) (c' := [_, _, _, _]) rfl rfl rfl rfl rfl rfl rfl rfl rfl ?_
    refine wp_norm [_, _, _] rfl ?_
    refine xp_ret ?_
    refine res_list (vs := [_]) Try.results27 ⟨resV_agg 1 rfl rfl rfl rfl rfl (vs := [.int .i64 _, .int .i64 _, .int .i64 _, .int .i64 _]) rfl, trivial⟩ fun V => ?_
    obtain ⟨h9, E9, e9, V9⟩ := wl_drop [_, _] [_] V
    exact ⟨h9, _, e9, V9, Ext.trans (Ext.trans (Ext.trans (Ext.trans E1 E2) E3) E4) E9, x4, ⟨f, st, sp, p⟩, rfl, rfl, ⟨f1, f2⟩, ⟨s1, s2⟩, ⟨p1, by show p ≤ 3; omega⟩, ⟨by show -q ≤ st; omega, by show st ≤ q; omega⟩⟩
  · skip
    refine xp_skip ?_
    refine xp_seq ?_
    refine xp_region rfl ?_
    refine op_loadPA 2 (vs := [.int .i64 _, .int .i64 _, .int .i64 _, .int .i64 _]) rfl rfl rfl rfl rfl ?_
    refine op_storeP 1 (v := .agg #[.int .i64 _, .int .i64 _, .int .i64 _, .int .i64 _]) (vs := [_, _, _, _]) (c' := [_, _, _, _]) rfl rfl rfl rfl rfl rfl rfl rfl rfl ?_
    refine wp_norm [_, _, _] rfl ?_
    refine xp_ret ?_
    refine res_list (vs := [_]) Try.results27 ⟨resV_agg 1 rfl rfl rfl rfl rfl (vs := [.int .i64 _, .int .i64 _, .int .i64 _, .int .i64 _]) rfl, trivial⟩ fun V => ?_
    obtain ⟨h9, E9, e9, V9⟩ := wl_drop [_, _] [_] V
    exact ⟨h9, _, e9, V9, Ext.trans (Ext.trans (Ext.trans E1 E2) E3) E9, x3, ⟨f, 0, sp, p⟩, rfl, rfl, ⟨f1, f2⟩, ⟨s1, s2⟩, ⟨p1, by show p ≤ 3; omega⟩, ⟨by show -q ≤ 0; omega, by show 0 ≤ q; omega⟩⟩
end
end Go.Proofs.Ytlfbcimcehcomaa
/- Walks: scales made of numbers. Conditions: as each theorem states. -/
namespace Go.Proofs.Ytlfbcimcehcomaa
open Go Go.HL Go.Proofs Go.Wx Go.Rd Go.Vo
section
variable [Lvl]
set_option maxRecDepth 100000
theorem due_bd {n : Nat} (hn : n ≤ 3) {f st : Int} (hf : 5 ≤ f ∧ f ≤ 14) (hs : -(5 / max 1 (n : Int)) ≤ st ∧ st ≤ 5 / max 1 (n : Int)) (k : Nat) (hk : k < n) : 0 ≤ f + st * k ∧ f + st * k ≤ 30 := by
  have h : n = 0 ∨ n = 1 ∨ n = 2 ∨ n = 3 := by omega
  rcases h with rfl | rfl | rfl | rfl
  · omega
  · have : k = 0 := by omega
    subst this
    simp; omega
  · have h2 : -2 ≤ st ∧ st ≤ 2 := hs
    have : k = 0 ∨ k = 1 := by omega
    rcases this with rfl | rfl <;> simp <;> omega
  · have h2 : -1 ≤ st ∧ st ≤ 1 := hs
    have : k = 0 ∨ k = 1 ∨ k = 2 := by omega
    rcases this with rfl | rfl | rfl <;> simp <;> omega
theorem mem_one' {α : Type} {P : α → Prop} {l : List α} {z : α} (h : ∀ x ∈ l, P x) (hz : P z) : ∀ x ∈ l ++ [z], P x := fun x hx => by
  rcases List.mem_append.1 hx with hx | hx
  · exact h x hx
  · rw [List.mem_singleton.1 hx]; exact hz
set_option maxHeartbeats 8000000 in
theorem ScaleOf_ok (b x : Nat) (h : AH) : FnM Try.prog (.func (.func 7) #[] ([] : List Value).toArray) [.pointer (some ⟨b, 0, none⟩), .int .i64 4, .int .i64 3, .int .i64 2] h [some (b, .cells #[.int .u64 (x : Int)] 76 (0, 0))]
    (fun v h' M' => ∃ (x' : Nat) (s : ScaP) (n : Nat) (A : Option Addr) (cA : Nat), M' = [some (b, .cells #[.int .u64 (x' : Int)] 76 (0, 0))] ∧ v = scaV A cA s ∧ SlX h' 1 TS s.rows (.slice A s.rows.length cA) ∧ ScaB s n) := by
  refine fnM_body rfl rfl Try.func7 rfl Try.ntmps7 rfl ?_
  refine xp_seq ?_
  refine xp_region rfl ?_
  refine op_alloc (cs := [_, _, _, _, _]) rfl rfl fun b8 hb8 => ?_
  refine wp_norm [_, _] rfl ?_
  refine xp_seq ?_
  refine xp_region rfl ?_
  refine op_pure (pv_move (v := .pointer (some ⟨b, 0, none⟩)) rfl) ?_
  refine op_pure (pv_move (v := .int .i64 _) rfl) ?_
  refine op_pure (pv_min rfl rfl) ?_
  refine op_fnMM [] [_] [_] (vs := [.pointer _, .int .i64 _]) rfl rfl rfl ((Upto_ok b x (min 3 6) (by omega) h)) ?_
  rintro _ h1 _ E1 ⟨x1, n', rfl, rfl, n1, n2⟩
  refine wp_norm [_, _] rfl ?_
  obtain ⟨n, rfl⟩ : ∃ n : Nat, n' = n := ⟨n'.toNat, by omega⟩
  have hn3 : n ≤ 3 := by omega
  refine op_pure (pv_assign (v := .int .i64 _) rfl) ?_
  refine xp_seq ?_
  refine xp_region rfl ?_
  refine op_pure (pv_move (v := .pointer (some ⟨b, 0, none⟩)) rfl) ?_
  refine op_pure (pv_move (v := .int .i64 _) rfl) ?_
  refine op_fnMM [] [_] [_] (vs := [.pointer _, .int .i64 _]) rfl rfl rfl ((LawOf_ok b x1 (n : Int) (by omega) h1)) ?_
  rintro _ h2 _ E2 ⟨x2, ⟨f, st, sp, pr⟩, rfl, rfl, ⟨f1, f2⟩, ⟨s1, s2⟩, ⟨p1, p2⟩, ⟨t1, t2⟩⟩
  refine wp_norm [_, _] rfl ?_
  have t5 : -5 ≤ st ∧ st ≤ 5 := by
    have h : n = 0 ∨ n = 1 ∨ n = 2 ∨ n = 3 := by omega
    have hq : (5 : Int) / max 1 (n : Int) ≤ 5 := by rcases h with rfl | rfl | rfl | rfl <;> decide
    dsimp only at t1 t2
    omega
  have db := due_bd hn3 (f := min f 14) (st := st) (by dsimp only at *; omega) ⟨t1, t2⟩
  dsimp only at f1 f2 s1 s2 p1 p2
  refine op_pure (pv_build (zc := [_, _, _, _, _]) (vs := [(0, .agg #[.int .i64 _, .int .i64 _, .int .i64 _, .int .i64 _])]) (cs := [_, _, _, _, _]) rfl rfl rfl rfl rfl rfl) ?_
  refine op_alloc (cs := [_, _, _, _, _]) rfl rfl fun b10 hb10 => ?_
  refine wp_norm [_, _, _] rfl ?_
  refine op_storeP 2 (v := .agg #[.int .i64 _, .int .i64 _, .int .i64 _, .int .i64 _, .slice _ _ _]) (vs := [_, _, _, _, _]) (c' := [_, _, _, _, _]) rfl rfl rfl rfl rfl rfl rfl rfl rfl ?_
  refine wp_norm [_, _, _] rfl ?_
  refine xp_seq ?_
  refine xp_region rfl ?_
  refine op_pure (pv_fieldAddr rfl rfl rfl rfl 0 rfl) ?_
  refine op_pure (pv_fieldAddr rfl rfl rfl rfl 0 rfl) ?_
  refine op_loadP 2 (v := .int .i64 _) rfl rfl rfl rfl ?_
  refine op_pure (pv_min rfl rfl) ?_
  refine op_pure (pv_fieldAddr rfl rfl rfl rfl 0 rfl) ?_
  refine op_pure (pv_fieldAddr rfl rfl rfl rfl 0 rfl) ?_
  refine op_storeP 2 (v := .int .i64 _) (vs := [_]) (c' := [_, _, _, _, _]) rfl rfl rfl rfl rfl rfl rfl rfl rfl ?_
  refine wp_norm [_, _, _] rfl ?_
  refine goes_more ?_
  refine goes_norm [_, _, _, _] rfl ?_
  refine xp_seq ?_
  refine xp_seq ?_
  refine xp_region rfl ?_
  refine op_pure (pv_move (v := .pointer (some ⟨b, 0, none⟩)) rfl) ?_
  refine op_pure (pv_move (v := .int .i64 _) rfl) ?_
  refine op_pure (pv_min rfl rfl) ?_
  refine op_fnMM [] [_] [_, _, _] (vs := [.pointer _, .int .i64 _]) rfl rfl rfl ((Upto_ok b x2 (min 4 4) (by omega) h2)) ?_
  rintro _ h3 _ E3 ⟨x3, i0, rfl, rfl, i1, i2⟩
  refine wp_norm [_, _, _, _] rfl ?_
  refine op_pure (pv_assign (v := .int .i64 _) rfl) ?_
  refine xp_block ?_
  -- L = b b8 b10 racc
  refine xp_loopL [11, 12, 13, 14, 15, 34, 35, 36, 37, 38, 39, 40, 41, 42, 43, 44, 45, 46, 47, 48, 49, 50, 51, 52, 53, 54, 55, 56, 57, 58, 59, 60, 61, 62, 63, 64, 65, 66, 67, 68, 69, 70, 71, 72, 73, 74, 75, 76, 77, 78, 79, 80, 81, 82, 83, 84, 85, 86, 87, 88, 89, 90, 91, 92, 93, 94, 95] 4 (α := Int × Nat × Acc × List (List SndP) × List (List Value)) (fun ⟨i, y, a, rs, cs⟩ => [(11, .int .i64 i)]) (fun ⟨i, y, a, rs, cs⟩ L => ((L.set 0 (some (b, .cells #[.int .u64 (y : Int)] 76 (0, 0)))).set 2 (some (b10, .cells #[.int .i64 (min f 14), .int .i64 st, .int .i64 sp, .int .i64 pr, .slice a.A a.n a.c] 34 (0, 0)))).set 3 (a.p)) (fun ⟨i, y, a, rs, cs⟩ h_i => (0 ≤ i ∧ i + rs.length ≤ 4) ∧ AccR 83 1 (cs.flatMap id) a ∧ Els h_i TS rs cs ∧ (∀ c ∈ cs, c.length = 1) ∧ (∀ r ∈ rs, r.length = n) ∧ (∀ r ∈ rs, ∀ z ∈ r, SndB z)) (fun ⟨i, y, a, rs, cs⟩ => i.toNat) ((i0, x3, acc0, [], [])) ⟨rfl, trivial⟩ (rfl) (⟨⟨by omega, by simp; omega⟩, accR0, Els.nil _ _, fun _ h => absurd h List.not_mem_nil, fun _ h => absurd h List.not_mem_nil, fun _ h => absurd h List.not_mem_nil⟩) ?_
  rintro ⟨i, y, a, rs, cs⟩ T1 h_i E_i J_i
  refine goes_norm [_, _, _, _] rfl ?_
  obtain ⟨⟨K1, K2⟩, K3, K4, K5, K6, K7⟩ := J_i
  have hcl : cs.length = rs.length := K4.1
  have han : a.n = rs.length := by have := AccR.len K3; rw [flat_len (enc := id) (m := 1) K5] at this; omega
  refine xp_seq ?_
  refine xp_seq ?_
  refine xp_region rfl ?_
  refine op_pure (pv_move (v := .int .i64 _) rfl) ?_
  refine op_pure (pv_of (v := .bool _) rfl) ?_
  refine xp_cond rfl (fun hi => ?_) (fun hi => ?_)
  · skip
    have hi0 : 0 < i := of_decide_eq_true hi
    refine xp_skip ?_
    refine xp_seq ?_
    refine xp_block ?_
    refine xp_seq ?_
    refine xp_region rfl ?_
    refine op_pure (pv_assign (v := .slice _ _ _) rfl) ?_
    refine goes_more ?_
    refine goes_norm [_, _, _, _, _] rfl ?_
    refine xp_seq ?_
    refine xp_seq ?_
    refine xp_region rfl ?_
    refine op_pure (pv_assign (v := .int .i64 _) rfl) ?_
    refine xp_block ?_
    refine xp_loopL [12, 13, 14, 15, 38, 39, 40, 41, 42, 43, 44, 45, 46, 47, 48, 49, 50, 51, 52, 53, 54, 55, 56, 57, 58, 59, 60, 61, 62, 63, 64, 65, 66, 67, 68, 69, 70, 71, 72, 73, 74, 75, 76, 77, 78, 79, 80, 81, 82, 83, 84, 85, 86, 87, 88, 89] 5 (α := Nat × Nat × Acc × List SndP) (fun ⟨k, y2, a2, row⟩ => [(13, .int .i64 k), (12, .slice a2.A a2.n a2.c)]) (fun ⟨k, y2, a2, row⟩ L => (L.set 0 (some (b, .cells #[.int .u64 (y2 : Int)] 76 (0, 0)))).set 4 (a2.p)) (fun ⟨k, y2, a2, row⟩ h_k => k ≤ n ∧ row.length = k ∧ AccR 85 4 (row.flatMap sndC) a2 ∧ (∀ z ∈ row, SndB z)) (fun ⟨k, y2, a2, row⟩ => n - k) ((0, y, acc0, [])) ⟨rfl, rfl, trivial⟩ (rfl) (⟨Nat.zero_le _, rfl, accR0, fun _ h => absurd h List.not_mem_nil⟩) ?_
    rintro ⟨k, y2, a2, row⟩ T2 h_k E_k J_k
    refine goes_norm [_, _, _, _, _] rfl ?_
    obtain ⟨N1, N2, N3, N4⟩ := J_k
    refine xp_seq ?_
    refine xp_seq ?_
    refine xp_region rfl ?_
    refine op_pure (pv_move (v := .int .i64 _) rfl) ?_
    refine op_pure (pv_move (v := .int .i64 _) rfl) ?_
    refine op_pure (pv_of (v := .bool _) rfl) ?_
    refine xp_cond rfl (fun hk => ?_) (fun hk => ?_)
    · skip
      have hkn : k < n := ltI hk
      have dk := db k hkn
      refine xp_skip ?_
      refine xp_seq ?_
      refine xp_block ?_
      refine xp_seq ?_
      refine xp_region rfl ?_
      refine op_pure (pv_move (v := .pointer (some ⟨b, 0, none⟩)) rfl) ?_
      refine op_fnMM [] [_] [_, _, _, _] (vs := [.pointer _, .int .i64 _, .int .i64 _]) rfl rfl rfl ((Within_ok b y2 (-8) 0 (by omega) (by omega) (by omega) h_k)) ?_
      rintro _ h4 _ E4 ⟨y4, tn0, rfl, rfl, v1, v2⟩
      refine wp_norm [_, _, _, _, _] rfl ?_
      refine op_pure (pv_assign (v := .int .i64 _) rfl) ?_
      refine xp_cutB [14, 15, 45, 46, 47, 48, 49, 50, 51, 52, 53, 54, 55, 56, 57, 58, 59, 60, 61, 62, 63, 64, 65, 66, 67, 68, 69, 70, 71, 72, 73, 74, 75, 76, 77, 78, 79, 80, 81, 82] 5 (α := Int × Nat) (fun ⟨tn, y5⟩ => [(14, .int .i64 tn)]) (fun ⟨tn, y5⟩ L => L.set 0 (some (b, .cells #[.int .u64 (y5 : Int)] 76 (0, 0)))) (fun ⟨tn, y5⟩ h_tn => -1000 ≤ tn ∧ tn ≤ 1000) ?_ ?_
      · skip
        refine xp_seq ?_
        refine xp_region rfl ?_
        refine op_pure (pv_fieldAddr rfl rfl rfl rfl 4 rfl) ?_
        refine op_loadP 2 (v := .slice _ _ _) rfl rfl rfl rfl ?_
        refine op_pure (pv_len rfl rfl) ?_
        refine op_pure (pv_assign (v := .int .i64 _) rfl) ?_
        refine xp_seq ?_
        refine xp_region rfl ?_
        refine op_pure (pv_move (v := .int .i64 _) rfl) ?_
        refine op_pure (pv_of (v := .bool _) rfl) ?_
        refine xp_cond rfl (fun hab => ?_) (fun hab => ?_)
        · skip
          have hr0 : 0 < rs.length := by have := of_decide_eq_true hab; omega
          obtain ⟨q, hq⟩ : ∃ q, q = rs.length - 1 := ⟨_, rfl⟩
          have hql : q < rs.length := by omega
          have rl := K6 _ (List.getElem_mem hql)
          have rb := K7 _ (List.getElem_mem hql)
          have hkr : k < rs[q].length := by omega
          have zb := rb _ (List.getElem_mem hkr)
          obtain ⟨z1, z2, z3, _, _, _⟩ := zb
          obtain ⟨hic, v9, e9, B9, d9, ev9, R9⟩ := (K4.ext TS.mono (Ext.trans E_k E4)).at hql
          obtain ⟨g, off, hA, hc⟩ := R9.at (by omega) hkr
          have hfl : ((cs.flatMap id)).length = rs.length := by rw [flat_len (enc := id) (m := 1) K5, hcl, Nat.mul_one]
          obtain ⟨bo, len, cap, junk, hlen, e2⟩ := AccR.some K3 (by intro e; rw [e] at hfl; simp at hfl; omega)
          subst e2
          have m0 : (cs.flatMap id ++ junk).toArray[0 + q * 1]? = some (.slice B9 rs[q].length d9) := by
            rw [List.getElem?_toArray, show 0 + q * 1 = q * 1 + 0 by omega, List.getElem?_append_left (by omega)]
            exact flat_get id 1 cs K5 q cs[q] (List.getElem?_eq_getElem hic) 0 _ (by rw [e9, ev9]; rfl)
          have hlen2 : len = rs.length := han
          refine xp_dw [true, false, false, false, false] rfl rfl rfl ?_
          refine dw_pure (i := 0) rfl (by decide +kernel) (pv_fieldAddr rfl rfl rfl rfl 4 rfl) ?_
          refine dw_load (i := 1) rfl (by decide +kernel) ?_
          refine op_loadP 2 (v := .slice _ _ _) rfl rfl rfl rfl ?_
          refine dw_pure (i := 2) rfl (by decide +kernel) (pv_move (v := .int .i64 _) rfl) ?_
          refine dw_pure (i := 3) rfl (by decide +kernel) (pv_val (v' := .int .i64 ((q : Nat) : Int)) (congrArg (Value.int .i64) (show ((len : Nat) : Int) - 1 = (q : Int) by omega)) (pv_arith rfl (by show -9223372036854775808 ≤ ((len : Nat) : Int) - 1 ∧ ((len : Nat) : Int) - 1 ≤ 9223372036854775807; omega))) ?_
          refine dw_pure (i := 4) rfl (by decide +kernel) (pv_indexE rfl rfl rfl rfl rfl (by omega) (show ((q : Nat) : Int) < ((len : Nat) : Int) by omega)) ?_
          refine dw_load (i := 5) rfl (by decide +kernel) ?_
          refine op_loadP 3 (v := .slice B9 rs[q].length d9) rfl rfl rfl m0 ?_
          refine dw_pure (i := 6) rfl (by decide +kernel) (pv_move (v := .int .i64 _) rfl) ?_
          refine dw_pure (i := 7) rfl (by decide +kernel) (pv_indexE rfl hA rfl rfl rfl (by omega) (by omega)) ?_
          refine dw_pure (i := 8) rfl (by decide +kernel) (pv_fieldAddr rfl rfl rfl rfl _ rfl) ?_
          refine dw_pure (i := 9) rfl (by decide +kernel) (pv_fieldAddr rfl rfl rfl rfl _ rfl) ?_
          refine dw_load (i := 10) rfl (by decide +kernel) ?_
          refine op_load (v := .int .i64 _) rfl rfl (hc 0 _ rfl) ?_
          refine dw_pure (i := 11) rfl (by decide +kernel) (pv_fieldAddr rfl rfl rfl rfl 0 rfl) ?_
          refine dw_pure (i := 12) rfl (by decide +kernel) (pv_fieldAddr rfl rfl rfl rfl 0 rfl) ?_
          refine dw_load (i := 13) rfl (by decide +kernel) ?_
          refine op_loadP 2 (v := .int .i64 _) rfl rfl rfl rfl ?_
          refine dw_pure (i := 14) rfl (by decide +kernel) (pv_arith rfl (by omega)) ?_
          refine dw_pure (i := 15) rfl (by decide +kernel) (pv_fieldAddr rfl rfl rfl rfl 0 rfl) ?_
          refine dw_pure (i := 16) rfl (by decide +kernel) (pv_fieldAddr rfl rfl rfl rfl 1 rfl) ?_
          refine dw_load (i := 17) rfl (by decide +kernel) ?_
          refine op_loadP 2 (v := .int .i64 _) rfl rfl rfl rfl ?_
          refine dw_pure (i := 18) rfl (by decide +kernel) (pv_move (v := .int .i64 _) rfl) ?_
          refine dw_pure (i := 19) rfl (by decide +kernel) (pv_arith rfl (by omega)) ?_
          refine dw_pure (i := 20) rfl (by decide +kernel) (pv_arith rfl (by omega)) ?_
          refine dw_pure (i := 21) rfl (by decide +kernel) (pv_move (v := .pointer (some ⟨b, 0, none⟩)) rfl) ?_
          refine dw_pure (i := 22) rfl (by decide +kernel) (pv_fieldAddr rfl rfl rfl rfl 0 rfl) ?_
          refine dw_pure (i := 23) rfl (by decide +kernel) (pv_fieldAddr rfl rfl rfl rfl 2 rfl) ?_
          refine dw_load (i := 24) rfl (by decide +kernel) ?_
          refine op_loadP 2 (v := .int .i64 _) rfl rfl rfl rfl ?_
          refine dw_pure (i := 25) rfl (by decide +kernel) (pv_arith rfl (by omega)) ?_
          refine dw_pure (i := 26) rfl (by decide +kernel) (pv_arith rfl (by omega)) ?_
          refine dw_pure (i := 27) rfl (by decide +kernel) (pv_fieldAddr rfl rfl rfl rfl 0 rfl) ?_
          refine dw_pure (i := 28) rfl (by decide +kernel) (pv_fieldAddr rfl rfl rfl rfl 2 rfl) ?_
          refine dw_load (i := 29) rfl (by decide +kernel) ?_
          refine op_loadP 2 (v := .int .i64 _) rfl rfl rfl rfl ?_
          refine dw_pure (i := 30) rfl (by decide +kernel) (pv_arith rfl (by omega)) ?_
          refine dw_eff (i := 31) rfl (by decide +kernel) ?_
          refine op_fnMM [] [_] [_, _, _, _] (vs := [.pointer _, .int .i64 _, .int .i64 _]) rfl rfl rfl ((Within_ok b y4 (0 - sp - 1) (sp + 1) (by omega) (by omega) (by omega) h4)) ?_
          rintro _ h5 _ E5 ⟨y5, tw, rfl, rfl, tw1, tw2⟩
          refine ⟨ext_wlm E5 _, ?_⟩
          refine dw_norm [_, _, _, _, _] rfl ?_
          refine dw_pure (i := 32) rfl (by decide +kernel) (pv_arith rfl (by omega)) ?_
          refine dw_pure (i := 33) rfl (by decide +kernel) (pv_assign (v := .int .i64 _) rfl) ?_
          refine dw_end rfl ?_
          refine ⟨(_, y5), ⟨rfl, trivial⟩, rfl, rfl, E5, fun h3 E3 => ⟨by omega, by omega⟩, ?_⟩
          repeat (first | exact off_refl _ _ | exact off_base _ _ _ | refine off_upd (by decide) ?_ | refine off_updL rfl ?_ | refine off_mix rfl ?_)
        · skip
          refine xp_skip ?_
          refine ⟨(tn0, y4), ⟨rfl, trivial⟩, rfl, rfl, (Ext.refl _), fun h3 E3 => ⟨by omega, by omega⟩, ?_⟩
          repeat (first | exact off_refl _ _ | exact off_base _ _ _ | refine off_upd (by decide) ?_ | refine off_updL rfl ?_ | refine off_mix rfl ?_)
      · rintro ⟨tn, y5⟩ T3 h_tn E_tn J_tn
        refine goes_norm [_, _, _, _, _] rfl ?_
        obtain ⟨w1, w2⟩ := J_tn
        refine xp_region rfl ?_
        refine op_pure (pv_move (v := .slice _ _ _) rfl) ?_
        refine op_pure (pv_move (v := .pointer (some ⟨b, 0, none⟩)) rfl) ?_
        refine op_pure (pv_move (v := .int .i64 _) rfl) ?_
        refine op_pure (pv_move (v := .int .i64 _) rfl) ?_
        refine op_fnMM [] [_] [_, _, _, _] (vs := [.pointer _, .int .i64 _, .int .i64 _]) rfl rfl rfl ((SoundOf_ok b y5 tn 2 (by omega) (by omega) h_tn)) ?_
        rintro _ h6 _ E6 ⟨y6, sd, rfl, rfl, SB⟩
        refine wp_norm [_, _, _, _, _] rfl ?_
        refine op_buildSlice (zc := [_, _, _, _]) (vs := [(0, .agg #[.int .i64 _, .int .i64 _, .int .i64 _, .int .i64 _])]) (cs := [_, _, _, _]) rfl rfl rfl rfl rfl rfl rfl fun b88 hb88 => ?_
        refine wp_norm [_, _, _, _, _, _] rfl ?_
        refine op_appendR 4 N3 rfl rfl rfl (fun V => rdP V (i := 5) rfl) rfl rfl rfl rfl rfl rfl rfl rfl rfl (by omega) rfl (by rw [flat_len (m := 4) (fun _ _ => rfl)]; simp; omega) fun a7 h4a E4a ha7 => ?_
        refine wp_norm [_, _, _, _, _, _] rfl ?_
        refine op_pure (pv_assign (v := .slice _ _ _) rfl) ?_
        refine xp_region rfl ?_
        refine op_pure (pv_move (v := .int .i64 _) rfl) ?_
        refine op_pure (pv_arith rfl (by omega)) ?_
        refine op_pure (pv_assign (v := .int .i64 _) rfl) ?_
        refine ⟨(k + 1, y6, a7, row ++ [sd]), ⟨rfl, rfl, trivial⟩, rfl, rfl, (Ext.trans (Ext.trans (Ext.trans (Ext.trans E_k E4) E_tn) E6) E4a), fun h3 E3 => ⟨hkn, by rw [List.length_append, N2]; rfl, by rw [List.flatMap_append]; exact ha7, fun z hz => (List.mem_append.1 hz).elim (N4 z) (fun h => by rw [List.mem_singleton.1 h]; exact SB)⟩, by first | omega | (dsimp only; omega), ?_⟩
        repeat (first | exact off_base _ _ _ | refine off_upd (by decide) ?_ | refine off_updL rfl ?_ | refine off_mix rfl ?_)
    · skip
      have hke : k = n := by have := geI hk; omega
      obtain ⟨p8, A8, n8, c8⟩ := a2
      obtain rfl : n8 = row.length := by have := AccR.len N3; rw [flat_len (m := 4) (fun _ _ => rfl)] at this; dsimp only at this; omega
      dsimp only at *
      refine goes_pubO 4 rfl ?_
      intro g8 G8 P8
      refine goes_norm [_, _, _, _, _] rfl ?_
      have RW : Row g8 4 sndC A8 row := ⟨fun _ _ => rfl, AccR.rd N3 P8⟩
      refine xp_exit ?_
      refine xp_region rfl ?_
      refine op_pure (pv_fieldAddr rfl rfl rfl rfl 4 rfl) ?_
      refine op_loadP 2 (v := .slice _ _ _) rfl rfl rfl rfl ?_
      refine op_pure (pv_move (v := .slice _ _ _) rfl) ?_
      refine op_buildSlice (zc := [_]) (vs := [(0, .slice _ _ _)]) (cs := [_]) rfl rfl rfl rfl rfl rfl rfl fun b93 hb93 => ?_
      refine wp_norm [_, _, _, _, _, _] rfl ?_
      refine op_appendR 3 K3 rfl rfl rfl (fun V => rdP V (i := 5) rfl) rfl rfl rfl rfl rfl rfl rfl rfl rfl (by omega) rfl (by rw [flat_len (enc := id) (m := 1) K5]; simp; omega) fun a9 h5a E5a ha9 => ?_
      refine wp_norm [_, _, _, _, _, _] rfl ?_
      refine op_pure (pv_fieldAddr rfl rfl rfl rfl 4 rfl) ?_
      refine op_storeP 2 (v := .slice _ _ _) (vs := [_]) (c' := [_, _, _, _, _]) rfl rfl rfl rfl rfl rfl rfl rfl rfl ?_
      refine wp_norm [_, _, _, _, _, _] rfl ?_
      refine xp_region rfl ?_
      refine op_pure (pv_move (v := .int .i64 _) rfl) ?_
      refine op_pure (pv_arith rfl (by omega)) ?_
      refine op_pure (pv_assign (v := .int .i64 _) rfl) ?_
      refine ⟨(i - 1, y2, a9, rs ++ [row], cs ++ [[.slice A8 row.length c8]]), ⟨rfl, trivial⟩, rfl, rfl, (Ext.trans (Ext.trans (Ext.trans E_i E_k) G8) E5a), fun h3 E3 => ⟨⟨by omega, by rw [List.length_append, List.length_singleton]; omega⟩, by rw [List.flatMap_append]; exact ha9, Els.snoc (K4.ext TS.mono (((Ext.trans (Ext.trans E_k G8) E5a)).trans E3)) ⟨_, rfl, A8, c8, rfl, RW.ext ((E5a).trans E3)⟩, mem_one' K5 rfl, mem_one' K6 (by omega), mem_one' K7 N4⟩, by first | omega | (dsimp only; omega), ?_⟩
      repeat (first | exact off_base _ _ _ | refine off_upd (by decide) ?_ | refine off_updL rfl ?_ | refine off_mix rfl ?_)
  · skip
    obtain ⟨p8, A8, n8, c8⟩ := a
    obtain rfl : n8 = rs.length := han
    dsimp only at *
    refine goes_pubO 3 rfl ?_
    intro g8 G8 P8
    refine goes_norm [_, _, _, _] rfl ?_
    have RR : Row g8 1 id A8 cs := ⟨K5, AccR.rd K3 P8⟩
    refine xp_exit ?_
    refine xp_seq ?_
    refine xp_region rfl ?_
    refine op_loadPA 2 (vs := [.int .i64 _, .int .i64 _, .int .i64 _, .int .i64 _, .slice _ _ _]) rfl rfl rfl rfl rfl ?_
    refine op_storeP 1 (v := .agg #[.int .i64 _, .int .i64 _, .int .i64 _, .int .i64 _, .slice _ _ _]) (vs := [_, _, _, _, _]) (c' := [_, _, _, _, _]) rfl rfl rfl rfl rfl rfl rfl rfl rfl ?_
    refine wp_norm [_, _, _, _] rfl ?_
    refine xp_ret ?_
    refine res_list (vs := [_]) Try.results7 ⟨resV_agg 1 rfl rfl rfl rfl rfl (vs := [.int .i64 _, .int .i64 _, .int .i64 _, .int .i64 _, .slice _ _ _]) rfl, trivial⟩ fun V => ?_
    obtain ⟨h9, E9, e9, V9⟩ := wl_drop [_, _, _] [_] V
    exact ⟨h9, _, e9, V9, Ext.trans (Ext.trans (Ext.trans (Ext.trans (Ext.trans E1 E2) E3) E_i) G8) E9, y, ⟨⟨min f 14, st, sp, pr⟩, rs⟩, n, A8, c8, rfl, rfl, SlX.of (RR.ext E9) (K4.ext TS.mono (G8.trans E9)) rfl, ⟨⟨by dsimp only; omega, by dsimp only; omega, by dsimp only; omega, by dsimp only; omega, by dsimp only; omega, by dsimp only; omega, by dsimp only; omega, by dsimp only; omega⟩, by dsimp only; omega, by omega, K6, K7, db⟩⟩
end
end Go.Proofs.Ytlfbcimcehcomaa
/- Walks of the laws of rod: the chapter's machine; equal lists and hands. Conditions: as each theorem states. -/
namespace Go.Proofs.Ytlfbcimcehcomaa
open Go Go.HL Go.Proofs Go.Wx Go.Rd
section
variable [Lvl]
set_option maxRecDepth 100000
end
end Go.Proofs.Ytlfbcimcehcomaa
