/- An own logic over the model, its walks and its plain laws, joined of parts O11. Conditions: as each theorem states. -/
import Derived.Test.YtlfbcimcehcomaaLa5
import Derived.Test.YtlfbcimcehcomaaLa6
set_option linter.all false
/- Walks: TopOpened. Conditions: as each theorem states. -/
namespace Go.Proofs.Ytlfbcimcehcomaa
open Go Go.HL Go.Proofs Go.Wx Go.Rd Go.Vo
section
variable [Lvl]
set_option maxRecDepth 100000
theorem first_of {r : List Int} {v : Int} (h : r[0]? = some v) : ∃ t, r = v :: t := by
  cases r with
  | nil => cases h
  | cons a t => cases h; exact ⟨t, rfl⟩
theorem qlast {q n : Nat} (h : (q : Int) = (n : Int) - 1) : q + 1 = n := by omega
theorem last_of {r : List Int} {v : Int} {q : Nat} (hq : q + 1 = r.length) (h : r[q]? = some v) : ∃ t, r = t ++ [v] := by
  refine ⟨r.take q, ?_⟩
  have hq2 : q < r.length := by omega
  have e := take_snoc (l := r) hq2
  rw [List.getElem?_eq_getElem hq2] at h
  rw [Option.some.inj h, hq, List.take_length] at e
  exact e
theorem asc_first {r : List Int} (hp : r.Pairwise (· < ·)) (h0 : 0 < r.length) : ∀ z ∈ r, r[0] ≤ z := by
  intro z hz
  obtain ⟨i, hi, rfl⟩ := List.getElem_of_mem hz
  rcases Nat.eq_zero_or_pos i with h | h
  · subst h; exact Int.le_refl _
  · have := (List.pairwise_iff_getElem.1 hp) 0 i h0 hi h; omega
theorem asc_last {r : List Int} (hp : r.Pairwise (· < ·)) (h0 : r.length - 1 < r.length) : ∀ z ∈ r, z ≤ r[r.length - 1] := by
  intro z hz
  obtain ⟨i, hi, rfl⟩ := List.getElem_of_mem hz
  rcases Nat.lt_or_ge i (r.length - 1) with h | h
  · have := (List.pairwise_iff_getElem.1 hp) i (r.length - 1) hi h0 h; omega
  · have : i = r.length - 1 := by omega
    subst this; exact Int.le_refl _
set_option maxHeartbeats 16000000 in
theorem opened_runs (w : World) (l : List Int) (hl : l.length < 2 ^ 63) (A : Option Addr) (c : Nat) (R : Row (absH w.heap) 1 intC A l) : RunsTrue Try.prog 3 #[.slice A l.length c] w := by
  letI : Lvl := ⟨true, none, none⟩
  refine runs_body Try.func3 rfl Try.ntmps3 rfl Try.results3 rfl (by kernel_rfl) fun h hh => ?_
  rw [← hh] at R
  refine xp_seq ?_
  refine xp_region rfl ?_
  refine op_pure (pv_assign (v := .bool _) rfl) ?_
  refine xp_seq ?_
  refine xp_region rfl ?_
  refine op_pure (pv_move (v := .slice _ _ _) rfl) ?_
  refine op_fnMM [] [] [] rfl rfl rfl ((NewPot_ok l hl A c h R)) ?_
  rintro _ h1 _ E1 ⟨b, x, rfl, rfl⟩
  refine wp_norm [_] rfl ?_
  refine op_pure (pv_assign (v := .pointer _) rfl) ?_
  refine xp_seq ?_
  refine xp_region rfl ?_
  refine op_pure (pv_move (v := .pointer _) rfl) ?_
  refine op_fnMM [] [_] [] (vs := _) rfl rfl rfl ((MachineOf_ok b x 4 6 2 (by omega) (by omega) (by omega) h1)) ?_
  rintro _ h2 _ E2 ⟨x2, m, rfl, VM, Md⟩
  refine wp_norm [_] rfl ?_
  obtain ⟨AB, AQ, AL, AW, cB, cQ, cL, cW, rfl, RM⟩ := VM.open
  have M := Md.ok
  have mbl := Md.bl
  have mlv := M.levers
  have mwl := M.wl
  have mrg := M.regs
  refine op_alloc (cs := [_, _, _, _, _, _, _, _, _]) rfl rfl fun b4 hb4 => ?_
  refine wp_norm [_, _] rfl ?_
  refine op_storeP 1 (v := .agg #[.int .i64 _, .int .i64 _, .int .i64 _, .int .i64 _, .int .i64 _, .slice _ _ _, .slice _ _ _, .slice _ _ _, .slice _ _ _]) (vs := [_, _, _, _, _, _, _, _, _]) (c' := [_, _, _, _, _, _, _, _, _]) rfl rfl rfl rfl rfl rfl rfl rfl rfl ?_
  refine wp_norm [_, _] rfl ?_
  refine xp_seq ?_
  refine xp_region rfl ?_
  refine op_pure (pv_move (v := .pointer _) rfl) ?_
  refine op_fnMM [] [_] [_] (vs := _) rfl rfl rfl ((ScaleOf_ok b x2 h2)) ?_
  rintro _ h3 _ E3 ⟨x3, s, n, SA, cS, rfl, rfl, RS, SB⟩
  refine wp_norm [_, _] rfl ?_
  refine op_alloc (cs := [_, _, _, _, _]) rfl rfl fun b5 hb5 => ?_
  refine wp_norm [_, _, _] rfl ?_
  refine op_storeP 2 (v := .agg #[.int .i64 _, .int .i64 _, .int .i64 _, .int .i64 _, .slice _ _ _]) (vs := [_, _, _, _, _]) (c' := [_, _, _, _, _]) rfl rfl rfl rfl rfl rfl rfl rfl rfl ?_
  refine wp_norm [_, _, _] rfl ?_
  refine xp_seq ?_
  refine xp_region rfl ?_
  refine op_pure (pv_move (v := .pointer _) rfl) ?_
  refine op_loadPA 1 (vs := [.int .i64 _, .int .i64 _, .int .i64 _, .int .i64 _, .int .i64 _, .slice _ _ _, .slice _ _ _, .slice _ _ _, .slice _ _ _]) rfl rfl rfl rfl rfl ?_
  refine op_fnMM [] [_] [_, _] (vs := [.pointer _, .agg _]) rfl rfl rfl ((HandOf_ok b x3 m (by omega) (by omega) AB AQ AL AW cB cQ cL cW h3)) ?_
  rintro _ h4 _ E4 ⟨x4, a, rfl, VH, H⟩
  refine wp_norm [_, _, _] rfl ?_
  obtain ⟨HA, OA, cH, cO, rfl, RH⟩ := VH.open
  have hc0 := hand_of M H
  have hab : a.buttons.length ≤ 3 := by have := asc_len a.buttons 0 m.buttons.length H.b.asc H.b.mem; omega
  have hao : a.on.length ≤ 2 := by have := asc_len a.on 0 m.regs H.o.asc H.o.mem; omega
  have hsL : soundsL m a = listN (soundsM m a m.travel) 6 := if_pos hc0
  have hsl6 := listN_len (soundsM m a m.travel) 6
  have hsasc := listN_asc (soundsM m a m.travel) 6
  rw [← hsL] at hsl6 hsasc
  have HS := Sounds_ok rfl m a AB AQ AL AW HA OA cB cQ cL cW cH cO h4 (RM.ext (Ext.trans E3 E4)) (RH.ext (Ext.refl _)) (by omega) (by omega) (by omega)
  rw [hc0] at HS
  refine op_alloc (cs := [_, _]) rfl rfl fun b6 hb6 => ?_
  refine wp_norm [_, _, _, _] rfl ?_
  refine op_storeP 3 (v := .agg #[.slice _ _ _, .slice _ _ _]) (vs := [_, _]) (c' := [_, _]) rfl rfl rfl rfl rfl rfl rfl rfl rfl ?_
  refine wp_norm [_, _, _, _] rfl ?_
  refine xp_seq ?_
  refine xp_region rfl ?_
  refine op_loadPA 1 (vs := [.int .i64 _, .int .i64 _, .int .i64 _, .int .i64 _, .int .i64 _, .slice _ _ _, .slice _ _ _, .slice _ _ _, .slice _ _ _]) rfl rfl rfl rfl rfl ?_
  refine op_loadPA 3 (vs := [.slice _ _ _, .slice _ _ _]) rfl rfl rfl rfl rfl ?_
  refine op_fn (caps := []) (vs := [.agg _, .agg _]) rfl rfl rfl (HS) ?_
  rintro _ h5 E5 ⟨_, rfl, A5, c5, rfl, R5⟩
  refine op_pure (pv_move (v := .tuple #[.slice _ _ _, .int .i64 _]) rfl) ?_
  refine op_pure (pv_of (v := .slice _ _ _) rfl) ?_
  refine op_pure (pv_of (v := .int .i64 _) rfl) ?_
  refine op_pure (pv_assign (v := .slice _ _ _) rfl) ?_
  refine op_pure (pv_assign (v := .int .i64 _) rfl) ?_
  refine xp_seq ?_
  refine xp_region rfl ?_
  refine op_pure (pv_move (v := .slice _ _ _) rfl) ?_
  refine op_pure (pv_fieldAddr rfl rfl rfl rfl 4 rfl) ?_
  refine op_loadP 2 (v := .slice _ _ _) rfl rfl rfl rfl ?_
  refine op_pure (pv_len rfl rfl) ?_
  obtain ⟨rows, hrows⟩ : ∃ rows, rows = openM (soundsL m a) (s.rows.length : Int) := ⟨_, rfl⟩
  have hrasc : rows.Pairwise (· < ·) := by rw [hrows]; exact openM_asc hsasc _
  have hrb : ∀ x ∈ rows, 0 ≤ x ∧ x < (s.rows.length : Int) := fun x hx => by rw [hrows] at hx; exact (mem_openM.1 hx).2
  have hr4 := SB.r4
  have hrl : rows.length ≤ 4 := by have := asc_len rows 0 (s.rows.length : Int) hrasc hrb; omega
  have hreg := reg_of hrasc hrb
  have HO := opened_ok (soundsL m a) (by omega) (s.rows.length : Int) A5 c5 h5 (R5.ext (Ext.refl _))
  rw [← hrows] at HO
  refine op_fn (caps := []) (vs := [.slice _ _ _, .int .i64 _]) rfl rfl rfl (HO) ?_
  rintro _ h6 E6 ⟨A6, c6, rfl, R6⟩
  refine op_pure (pv_assign (v := .slice _ _ _) rfl) ?_
  refine xp_seq ?_
  refine xp_region rfl ?_
  refine op_loadPA 2 (vs := [.int .i64 _, .int .i64 _, .int .i64 _, .int .i64 _, .slice _ _ _]) rfl rfl rfl rfl rfl ?_
  refine op_pure (pv_move (v := .slice _ _ _) rfl) ?_
  refine op_fn (caps := []) (vs := [.agg _, .slice _ _ _]) rfl rfl rfl (Tremolo_ok s n SB rows hreg hrl SA A6 cS c6 h6 (RS.ext TS.mono (Ext.trans (Ext.trans E4 E5) E6)) (R6.ext (Ext.refl _))) ?_
  rintro _ h7 E7 ⟨_, vs, rfl, ⟨A7, c7, rfl, R7⟩, hvl, hvv⟩
  refine op_pure (pv_move (v := .tuple #[.slice _ _ _, .int .i64 _]) rfl) ?_
  refine op_pure (pv_of (v := .slice _ _ _) rfl) ?_
  refine op_pure (pv_of (v := .int .i64 _) rfl) ?_
  refine op_pure (pv_assign (v := .slice _ _ _) rfl) ?_
  refine op_pure (pv_assign (v := .int .i64 _) rfl) ?_
  refine xp_seq ?_
  refine xp_seq ?_
  refine xp_region rfl ?_
  refine op_pure (pv_move (v := .int .i64 _) rfl) ?_
  refine op_pure (pv_of (v := .bool _) rfl) ?_
  refine op_pure (pv_move (v := .bool _) rfl) ?_
  refine guard_yes rfl rfl ?_
  refine op_pure (pv_move (v := .int .i64 _) rfl) ?_
  refine guard_yes rfl rfl ?_
  refine op_pure (pv_of (v := .bool _) rfl) ?_
  refine op_pure (pv_pickF rfl rfl (v := .bool _) rfl) ?_
  refine xp_condF rfl (rfl) ?_
  refine xp_skip ?_
  refine xp_seq ?_
  refine xp_region rfl ?_
  refine op_pure (pv_move (v := .pointer _) rfl) ?_
  refine op_pure (pv_fieldAddr rfl rfl rfl rfl 0 rfl) ?_
  refine op_loadP 3 (v := .slice _ _ _) rfl rfl rfl rfl ?_
  refine op_pure (pv_len rfl rfl) ?_
  refine op_fnMM [] [_] [_, _, _] (vs := [.pointer _, .int .i64 _]) rfl rfl rfl ((Mix_ok b x4 a.buttons.length (by omega) h7)) ?_
  rintro _ h8 _ E8 ⟨x8, o, rfl, ⟨NA, cN, rfl, RO⟩, O⟩
  refine wp_norm [_, _, _, _] rfl ?_
  have hol := O.len
  refine op_pure (pv_assign (v := .slice _ _ _) rfl) ?_
  refine xp_seq ?_
  refine xp_region rfl ?_
  refine op_pure (pv_assign (v := .slice _ _ _) rfl) ?_
  refine goes_more ?_
  refine goes_norm [_, _, _, _, _] rfl ?_
  refine xp_seq ?_
  refine xp_seq ?_
  refine xp_region rfl ?_
  refine op_pure (pv_assign (v := .int .i64 _) rfl) ?_
  refine xp_block ?_
  refine xp_loopL [13, 14, 68, 69, 70, 71, 72, 73, 74, 75, 76, 77, 78, 79, 80, 81, 82, 83] 5 (α := Nat × Acc × List EvP × HandP) (fun ⟨k, a', es, hd⟩ => [(14, .int .i64 k), (13, .slice a'.A a'.n a'.c)]) (fun ⟨k, a', es, hd⟩ L => L.set 4 (a'.p)) (fun ⟨k, a', es, hd⟩ h_k => k ≤ a.on.length ∧ AccR 47 2 (es.flatMap evC) a' ∧ Run m es hd ∧ HOK m hd ∧ Prs a.buttons a.on (onS a.buttons.length k) hd ∧ es.length = k) (fun ⟨k, a', es, hd⟩ => a.on.length - k) ((0, acc0, [], ⟨[], []⟩)) ⟨rfl, rfl, trivial⟩ (rfl) (⟨Nat.zero_le _, accR0, Run.nil m, hok0 m, Prs.nil _ _, rfl⟩) ?_
  rintro ⟨k, a', es, hd⟩ T1 h_k E_k J_k
  refine goes_norm [_, _, _, _, _] rfl ?_
  obtain ⟨K1, K2, K3, K4, K5, K6⟩ := J_k
  refine xp_seq ?_
  refine xp_seq ?_
  refine xp_region rfl ?_
  refine op_pure (pv_move (v := .int .i64 _) rfl) ?_
  refine op_pure (pv_fieldAddr rfl rfl rfl rfl 1 rfl) ?_
  refine op_loadP 3 (v := .slice _ _ _) rfl rfl rfl rfl ?_
  refine op_pure (pv_len rfl rfl) ?_
  refine op_pure (pv_of (v := .bool _) rfl) ?_
  refine xp_cond rfl (fun hk => ?_) (fun hk => ?_)
  · skip
    have hkl : k < a.on.length := ltI hk
    obtain ⟨g2, off2, hB, hd2⟩ := (RH.o.ext (Ext.trans (Ext.trans (Ext.trans (Ext.trans E5 E6) E7) E8) E_k)).at (by omega) hkl
    have hnew : ((a.buttons.length + k : Nat) : Int) ∉ onS a.buttons.length k := fun h => by
      obtain ⟨i, hi, e⟩ := mem_onS.1 h
      omega
    obtain ⟨hE, hP⟩ := prs_o (hb := a.buttons) (on := a.on) H K5 hnew (List.getElem?_eq_getElem hkl)
    generalize a.on[k] = v1 at *
    refine xp_skip ?_
    refine xp_seq ?_
    refine xp_block ?_
    refine xp_region rfl ?_
    refine op_pure (pv_move (v := .slice _ _ _) rfl) ?_
    refine op_pure (pv_fieldAddr rfl rfl rfl rfl 1 rfl) ?_
    refine op_loadP 3 (v := .slice _ _ _) rfl rfl rfl rfl ?_
    refine op_pure (pv_move (v := .int .i64 _) rfl) ?_
    refine op_pure (pv_indexE rfl hB rfl rfl rfl (by omega) (by omega)) ?_
    refine op_load (v := .int .i64 _) rfl rfl ((hd2) 0 _ rfl) ?_
    refine op_pure (pv_build (zc := [_, _]) (vs := [(0, .int .i64 _), (1, .int .i64 _)]) (cs := [_, _]) rfl rfl rfl rfl rfl rfl) ?_
    refine op_buildSlice (zc := [_, _]) (vs := [(0, .agg #[.int .i64 _, .int .i64 _])]) (cs := [_, _]) rfl rfl rfl rfl rfl rfl rfl fun b82 hb82 => ?_
    refine wp_norm [_, _, _, _, _, _] rfl ?_
    refine op_appendR 4 K2 rfl rfl rfl (fun V => rdP V (i := 5) rfl) rfl rfl rfl rfl rfl rfl rfl rfl rfl (by omega) rfl (by rw [flat_len (m := 2) (fun _ _ => rfl)]; simp only [List.length_cons, List.length_nil]; omega) fun a2 h2a E2a ha2 => ?_
    refine wp_norm [_, _, _, _, _, _] rfl ?_
    refine op_pure (pv_assign (v := .slice _ _ _) rfl) ?_
    refine xp_region rfl ?_
    refine op_pure (pv_move (v := .int .i64 _) rfl) ?_
    refine op_pure (pv_arith rfl (by omega)) ?_
    refine op_pure (pv_assign (v := .int .i64 _) rfl) ?_
    refine ⟨(k + 1, a2, es ++ [⟨3, v1⟩], stepH hd ⟨3, v1⟩), ⟨rfl, rfl, trivial⟩, rfl, rfl, (Ext.trans E_k E2a), fun h3 E3 => ⟨hkl, by rw [List.flatMap_append]; exact ha2, K3.snoc hE, stepH_ok K4 hE, by rw [onS_succ]; exact hP, by rw [List.length_append, List.length_singleton, K6]⟩, by first | omega | (dsimp only; omega), ?_⟩
    repeat (first | exact off_base _ _ _ | refine off_upd (by decide) ?_ | refine off_updL rfl ?_ | refine off_mix rfl ?_)
  · skip
    have hke : k = a.on.length := by have := geI hk; omega
    subst hke
    refine xp_exit ?_
    refine xp_seq ?_
    refine xp_seq ?_
    refine xp_region rfl ?_
    refine op_pure (pv_assign (v := .int .i64 _) rfl) ?_
    refine xp_block ?_
    refine xp_loopL [13, 15, 84, 85, 86, 87, 88, 89, 90, 91, 92, 93, 94, 95, 96, 97, 98, 99, 100, 101] 5 (α := Nat × Acc × List EvP × HandP) (fun ⟨q, a', es', hd'⟩ => [(15, .int .i64 q), (13, .slice a'.A a'.n a'.c)]) (fun ⟨q, a', es', hd'⟩ L => L.set 4 (a'.p)) (fun ⟨q, a', es', hd'⟩ h_q => q ≤ o.length ∧ AccR 47 2 (es'.flatMap evC) a' ∧ Run m es' hd' ∧ HOK m hd' ∧ Prs a.buttons a.on (onS a.buttons.length a.on.length ++ o.take q) hd' ∧ es'.length = a.on.length + q) (fun ⟨q, a', es', hd'⟩ => o.length - q) ((0, a', es, hd)) ⟨rfl, rfl, trivial⟩ (rfl) (⟨Nat.zero_le _, K2, K3, K4, by rw [List.take_zero, List.append_nil]; exact K5, K6⟩) ?_
    rintro ⟨q, a', es', hd'⟩ T3 h_q E_q J_q
    refine goes_norm [_, _, _, _, _] rfl ?_
    obtain ⟨L1, L2, L3, L4, L5, L6⟩ := J_q
    refine xp_seq ?_
    refine xp_seq ?_
    refine xp_region rfl ?_
    refine op_pure (pv_move (v := .int .i64 _) rfl) ?_
    refine op_pure (pv_move (v := .slice _ _ _) rfl) ?_
    refine op_pure (pv_len rfl rfl) ?_
    refine op_pure (pv_of (v := .bool _) rfl) ?_
    refine xp_cond rfl (fun hq => ?_) (fun hq => ?_)
    · skip
      have hql : q < o.length := ltI hq
      obtain ⟨z, hz, hzn⟩ := O.at' (i := q) (by omega)
      have hok : o[q] = (z : Int) := by rw [List.getElem?_eq_getElem hql] at hz; exact Option.some.inj hz
      have hnew : (z : Int) ∉ onS a.buttons.length a.on.length ++ o.take q := fun h => by
        rcases List.mem_append.1 h with h | h
        · obtain ⟨i, hi, e⟩ := mem_onS.1 h
          omega
        · exact ord_new O (k := q) (by omega) hz h
      obtain ⟨g, off, hA, hc⟩ := (RO.ext (Ext.trans E_k E_q)).at (by omega) hql
      rw [hok] at hc
      obtain ⟨g2, off2, hB, hd2⟩ := (RH.b.ext (Ext.trans (Ext.trans (Ext.trans (Ext.trans (Ext.trans E5 E6) E7) E8) E_k) E_q)).at (by omega) hzn
      obtain ⟨hE, hP⟩ := prs_b (hb := a.buttons) (on := a.on) H L5 hnew (List.getElem?_eq_getElem hzn)
      generalize a.buttons[z] = v1 at *
      refine xp_skip ?_
      refine xp_seq ?_
      refine xp_block ?_
      refine xp_dw [] rfl rfl rfl ?_
      refine dw_pure (i := 0) rfl (by decide +kernel) (pv_move (v := .slice _ _ _) rfl) ?_
      refine dw_pure (i := 1) rfl (by decide +kernel) (pv_fieldAddr rfl rfl rfl rfl 0 rfl) ?_
      refine dw_load (i := 2) rfl (by decide +kernel) ?_
      refine op_loadP 3 (v := .slice _ _ _) rfl rfl rfl rfl ?_
      refine dw_pure (i := 3) rfl (by decide +kernel) (pv_move (v := .slice _ _ _) rfl) ?_
      refine dw_pure (i := 4) rfl (by decide +kernel) (pv_move (v := .int .i64 _) rfl) ?_
      refine dw_pure (i := 5) rfl (by decide +kernel) (pv_indexE rfl hA rfl rfl rfl (by omega) (by omega)) ?_
      refine dw_load (i := 6) rfl (by decide +kernel) ?_
      refine op_load (v := .int .i64 _) rfl rfl ((hc) 0 _ rfl) ?_
      refine dw_pure (i := 7) rfl (by decide +kernel) (pv_indexE rfl hB rfl rfl rfl (by omega) (by omega)) ?_
      refine dw_load (i := 8) rfl (by decide +kernel) ?_
      refine op_load (v := .int .i64 _) rfl rfl ((hd2) 0 _ rfl) ?_
      refine dw_pure (i := 9) rfl (by decide +kernel) (pv_build (zc := [_, _]) (vs := [(0, .int .i64 _), (1, .int .i64 _)]) (cs := [_, _]) rfl rfl rfl rfl rfl rfl) ?_
      refine dw_last (i := 10) rfl (by decide +kernel) (by decide +kernel) ?_
      refine op_buildSlice (zc := [_, _]) (vs := [(0, .agg #[.int .i64 _, .int .i64 _])]) (cs := [_, _]) rfl rfl rfl rfl rfl rfl rfl fun b100 hb100 => ?_
      refine dw_norm [_, _, _, _, _, _] rfl ?_
      refine dw_last (i := 11) rfl (by decide +kernel) (by decide +kernel) ?_
      refine op_appendR 4 L2 rfl rfl rfl (fun V => rdP V (i := 5) rfl) rfl rfl rfl rfl rfl rfl rfl rfl rfl (by omega) rfl (by rw [flat_len (m := 2) (fun _ _ => rfl)]; simp only [List.length_cons, List.length_nil]; omega) fun a2 h4a E4a ha2 => ?_
      refine dw_norm [_, _, _, _, _, _] rfl ?_
      refine dw_pure (i := 12) rfl (by decide +kernel) (pv_assign (v := .slice _ _ _) rfl) ?_
      refine dw_end rfl ?_
      refine xp_region rfl ?_
      refine op_pure (pv_move (v := .int .i64 _) rfl) ?_
      refine op_pure (pv_arith rfl (by omega)) ?_
      refine op_pure (pv_assign (v := .int .i64 _) rfl) ?_
      refine ⟨(q + 1, a2, es' ++ [⟨1, v1⟩], stepH hd' ⟨1, v1⟩), ⟨rfl, rfl, trivial⟩, rfl, rfl, (Ext.trans E_q E4a), fun h3 E3 => ⟨hql, by rw [List.flatMap_append]; exact ha2, L3.snoc hE, stepH_ok L4 hE, by rw [take_snoc hql, hok, ← List.append_assoc]; exact hP, by rw [List.length_append, List.length_singleton, L6]; omega⟩, by first | omega | (dsimp only; omega), ?_⟩
      repeat (first | exact off_base _ _ _ | refine off_upd (by decide) ?_ | refine off_updL rfl ?_ | refine off_mix rfl ?_)
    · skip
      have hqe : q = o.length := by have := geI hq; omega
      subst hqe
      rw [List.take_length] at L5
      have hall := prs_all (hb := a.buttons) (on := a.on) H L5 L4 (fun j hj => by
        rw [List.mem_append]
        by_cases hjb : j < a.buttons.length
        · exact .inr (ord_all O j hjb)
        · exact .inl (mem_onS.2 ⟨j - a.buttons.length, by omega, by omega⟩))
      subst hall
      have hsi : ∀ (A1 A2 : Option Addr) (k1 k2 : Nat) (hh : AH), Row hh 1 intC A1 rows → Row hh 1 intC A2 rows → FnT Try.prog 14 #[.slice A1 rows.length k1, .slice A2 rows.length k2] hh (fun v _ => v = .bool true) := fun A1 A2 k1 k2 hh r1 r2 => (sameInts_ok rows rows A1 A2 k1 k2 hh r1 r2 (by omega)).mono (fun _ _ r => ⟨r.1, r.2.trans (boolE (decide_eq_true rfl))⟩) fun _ _ y => y
      obtain ⟨p8, A8, n8, c8⟩ := a'
      obtain rfl : n8 = es'.length := by have := AccR.len L2; rw [flat_len (m := 2) (fun _ _ => rfl)] at this; dsimp only at this; omega
      dsimp only at *
      refine goes_pubO 4 rfl ?_
      intro g8 G8 P8
      refine goes_norm [_, _, _, _, _] rfl ?_
      have RE : Row g8 2 evC A8 es' := ⟨fun _ _ => rfl, AccR.rd L2 P8⟩
      refine xp_exit ?_
      refine xp_cutB [2, 16, 17, 102, 103, 104, 105, 106, 107, 108, 109, 110, 111, 112, 113, 114, 115, 116, 117, 118, 119, 120, 121, 122, 123, 124, 125, 126, 127, 128, 129, 130, 131, 132, 133, 134] 5 (α := Unit) (fun uu => []) (fun uu L => L) (fun uu h_uu => True) ?_ ?_
      · skip
        refine xp_seq ?_
        refine xp_region rfl ?_
        refine op_pure (pv_move (v := .slice _ _ _) rfl) ?_
        refine op_pure (pv_len rfl rfl) ?_
        refine op_pure (pv_of (v := .bool _) rfl) ?_
        refine xp_cond rfl (fun hpos => ?_) (fun hpos => ?_)
        · skip
          have hne : 0 < es'.length := by have := of_decide_eq_true hpos; omega
          obtain ⟨out, hout⟩ : ∃ out, out = (goM m es').out := ⟨_, rfl⟩
          have hpl : playM m es' = (0, out) := by
            rw [hout, playM, if_neg (by rw [chk_of M]; decide), if_neg (by omega), L3.e]
          have hpn : out.length = es'.length := by rw [hout]; exact L3.len
          have hlt : es'.length - 1 < out.length := by omega
          have hlast : out[es'.length - 1] = soundsL m a := by
            have h1 := L3.last hne
            rw [← hout, List.getElem?_eq_getElem hlt] at h1
            rw [hsL]
            exact Option.some.inj h1
          have HP := Play_ok rfl m es' AB AQ AL AW A8 cB cQ cL cW c8 g8 (RM.ext (Ext.trans (Ext.trans (Ext.trans (Ext.trans (Ext.trans (Ext.trans (Ext.trans (Ext.trans E3 E4) E5) E6) E7) E8) E_k) E_q) G8)) (RE.ext (Ext.refl _)) (by omega) (by omega)
          rw [hpl] at HP
          refine xp_seq ?_
          refine xp_region rfl ?_
          refine op_loadPA 1 (vs := [.int .i64 _, .int .i64 _, .int .i64 _, .int .i64 _, .int .i64 _, .slice _ _ _, .slice _ _ _, .slice _ _ _, .slice _ _ _]) rfl rfl rfl rfl rfl ?_
          refine op_pure (pv_move (v := .slice _ _ _) rfl) ?_
          refine op_fn (caps := []) (vs := [.agg _, .slice _ _ _]) rfl rfl rfl (HP) ?_
          rintro _ h9 E9 ⟨V9, rfl, SX⟩
          have SX2 : SlX h9 1 TL out V9 := SX
          obtain ⟨c3, A3, d3, rfl, R3, EL3⟩ := SlX.els SX2
          obtain ⟨ht, v, hcv, A9, c9, hv9, RL⟩ := (EL3.ext TL.mono (Ext.refl _)).at hlt
          obtain ⟨g3, o3, hA3, hc3⟩ := (R3.ext (Ext.refl _)).at (by omega) ht
          have hc3 : Cells h9 g3 (o3 + (es'.length - 1) * 1) [.slice A9 out[es'.length - 1].length c9] := by rw [← hv9, ← hcv]; exact hc3
          rw [hlast] at hc3 RL
          have q3 : (!decide ((out.length : Int) = (es'.length : Int))) = false := by rw [hpn]; simp
          have HO2 := opened_ok (soundsL m a) (by omega) (s.rows.length : Int) A9 c9 h9 RL
          rw [← hrows] at HO2
          refine op_pure (pv_move (v := .tuple #[.slice _ _ _, .int .i64 _]) rfl) ?_
          refine op_pure (pv_of (v := .slice _ _ _) rfl) ?_
          refine op_pure (pv_of (v := .int .i64 _) rfl) ?_
          refine op_pure (pv_assign (v := .slice _ _ _) rfl) ?_
          refine op_pure (pv_assign (v := .int .i64 _) rfl) ?_
          refine xp_seq ?_
          refine xp_dw [] rfl rfl rfl ?_
          refine dw_pure (i := 0) rfl (by decide +kernel) (pv_move (v := .int .i64 _) rfl) ?_
          refine dw_pure (i := 1) rfl (by decide +kernel) (pv_of (v := .bool _) rfl) ?_
          refine dw_pure (i := 2) rfl (by decide +kernel) (pv_move (v := .bool _) rfl) ?_
          refine dw_pureG (i := 3) rfl (by decide +kernel) rfl rfl (pv_move (v := .slice _ _ _) rfl) ?_
          refine dw_pureG (i := 4) rfl (by decide +kernel) rfl rfl (pv_len rfl rfl) ?_
          refine dw_pureG (i := 5) rfl (by decide +kernel) rfl rfl (pv_move (v := .slice _ _ _) rfl) ?_
          refine dw_pureG (i := 6) rfl (by decide +kernel) rfl rfl (pv_len rfl rfl) ?_
          refine dw_pureG (i := 7) rfl (by decide +kernel) rfl rfl (pv_of (v := .bool _) rfl) ?_
          refine dw_pure (i := 8) rfl (by decide +kernel) (pv_pickF rfl rfl (v := .bool _) rfl) ?_
          refine dw_pure (i := 9) rfl (by decide +kernel) (pv_move (v := .bool _) rfl) ?_
          refine dw_pureG (i := 10) rfl (by decide +kernel) rfl q3 (pv_move (v := .slice _ _ _) rfl) ?_
          refine dw_pureG (i := 11) rfl (by decide +kernel) rfl q3 (pv_move (v := .slice _ _ _) rfl) ?_
          refine dw_pureG (i := 12) rfl (by decide +kernel) rfl q3 (pv_len rfl rfl) ?_
          refine dw_pureG (i := 13) rfl (by decide +kernel) rfl q3 (pv_val (v' := .int .i64 ((es'.length - 1 : Nat) : Int)) (intE (by omega)) (pv_arith rfl (by omega))) ?_
          refine dw_pureG (i := 14) rfl (by decide +kernel) rfl q3 (pv_indexE rfl hA3 rfl rfl rfl (by omega) (by omega)) ?_
          refine dw_loadG (i := 15) rfl (by decide +kernel) rfl q3 ?_
          refine op_load (v := .slice _ _ _) rfl rfl ((hc3) 0 _ rfl) ?_
          refine dw_pureG (i := 16) rfl (by decide +kernel) rfl q3 (pv_fieldAddr rfl rfl rfl rfl 4 rfl) ?_
          refine dw_loadG (i := 17) rfl (by decide +kernel) rfl q3 ?_
          refine op_loadP 2 (v := .slice _ _ _) rfl rfl rfl rfl ?_
          refine dw_pureG (i := 18) rfl (by decide +kernel) rfl q3 (pv_len rfl rfl) ?_
          refine dw_pureG (i := 20) rfl (by decide +kernel) rfl q3 (pv_move (v := .slice _ _ _) rfl) ?_
          refine dw_lastG (i := 19) rfl (by decide +kernel) (by decide +kernel) rfl q3 ?_
          refine op_fn (caps := []) (vs := [.slice _ _ _, .int .i64 _]) rfl rfl rfl (HO2) ?_
          rintro _ h10 E10 ⟨A10, c10, rfl, R10⟩
          refine dw_lastG (i := 21) rfl (by decide +kernel) (by decide +kernel) rfl q3 ?_
          refine op_fn (caps := []) (vs := [.slice _ _ _, .slice _ _ _]) rfl rfl rfl (hsi A10 A6 c10 c6 h10 R10 (R6.ext (Ext.trans (Ext.trans (Ext.trans (Ext.trans (Ext.trans (Ext.trans E7 E8) E_k) E_q) G8) E9) E10))) ?_
          rintro _ h11 E11 rfl
          refine dw_pureG (i := 22) rfl (by decide +kernel) rfl q3 (pv_of (v := .bool _) rfl) ?_
          refine dw_pure (i := 23) rfl (by decide +kernel) (pv_pickF rfl q3 (v := .bool _) rfl) ?_
          refine dw_end rfl ?_
          refine xp_condF rfl (rfl) ?_
          refine xp_skip ?_
          refine ⟨(), trivial, rfl, rfl, (Ext.trans (Ext.trans E9 E10) E11), fun h3 E3 => by first | trivial | omega | (refine ⟨?_, ?_⟩ <;> omega), ?_⟩
          repeat (first | exact off_refl _ _ | exact off_base _ _ _ | refine off_upd (by decide) ?_ | refine off_updL rfl ?_ | refine off_mix rfl ?_)
        · skip
          refine xp_skip ?_
          refine ⟨(), trivial, rfl, rfl, (Ext.refl _), fun h3 E3 => by first | trivial | omega | (refine ⟨?_, ?_⟩ <;> omega), ?_⟩
          repeat (first | exact off_refl _ _ | exact off_base _ _ _ | refine off_upd (by decide) ?_ | refine off_updL rfl ?_ | refine off_mix rfl ?_)
      · rintro uu T5 h_uu E_uu J_uu
        refine goes_norm [_, _, _, _, _] rfl ?_
        refine xp_seq ?_
        refine xp_seq ?_
        refine xp_region rfl ?_
        refine op_pure (pv_assign (v := .int .i64 _) rfl) ?_
        refine xp_block ?_
        refine xp_loopB [2, 18, 19, 20, 21, 22, 23, 24, 25, 26, 27, 28, 135, 136, 137, 138, 139, 140, 141, 142, 143, 144, 145, 146, 147, 148, 149, 150, 151, 152, 153, 154, 155, 156, 157, 158, 159, 160, 161, 162, 163, 164, 165, 166, 167, 168, 169, 170, 171, 172, 173, 174, 175, 176, 177, 178, 179, 180, 181, 182, 183, 184, 185, 186, 187, 188, 189, 190, 191, 192, 193, 194, 195, 196, 197, 198, 199, 200, 201, 202, 203, 204, 205, 206, 207, 208, 209, 210, 211, 212, 213, 214, 215, 216, 217, 218, 219, 220, 221, 222, 223, 224, 225, 226, 227, 228, 229, 230, 231, 232, 233, 234, 235, 236, 237, 238, 239, 240, 241, 242, 243, 244, 245, 246, 247, 248, 249, 250, 251, 252, 253, 254, 255, 256, 257, 258, 259, 260, 261, 262, 263, 264, 265, 266, 267, 268, 269, 270, 271, 272, 273, 274, 275, 276, 277, 278, 279, 280, 281, 282, 283, 284, 285, 286, 287, 288, 289, 290, 291, 292, 293, 294, 295, 296, 297, 298, 299, 300, 301, 302] 5 (α := Nat) (fun f => [(18, .int .i64 f)]) (fun f => _) (fun f h_f => (f : Int) ≤ 2 * m.levers) (fun f => (2 * m.levers - (f : Int)).toNat) (0) ⟨rfl, trivial⟩ (rfl) (by omega) ?_
        rintro f T6 h_f E_f J_f
        refine goes_norm [_, _, _, _, _] rfl ?_
        refine xp_seq ?_
        refine xp_seq ?_
        refine xp_region rfl ?_
        refine op_pure (pv_move (v := .int .i64 _) rfl) ?_
        refine op_pure (pv_fieldAddr rfl rfl rfl rfl 1 rfl) ?_
        refine op_loadP 1 (v := .int .i64 _) rfl rfl rfl rfl ?_
        refine op_pure (pv_arith rfl (by omega)) ?_
        refine op_pure (pv_of (v := .bool _) rfl) ?_
        refine xp_cond rfl (fun hf => ?_) (fun hf => ?_)
        · skip
          have hfl : (f : Int) < 2 * m.levers := of_decide_eq_true hf
          have hv : ∃ v : Nat, v = f % m.levers.toNat := ⟨_, rfl⟩
          obtain ⟨v, hv⟩ := hv
          have hLi : ((m.levers.toNat : Nat) : Int) = m.levers := by omega
          have hv1 : f < m.levers.toNat → v = f := fun h => by rw [hv, Nat.mod_eq_of_lt h]
          have hv2 : m.levers.toNat ≤ f → v = f - m.levers.toNat := fun h => by rw [hv, Nat.mod_eq_sub_mod h, Nat.mod_eq_of_lt (by omega)]
          have hv6 : v < m.levers.toNat := by rw [hv]; exact Nat.mod_lt _ (by omega)
          refine xp_skip ?_
          refine xp_seq ?_
          refine xp_block ?_
          refine xp_seq ?_
          refine xp_region rfl ?_
          refine op_pure (pv_move (v := .int .i64 _) rfl) ?_
          refine op_pure (pv_fieldAddr rfl rfl rfl rfl 1 rfl) ?_
          refine op_loadP 1 (v := .int .i64 _) rfl rfl rfl rfl ?_
          refine op_pure (pv_val (v' := .int .i64 ((v : Nat) : Int)) (intE (by rw [Int.tmod_eq_emod_of_nonneg (by omega), ← hLi, hv]; rfl)) (pv_remT rfl rfl (by omega))) ?_
          refine op_pure (pv_assign (v := .int .i64 _) rfl) ?_
          refine xp_seq ?_
          refine xp_region rfl ?_
          refine op_pure (pv_move (v := .slice _ _ _) rfl) ?_
          refine op_pure (pv_move (v := .int .i64 _) rfl) ?_
          refine op_fn (caps := []) (vs := [.slice _ _ _, .int .i64 _]) rfl rfl rfl (placeAt_ok rows (by omega) (v : Int) A6 c6 h_f (R6.ext (Ext.trans (Ext.trans (Ext.trans (Ext.trans (Ext.trans (Ext.trans E7 E8) E_k) E_q) G8) E_uu) E_f))) ?_
          rintro _ h12 E12 ⟨pl, rfl, hpl⟩
          refine op_pure (pv_assign (v := .int .i64 _) rfl) ?_
          refine xp_cutB [21, 22, 149, 150, 151, 152, 153, 154, 155, 156, 157, 158, 159, 160, 161, 162, 163, 164, 165, 166, 167, 168, 169, 170, 171, 172, 173, 174, 175, 176, 177, 178, 179, 180, 181, 182, 183, 184, 185, 186, 187, 188, 189, 190, 191, 192, 193, 194, 195, 196, 197, 198, 199, 200, 201, 202, 203, 204] 5 (α := Bool × Bool) (fun ⟨sh, op⟩ => [(21, .bool sh), (22, .bool op)]) (fun ⟨sh, op⟩ L => L) (fun ⟨sh, op⟩ h_sh => (sh = true → f < m.levers.toNat ∧ ((∃ t, rows = (v : Int) :: t) ∨ ∃ t, rows = t ++ [(v : Int)])) ∧ (op = true → m.levers.toNat ≤ f ∧ (v : Int) < (s.rows.length : Int) ∧ ((∀ z ∈ rows, (v : Int) < z) ∨ ∀ z ∈ rows, z < (v : Int)))) ?_ ?_
          · skip
            by_cases hfL : f < m.levers.toNat
            · have g4 : decide ((f : Int) < m.levers) = true := decide_eq_true (by omega)
              have g23 : decide ((f : Int) ≥ m.levers) = false := decide_eq_false (by omega)
              rcases hpl with ⟨rfl, hpn⟩ | ⟨q, rfl, hq⟩
              · skip
                refine xp_dw [] rfl rfl rfl ?_
                refine dw_pure (i := 0) rfl (by decide +kernel) (pv_move (v := .int .i64 _) rfl) ?_
                refine dw_pure (i := 1) rfl (by decide +kernel) (pv_fieldAddr rfl rfl rfl rfl 1 rfl) ?_
                refine dw_load (i := 2) rfl (by decide +kernel) ?_
                refine op_loadP 1 (v := .int .i64 _) rfl rfl rfl rfl ?_
                refine dw_pure (i := 3) rfl (by decide +kernel) (pv_of (v := .bool _) rfl) ?_
                refine dw_pure (i := 4) rfl (by decide +kernel) (pv_move (v := .bool _) rfl) ?_
                refine dw_pureG (i := 5) rfl (by decide +kernel) rfl g4 (pv_move (v := .int .i64 _) rfl) ?_
                refine dw_pureG (i := 6) rfl (by decide +kernel) rfl g4 (pv_of (v := .bool _) rfl) ?_
                refine dw_pureG (i := 7) rfl (by decide +kernel) rfl g4 (pv_move (v := .bool _) rfl) ?_
                refine dw_pureG (i := 8) rfl (by decide +kernel) rfl rfl (pv_move (v := .int .i64 _) rfl) ?_
                refine dw_pureG (i := 9) rfl (by decide +kernel) rfl rfl (pv_of (v := .bool _) rfl) ?_
                refine dw_pureG (i := 10) rfl (by decide +kernel) rfl rfl (pv_move (v := .bool _) rfl) ?_
                refine dw_skip (i := 11) rfl (by decide +kernel) rfl rfl ?_
                refine dw_skip (i := 12) rfl (by decide +kernel) rfl rfl ?_
                refine dw_skip (i := 13) rfl (by decide +kernel) rfl rfl ?_
                refine dw_skip (i := 14) rfl (by decide +kernel) rfl rfl ?_
                refine dw_skip (i := 15) rfl (by decide +kernel) rfl rfl ?_
                refine dw_pureG (i := 16) rfl (by decide +kernel) rfl rfl (pv_pickF rfl rfl (v := .bool _) rfl) ?_
                refine dw_pureG (i := 17) rfl (by decide +kernel) rfl g4 (pv_pickF rfl rfl (v := .bool _) rfl) ?_
                refine dw_pure (i := 18) rfl (by decide +kernel) (pv_pickT rfl g4 (v := .bool _) rfl) ?_
                refine dw_pure (i := 19) rfl (by decide +kernel) (pv_move (v := .int .i64 _) rfl) ?_
                refine dw_pure (i := 20) rfl (by decide +kernel) (pv_fieldAddr rfl rfl rfl rfl 1 rfl) ?_
                refine dw_load (i := 21) rfl (by decide +kernel) ?_
                refine op_loadP 1 (v := .int .i64 _) rfl rfl rfl rfl ?_
                refine dw_pure (i := 22) rfl (by decide +kernel) (pv_of (v := .bool _) rfl) ?_
                refine dw_pure (i := 23) rfl (by decide +kernel) (pv_move (v := .bool _) rfl) ?_
                refine dw_skip (i := 24) rfl (by decide +kernel) rfl g23 ?_
                refine dw_skip (i := 25) rfl (by decide +kernel) rfl g23 ?_
                refine dw_pure (i := 26) rfl (by decide +kernel) (pv_pickF rfl g23 (v := .bool _) rfl) ?_
                refine dw_pure (i := 27) rfl (by decide +kernel) (pv_move (v := .bool _) rfl) ?_
                refine dw_skip (i := 28) rfl (by decide +kernel) rfl rfl ?_
                refine dw_skip (i := 29) rfl (by decide +kernel) rfl rfl ?_
                refine dw_skip (i := 30) rfl (by decide +kernel) rfl rfl ?_
                refine dw_skip (i := 31) rfl (by decide +kernel) rfl rfl ?_
                refine dw_skip (i := 32) rfl (by decide +kernel) rfl rfl ?_
                refine dw_pure (i := 33) rfl (by decide +kernel) (pv_pickF rfl rfl (v := .bool _) rfl) ?_
                refine dw_pure (i := 34) rfl (by decide +kernel) (pv_move (v := .bool _) rfl) ?_
                refine dw_skip (i := 35) rfl (by decide +kernel) rfl rfl ?_
                refine dw_skip (i := 36) rfl (by decide +kernel) rfl rfl ?_
                refine dw_skip (i := 37) rfl (by decide +kernel) rfl rfl ?_
                refine dw_skip (i := 38) rfl (by decide +kernel) rfl rfl ?_
                refine dw_un (i := 39) rfl (by decide +kernel) rfl ?_
                refine dw_un (i := 40) rfl (by decide +kernel) rfl ?_
                refine dw_un (i := 41) rfl (by decide +kernel) rfl ?_
                refine dw_un (i := 42) rfl (by decide +kernel) rfl ?_
                refine dw_un (i := 43) rfl (by decide +kernel) rfl ?_
                refine dw_skip (i := 44) rfl (by decide +kernel) rfl rfl ?_
                refine dw_skip (i := 45) rfl (by decide +kernel) rfl rfl ?_
                refine dw_un (i := 46) rfl (by decide +kernel) rfl ?_
                refine dw_un (i := 47) rfl (by decide +kernel) rfl ?_
                refine dw_un (i := 48) rfl (by decide +kernel) rfl ?_
                refine dw_un (i := 49) rfl (by decide +kernel) rfl ?_
                refine dw_un (i := 50) rfl (by decide +kernel) rfl ?_
                refine dw_un (i := 51) rfl (by decide +kernel) rfl ?_
                refine dw_un (i := 52) rfl (by decide +kernel) rfl ?_
                refine dw_un (i := 53) rfl (by decide +kernel) rfl ?_
                refine dw_skip (i := 54) rfl (by decide +kernel) rfl rfl ?_
                refine dw_pure (i := 55) rfl (by decide +kernel) (pv_pickF rfl rfl (v := .bool _) rfl) ?_
                refine dw_pure (i := 56) rfl (by decide +kernel) (pv_assign (v := .bool _) rfl) ?_
                refine dw_pure (i := 57) rfl (by decide +kernel) (pv_assign (v := .bool _) rfl) ?_
                refine dw_end rfl ?_
                refine ⟨(false, false), ⟨rfl, rfl, trivial⟩, rfl, rfl, (Ext.refl _), fun h3 E3 => ⟨fun h => absurd h Bool.false_ne_true, fun h => absurd h Bool.false_ne_true⟩, ?_⟩
                repeat (first | exact off_refl _ _ | exact off_base _ _ _ | refine off_upd (by decide) ?_ | refine off_updL rfl ?_ | refine off_mix rfl ?_)
              · have hqr : q < rows.length := (List.getElem?_eq_some_iff.1 hq).1
                by_cases hq0 : q = 0
                · subst hq0
                  refine xp_dw [] rfl rfl rfl ?_
                  refine dw_pure (i := 0) rfl (by decide +kernel) (pv_move (v := .int .i64 _) rfl) ?_
                  refine dw_pure (i := 1) rfl (by decide +kernel) (pv_fieldAddr rfl rfl rfl rfl 1 rfl) ?_
                  refine dw_load (i := 2) rfl (by decide +kernel) ?_
                  refine op_loadP 1 (v := .int .i64 _) rfl rfl rfl rfl ?_
                  refine dw_pure (i := 3) rfl (by decide +kernel) (pv_of (v := .bool _) rfl) ?_
                  refine dw_pure (i := 4) rfl (by decide +kernel) (pv_move (v := .bool _) rfl) ?_
                  refine dw_pureG (i := 5) rfl (by decide +kernel) rfl g4 (pv_move (v := .int .i64 _) rfl) ?_
                  refine dw_pureG (i := 6) rfl (by decide +kernel) rfl g4 (pv_of (v := .bool _) rfl) ?_
                  refine dw_pureG (i := 7) rfl (by decide +kernel) rfl g4 (pv_move (v := .bool _) rfl) ?_
                  refine dw_skip (i := 8) rfl (by decide +kernel) rfl rfl ?_
                  refine dw_skip (i := 9) rfl (by decide +kernel) rfl rfl ?_
                  refine dw_skip (i := 10) rfl (by decide +kernel) rfl rfl ?_
                  refine dw_un (i := 11) rfl (by decide +kernel) rfl ?_
                  refine dw_un (i := 12) rfl (by decide +kernel) rfl ?_
                  refine dw_un (i := 13) rfl (by decide +kernel) rfl ?_
                  refine dw_un (i := 14) rfl (by decide +kernel) rfl ?_
                  refine dw_un (i := 15) rfl (by decide +kernel) rfl ?_
                  refine dw_skip (i := 16) rfl (by decide +kernel) rfl rfl ?_
                  refine dw_pureG (i := 17) rfl (by decide +kernel) rfl g4 (pv_pickT rfl rfl (v := .bool _) rfl) ?_
                  refine dw_pure (i := 18) rfl (by decide +kernel) (pv_pickT rfl g4 (v := .bool _) rfl) ?_
                  refine dw_pure (i := 19) rfl (by decide +kernel) (pv_move (v := .int .i64 _) rfl) ?_
                  refine dw_pure (i := 20) rfl (by decide +kernel) (pv_fieldAddr rfl rfl rfl rfl 1 rfl) ?_
                  refine dw_load (i := 21) rfl (by decide +kernel) ?_
                  refine op_loadP 1 (v := .int .i64 _) rfl rfl rfl rfl ?_
                  refine dw_pure (i := 22) rfl (by decide +kernel) (pv_of (v := .bool _) rfl) ?_
                  refine dw_pure (i := 23) rfl (by decide +kernel) (pv_move (v := .bool _) rfl) ?_
                  refine dw_skip (i := 24) rfl (by decide +kernel) rfl g23 ?_
                  refine dw_skip (i := 25) rfl (by decide +kernel) rfl g23 ?_
                  refine dw_pure (i := 26) rfl (by decide +kernel) (pv_pickF rfl g23 (v := .bool _) rfl) ?_
                  refine dw_pure (i := 27) rfl (by decide +kernel) (pv_move (v := .bool _) rfl) ?_
                  refine dw_skip (i := 28) rfl (by decide +kernel) rfl rfl ?_
                  refine dw_skip (i := 29) rfl (by decide +kernel) rfl rfl ?_
                  refine dw_skip (i := 30) rfl (by decide +kernel) rfl rfl ?_
                  refine dw_skip (i := 31) rfl (by decide +kernel) rfl rfl ?_
                  refine dw_skip (i := 32) rfl (by decide +kernel) rfl rfl ?_
                  refine dw_pure (i := 33) rfl (by decide +kernel) (pv_pickF rfl rfl (v := .bool _) rfl) ?_
                  refine dw_pure (i := 34) rfl (by decide +kernel) (pv_move (v := .bool _) rfl) ?_
                  refine dw_skip (i := 35) rfl (by decide +kernel) rfl rfl ?_
                  refine dw_skip (i := 36) rfl (by decide +kernel) rfl rfl ?_
                  refine dw_skip (i := 37) rfl (by decide +kernel) rfl rfl ?_
                  refine dw_skip (i := 38) rfl (by decide +kernel) rfl rfl ?_
                  refine dw_un (i := 39) rfl (by decide +kernel) rfl ?_
                  refine dw_un (i := 40) rfl (by decide +kernel) rfl ?_
                  refine dw_un (i := 41) rfl (by decide +kernel) rfl ?_
                  refine dw_un (i := 42) rfl (by decide +kernel) rfl ?_
                  refine dw_un (i := 43) rfl (by decide +kernel) rfl ?_
                  refine dw_skip (i := 44) rfl (by decide +kernel) rfl rfl ?_
                  refine dw_skip (i := 45) rfl (by decide +kernel) rfl rfl ?_
                  refine dw_un (i := 46) rfl (by decide +kernel) rfl ?_
                  refine dw_un (i := 47) rfl (by decide +kernel) rfl ?_
                  refine dw_un (i := 48) rfl (by decide +kernel) rfl ?_
                  refine dw_un (i := 49) rfl (by decide +kernel) rfl ?_
                  refine dw_un (i := 50) rfl (by decide +kernel) rfl ?_
                  refine dw_un (i := 51) rfl (by decide +kernel) rfl ?_
                  refine dw_un (i := 52) rfl (by decide +kernel) rfl ?_
                  refine dw_un (i := 53) rfl (by decide +kernel) rfl ?_
                  refine dw_skip (i := 54) rfl (by decide +kernel) rfl rfl ?_
                  refine dw_pure (i := 55) rfl (by decide +kernel) (pv_pickF rfl rfl (v := .bool _) rfl) ?_
                  refine dw_pure (i := 56) rfl (by decide +kernel) (pv_assign (v := .bool _) rfl) ?_
                  refine dw_pure (i := 57) rfl (by decide +kernel) (pv_assign (v := .bool _) rfl) ?_
                  refine dw_end rfl ?_
                  refine ⟨(true, false), ⟨rfl, rfl, trivial⟩, rfl, rfl, (Ext.refl _), fun h3 E3 => ⟨fun _ => ⟨hfL, .inl (first_of hq)⟩, fun h => absurd h Bool.false_ne_true⟩, ?_⟩
                  repeat (first | exact off_refl _ _ | exact off_base _ _ _ | refine off_upd (by decide) ?_ | refine off_updL rfl ?_ | refine off_mix rfl ?_)
                · have g7 : ((q : Int) == 0) = false := by simp; omega
                  have g10 : decide ((q : Int) ≥ 0) = true := decide_eq_true (by omega)
                  refine xp_dw [] rfl rfl rfl ?_
                  refine dw_pure (i := 0) rfl (by decide +kernel) (pv_move (v := .int .i64 _) rfl) ?_
                  refine dw_pure (i := 1) rfl (by decide +kernel) (pv_fieldAddr rfl rfl rfl rfl 1 rfl) ?_
                  refine dw_load (i := 2) rfl (by decide +kernel) ?_
                  refine op_loadP 1 (v := .int .i64 _) rfl rfl rfl rfl ?_
                  refine dw_pure (i := 3) rfl (by decide +kernel) (pv_of (v := .bool _) rfl) ?_
                  refine dw_pure (i := 4) rfl (by decide +kernel) (pv_move (v := .bool _) rfl) ?_
                  refine dw_pureG (i := 5) rfl (by decide +kernel) rfl g4 (pv_move (v := .int .i64 _) rfl) ?_
                  refine dw_pureG (i := 6) rfl (by decide +kernel) rfl g4 (pv_of (v := .bool _) rfl) ?_
                  refine dw_pureG (i := 7) rfl (by decide +kernel) rfl g4 (pv_move (v := .bool _) rfl) ?_
                  refine dw_pureG (i := 8) rfl (by decide +kernel) rfl g7 (pv_move (v := .int .i64 _) rfl) ?_
                  refine dw_pureG (i := 9) rfl (by decide +kernel) rfl g7 (pv_of (v := .bool _) rfl) ?_
                  refine dw_pureG (i := 10) rfl (by decide +kernel) rfl g7 (pv_move (v := .bool _) rfl) ?_
                  refine dw_pureG (i := 11) rfl (by decide +kernel) rfl g10 (pv_move (v := .int .i64 _) rfl) ?_
                  refine dw_pureG (i := 12) rfl (by decide +kernel) rfl g10 (pv_move (v := .slice _ _ _) rfl) ?_
                  refine dw_pureG (i := 13) rfl (by decide +kernel) rfl g10 (pv_len rfl rfl) ?_
                  refine dw_pureG (i := 14) rfl (by decide +kernel) rfl g10 (pv_arith rfl (by omega)) ?_
                  refine dw_pureG (i := 15) rfl (by decide +kernel) rfl g10 (pv_of (v := .bool _) rfl) ?_
                  refine dw_pureG (i := 16) rfl (by decide +kernel) rfl g7 (pv_pickT rfl g10 (v := .bool _) rfl) ?_
                  refine dw_pureG (i := 17) rfl (by decide +kernel) rfl g4 (pv_pickF rfl g7 (v := .bool _) rfl) ?_
                  refine dw_pure (i := 18) rfl (by decide +kernel) (pv_pickT rfl g4 (v := .bool _) rfl) ?_
                  refine dw_pure (i := 19) rfl (by decide +kernel) (pv_move (v := .int .i64 _) rfl) ?_
                  refine dw_pure (i := 20) rfl (by decide +kernel) (pv_fieldAddr rfl rfl rfl rfl 1 rfl) ?_
                  refine dw_load (i := 21) rfl (by decide +kernel) ?_
                  refine op_loadP 1 (v := .int .i64 _) rfl rfl rfl rfl ?_
                  refine dw_pure (i := 22) rfl (by decide +kernel) (pv_of (v := .bool _) rfl) ?_
                  refine dw_pure (i := 23) rfl (by decide +kernel) (pv_move (v := .bool _) rfl) ?_
                  refine dw_skip (i := 24) rfl (by decide +kernel) rfl g23 ?_
                  refine dw_skip (i := 25) rfl (by decide +kernel) rfl g23 ?_
                  refine dw_pure (i := 26) rfl (by decide +kernel) (pv_pickF rfl g23 (v := .bool _) rfl) ?_
                  refine dw_pure (i := 27) rfl (by decide +kernel) (pv_move (v := .bool _) rfl) ?_
                  refine dw_skip (i := 28) rfl (by decide +kernel) rfl rfl ?_
                  refine dw_skip (i := 29) rfl (by decide +kernel) rfl rfl ?_
                  refine dw_skip (i := 30) rfl (by decide +kernel) rfl rfl ?_
                  refine dw_skip (i := 31) rfl (by decide +kernel) rfl rfl ?_
                  refine dw_skip (i := 32) rfl (by decide +kernel) rfl rfl ?_
                  refine dw_pure (i := 33) rfl (by decide +kernel) (pv_pickF rfl rfl (v := .bool _) rfl) ?_
                  refine dw_pure (i := 34) rfl (by decide +kernel) (pv_move (v := .bool _) rfl) ?_
                  refine dw_skip (i := 35) rfl (by decide +kernel) rfl rfl ?_
                  refine dw_skip (i := 36) rfl (by decide +kernel) rfl rfl ?_
                  refine dw_skip (i := 37) rfl (by decide +kernel) rfl rfl ?_
                  refine dw_skip (i := 38) rfl (by decide +kernel) rfl rfl ?_
                  refine dw_un (i := 39) rfl (by decide +kernel) rfl ?_
                  refine dw_un (i := 40) rfl (by decide +kernel) rfl ?_
                  refine dw_un (i := 41) rfl (by decide +kernel) rfl ?_
                  refine dw_un (i := 42) rfl (by decide +kernel) rfl ?_
                  refine dw_un (i := 43) rfl (by decide +kernel) rfl ?_
                  refine dw_skip (i := 44) rfl (by decide +kernel) rfl rfl ?_
                  refine dw_skip (i := 45) rfl (by decide +kernel) rfl rfl ?_
                  refine dw_un (i := 46) rfl (by decide +kernel) rfl ?_
                  refine dw_un (i := 47) rfl (by decide +kernel) rfl ?_
                  refine dw_un (i := 48) rfl (by decide +kernel) rfl ?_
                  refine dw_un (i := 49) rfl (by decide +kernel) rfl ?_
                  refine dw_un (i := 50) rfl (by decide +kernel) rfl ?_
                  refine dw_un (i := 51) rfl (by decide +kernel) rfl ?_
                  refine dw_un (i := 52) rfl (by decide +kernel) rfl ?_
                  refine dw_un (i := 53) rfl (by decide +kernel) rfl ?_
                  refine dw_skip (i := 54) rfl (by decide +kernel) rfl rfl ?_
                  refine dw_pure (i := 55) rfl (by decide +kernel) (pv_pickF rfl rfl (v := .bool _) rfl) ?_
                  refine dw_pure (i := 56) rfl (by decide +kernel) (pv_assign (v := .bool _) rfl) ?_
                  refine dw_pure (i := 57) rfl (by decide +kernel) (pv_assign (v := .bool _) rfl) ?_
                  refine dw_end rfl ?_
                  refine ⟨((q : Int) == (rows.length : Int) - 1, false), ⟨rfl, rfl, trivial⟩, rfl, rfl, (Ext.refl _), fun h3 E3 => ⟨fun h => ⟨hfL, .inr (last_of (qlast (eq_of_beq h)) hq)⟩, fun h => absurd h Bool.false_ne_true⟩, ?_⟩
                  repeat (first | exact off_refl _ _ | exact off_base _ _ _ | refine off_upd (by decide) ?_ | refine off_updL rfl ?_ | refine off_mix rfl ?_)
            · have g4 : decide ((f : Int) < m.levers) = false := decide_eq_false (by omega)
              have g23 : decide ((f : Int) ≥ m.levers) = true := decide_eq_true (by omega)
              rcases hpl with ⟨rfl, hpn⟩ | ⟨q, rfl, hq⟩
              · by_cases hvR : (v : Int) < (s.rows.length : Int)
                · have g34 : decide ((v : Int) < (s.rows.length : Int)) = true := decide_eq_true hvR
                  rcases Nat.eq_zero_or_pos rows.length with hz | hz
                  · have g38 : ((rows.length : Int) == 0) = true := by rw [hz]; rfl
                    refine xp_dw [] rfl rfl rfl ?_
                    refine dw_pure (i := 0) rfl (by decide +kernel) (pv_move (v := .int .i64 _) rfl) ?_
                    refine dw_pure (i := 1) rfl (by decide +kernel) (pv_fieldAddr rfl rfl rfl rfl 1 rfl) ?_
                    refine dw_load (i := 2) rfl (by decide +kernel) ?_
                    refine op_loadP 1 (v := .int .i64 _) rfl rfl rfl rfl ?_
                    refine dw_pure (i := 3) rfl (by decide +kernel) (pv_of (v := .bool _) rfl) ?_
                    refine dw_pure (i := 4) rfl (by decide +kernel) (pv_move (v := .bool _) rfl) ?_
                    refine dw_skip (i := 5) rfl (by decide +kernel) rfl g4 ?_
                    refine dw_skip (i := 6) rfl (by decide +kernel) rfl g4 ?_
                    refine dw_skip (i := 7) rfl (by decide +kernel) rfl g4 ?_
                    refine dw_un (i := 8) rfl (by decide +kernel) rfl ?_
                    refine dw_un (i := 9) rfl (by decide +kernel) rfl ?_
                    refine dw_un (i := 10) rfl (by decide +kernel) rfl ?_
                    refine dw_un (i := 11) rfl (by decide +kernel) rfl ?_
                    refine dw_un (i := 12) rfl (by decide +kernel) rfl ?_
                    refine dw_un (i := 13) rfl (by decide +kernel) rfl ?_
                    refine dw_un (i := 14) rfl (by decide +kernel) rfl ?_
                    refine dw_un (i := 15) rfl (by decide +kernel) rfl ?_
                    refine dw_un (i := 16) rfl (by decide +kernel) rfl ?_
                    refine dw_skip (i := 17) rfl (by decide +kernel) rfl g4 ?_
                    refine dw_pure (i := 18) rfl (by decide +kernel) (pv_pickF rfl g4 (v := .bool _) rfl) ?_
                    refine dw_pure (i := 19) rfl (by decide +kernel) (pv_move (v := .int .i64 _) rfl) ?_
                    refine dw_pure (i := 20) rfl (by decide +kernel) (pv_fieldAddr rfl rfl rfl rfl 1 rfl) ?_
                    refine dw_load (i := 21) rfl (by decide +kernel) ?_
                    refine op_loadP 1 (v := .int .i64 _) rfl rfl rfl rfl ?_
                    refine dw_pure (i := 22) rfl (by decide +kernel) (pv_of (v := .bool _) rfl) ?_
                    refine dw_pure (i := 23) rfl (by decide +kernel) (pv_move (v := .bool _) rfl) ?_
                    refine dw_pureG (i := 24) rfl (by decide +kernel) rfl g23 (pv_move (v := .int .i64 _) rfl) ?_
                    refine dw_pureG (i := 25) rfl (by decide +kernel) rfl g23 (pv_of (v := .bool _) rfl) ?_
                    refine dw_pure (i := 26) rfl (by decide +kernel) (pv_pickT rfl g23 (v := .bool _) rfl) ?_
                    refine dw_pure (i := 27) rfl (by decide +kernel) (pv_move (v := .bool _) rfl) ?_
                    refine dw_pureG (i := 28) rfl (by decide +kernel) rfl rfl (pv_move (v := .int .i64 _) rfl) ?_
                    refine dw_pureG (i := 29) rfl (by decide +kernel) rfl rfl (pv_fieldAddr rfl rfl rfl rfl 4 rfl) ?_
                    refine dw_loadG (i := 30) rfl (by decide +kernel) rfl rfl ?_
                    refine op_loadP 2 (v := .slice _ _ _) rfl rfl rfl rfl ?_
                    refine dw_pureG (i := 31) rfl (by decide +kernel) rfl rfl (pv_len rfl rfl) ?_
                    refine dw_pureG (i := 32) rfl (by decide +kernel) rfl rfl (pv_of (v := .bool _) rfl) ?_
                    refine dw_pure (i := 33) rfl (by decide +kernel) (pv_pickT rfl rfl (v := .bool _) rfl) ?_
                    refine dw_pure (i := 34) rfl (by decide +kernel) (pv_move (v := .bool _) rfl) ?_
                    refine dw_pureG (i := 35) rfl (by decide +kernel) rfl g34 (pv_move (v := .slice _ _ _) rfl) ?_
                    refine dw_pureG (i := 36) rfl (by decide +kernel) rfl g34 (pv_len rfl rfl) ?_
                    refine dw_pureG (i := 37) rfl (by decide +kernel) rfl g34 (pv_of (v := .bool _) rfl) ?_
                    refine dw_pureG (i := 38) rfl (by decide +kernel) rfl g34 (pv_move (v := .bool _) rfl) ?_
                    refine dw_skip (i := 39) rfl (by decide +kernel) rfl g38 ?_
                    refine dw_skip (i := 40) rfl (by decide +kernel) rfl g38 ?_
                    refine dw_skip (i := 41) rfl (by decide +kernel) rfl g38 ?_
                    refine dw_skip (i := 42) rfl (by decide +kernel) rfl g38 ?_
                    refine dw_skip (i := 43) rfl (by decide +kernel) rfl g38 ?_
                    refine dw_pureG (i := 44) rfl (by decide +kernel) rfl g34 (pv_pickT rfl g38 (v := .bool _) rfl) ?_
                    refine dw_pureG (i := 45) rfl (by decide +kernel) rfl g34 (pv_move (v := .bool _) rfl) ?_
                    refine dw_skip (i := 46) rfl (by decide +kernel) rfl rfl ?_
                    refine dw_skip (i := 47) rfl (by decide +kernel) rfl rfl ?_
                    refine dw_skip (i := 48) rfl (by decide +kernel) rfl rfl ?_
                    refine dw_skip (i := 49) rfl (by decide +kernel) rfl rfl ?_
                    refine dw_skip (i := 50) rfl (by decide +kernel) rfl rfl ?_
                    refine dw_skip (i := 51) rfl (by decide +kernel) rfl rfl ?_
                    refine dw_skip (i := 52) rfl (by decide +kernel) rfl rfl ?_
                    refine dw_skip (i := 53) rfl (by decide +kernel) rfl rfl ?_
                    refine dw_pureG (i := 54) rfl (by decide +kernel) rfl g34 (pv_pickT rfl rfl (v := .bool _) rfl) ?_
                    refine dw_pure (i := 55) rfl (by decide +kernel) (pv_pickT rfl g34 (v := .bool _) rfl) ?_
                    refine dw_pure (i := 56) rfl (by decide +kernel) (pv_assign (v := .bool _) rfl) ?_
                    refine dw_pure (i := 57) rfl (by decide +kernel) (pv_assign (v := .bool _) rfl) ?_
                    refine dw_end rfl ?_
                    refine ⟨(false, true), ⟨rfl, rfl, trivial⟩, rfl, rfl, (Ext.refl _), fun h3 E3 => ⟨fun h => absurd h Bool.false_ne_true, fun _ => ⟨by omega, hvR, .inl (by rw [List.length_eq_zero_iff.1 hz]; exact fun _ h => absurd h List.not_mem_nil)⟩⟩, ?_⟩
                    repeat (first | exact off_refl _ _ | exact off_base _ _ _ | refine off_upd (by decide) ?_ | refine off_updL rfl ?_ | refine off_mix rfl ?_)
                  · have g38 : ((rows.length : Int) == 0) = false := beq_eq_false_iff_ne.2 (by omega)
                    have hzl : rows.length - 1 < rows.length := by omega
                    obtain ⟨g0, o0, hA0, hc0'⟩ := (R6.ext (Ext.trans (Ext.trans (Ext.trans (Ext.trans (Ext.trans (Ext.trans (Ext.trans E7 E8) E_k) E_q) G8) E_uu) E_f) E12)).at (by omega) hz
                    obtain ⟨g9, o9, hA9, hc9⟩ := (R6.ext (Ext.trans (Ext.trans (Ext.trans (Ext.trans (Ext.trans (Ext.trans (Ext.trans E7 E8) E_k) E_q) G8) E_uu) E_f) E12)).at (by omega) hzl
                    have af := asc_first hrasc hz
                    have al := asc_last hrasc hzl
                    by_cases hv0 : (v : Int) < rows[0]
                    · have g45 : decide ((v : Int) < rows[0]) = true := decide_eq_true hv0
                      refine xp_dw [] rfl rfl rfl ?_
                      refine dw_pure (i := 0) rfl (by decide +kernel) (pv_move (v := .int .i64 _) rfl) ?_
                      refine dw_pure (i := 1) rfl (by decide +kernel) (pv_fieldAddr rfl rfl rfl rfl 1 rfl) ?_
                      refine dw_load (i := 2) rfl (by decide +kernel) ?_
                      refine op_loadP 1 (v := .int .i64 _) rfl rfl rfl rfl ?_
                      refine dw_pure (i := 3) rfl (by decide +kernel) (pv_of (v := .bool _) rfl) ?_
                      refine dw_pure (i := 4) rfl (by decide +kernel) (pv_move (v := .bool _) rfl) ?_
                      refine dw_skip (i := 5) rfl (by decide +kernel) rfl g4 ?_
                      refine dw_skip (i := 6) rfl (by decide +kernel) rfl g4 ?_
                      refine dw_skip (i := 7) rfl (by decide +kernel) rfl g4 ?_
                      refine dw_un (i := 8) rfl (by decide +kernel) rfl ?_
                      refine dw_un (i := 9) rfl (by decide +kernel) rfl ?_
                      refine dw_un (i := 10) rfl (by decide +kernel) rfl ?_
                      refine dw_un (i := 11) rfl (by decide +kernel) rfl ?_
                      refine dw_un (i := 12) rfl (by decide +kernel) rfl ?_
                      refine dw_un (i := 13) rfl (by decide +kernel) rfl ?_
                      refine dw_un (i := 14) rfl (by decide +kernel) rfl ?_
                      refine dw_un (i := 15) rfl (by decide +kernel) rfl ?_
                      refine dw_un (i := 16) rfl (by decide +kernel) rfl ?_
                      refine dw_skip (i := 17) rfl (by decide +kernel) rfl g4 ?_
                      refine dw_pure (i := 18) rfl (by decide +kernel) (pv_pickF rfl g4 (v := .bool _) rfl) ?_
                      refine dw_pure (i := 19) rfl (by decide +kernel) (pv_move (v := .int .i64 _) rfl) ?_
                      refine dw_pure (i := 20) rfl (by decide +kernel) (pv_fieldAddr rfl rfl rfl rfl 1 rfl) ?_
                      refine dw_load (i := 21) rfl (by decide +kernel) ?_
                      refine op_loadP 1 (v := .int .i64 _) rfl rfl rfl rfl ?_
                      refine dw_pure (i := 22) rfl (by decide +kernel) (pv_of (v := .bool _) rfl) ?_
                      refine dw_pure (i := 23) rfl (by decide +kernel) (pv_move (v := .bool _) rfl) ?_
                      refine dw_pureG (i := 24) rfl (by decide +kernel) rfl g23 (pv_move (v := .int .i64 _) rfl) ?_
                      refine dw_pureG (i := 25) rfl (by decide +kernel) rfl g23 (pv_of (v := .bool _) rfl) ?_
                      refine dw_pure (i := 26) rfl (by decide +kernel) (pv_pickT rfl g23 (v := .bool _) rfl) ?_
                      refine dw_pure (i := 27) rfl (by decide +kernel) (pv_move (v := .bool _) rfl) ?_
                      refine dw_pureG (i := 28) rfl (by decide +kernel) rfl rfl (pv_move (v := .int .i64 _) rfl) ?_
                      refine dw_pureG (i := 29) rfl (by decide +kernel) rfl rfl (pv_fieldAddr rfl rfl rfl rfl 4 rfl) ?_
                      refine dw_loadG (i := 30) rfl (by decide +kernel) rfl rfl ?_
                      refine op_loadP 2 (v := .slice _ _ _) rfl rfl rfl rfl ?_
                      refine dw_pureG (i := 31) rfl (by decide +kernel) rfl rfl (pv_len rfl rfl) ?_
                      refine dw_pureG (i := 32) rfl (by decide +kernel) rfl rfl (pv_of (v := .bool _) rfl) ?_
                      refine dw_pure (i := 33) rfl (by decide +kernel) (pv_pickT rfl rfl (v := .bool _) rfl) ?_
                      refine dw_pure (i := 34) rfl (by decide +kernel) (pv_move (v := .bool _) rfl) ?_
                      refine dw_pureG (i := 35) rfl (by decide +kernel) rfl g34 (pv_move (v := .slice _ _ _) rfl) ?_
                      refine dw_pureG (i := 36) rfl (by decide +kernel) rfl g34 (pv_len rfl rfl) ?_
                      refine dw_pureG (i := 37) rfl (by decide +kernel) rfl g34 (pv_of (v := .bool _) rfl) ?_
                      refine dw_pureG (i := 38) rfl (by decide +kernel) rfl g34 (pv_move (v := .bool _) rfl) ?_
                      refine dw_pureG (i := 39) rfl (by decide +kernel) rfl g38 (pv_move (v := .int .i64 _) rfl) ?_
                      refine dw_pureG (i := 40) rfl (by decide +kernel) rfl g38 (pv_move (v := .slice _ _ _) rfl) ?_
                      refine dw_pureG (i := 41) rfl (by decide +kernel) rfl g38 (pv_indexE rfl hA0 rfl rfl rfl (by omega) (by omega)) ?_
                      refine dw_loadG (i := 42) rfl (by decide +kernel) rfl g38 ?_
                      refine op_load (v := .int .i64 _) rfl rfl ((hc0') 0 _ rfl) ?_
                      refine dw_pureG (i := 43) rfl (by decide +kernel) rfl g38 (pv_of (v := .bool _) rfl) ?_
                      refine dw_pureG (i := 44) rfl (by decide +kernel) rfl g34 (pv_pickF rfl g38 (v := .bool _) rfl) ?_
                      refine dw_pureG (i := 45) rfl (by decide +kernel) rfl g34 (pv_move (v := .bool _) rfl) ?_
                      refine dw_skip (i := 46) rfl (by decide +kernel) rfl g45 ?_
                      refine dw_skip (i := 47) rfl (by decide +kernel) rfl g45 ?_
                      refine dw_skip (i := 48) rfl (by decide +kernel) rfl g45 ?_
                      refine dw_skip (i := 49) rfl (by decide +kernel) rfl g45 ?_
                      refine dw_skip (i := 50) rfl (by decide +kernel) rfl g45 ?_
                      refine dw_skip (i := 51) rfl (by decide +kernel) rfl g45 ?_
                      refine dw_skip (i := 52) rfl (by decide +kernel) rfl g45 ?_
                      refine dw_skip (i := 53) rfl (by decide +kernel) rfl g45 ?_
                      refine dw_pureG (i := 54) rfl (by decide +kernel) rfl g34 (pv_pickT rfl g45 (v := .bool _) rfl) ?_
                      refine dw_pure (i := 55) rfl (by decide +kernel) (pv_pickT rfl g34 (v := .bool _) rfl) ?_
                      refine dw_pure (i := 56) rfl (by decide +kernel) (pv_assign (v := .bool _) rfl) ?_
                      refine dw_pure (i := 57) rfl (by decide +kernel) (pv_assign (v := .bool _) rfl) ?_
                      refine dw_end rfl ?_
                      refine ⟨(false, true), ⟨rfl, rfl, trivial⟩, rfl, rfl, (Ext.refl _), fun h3 E3 => ⟨fun h => absurd h Bool.false_ne_true, fun _ => ⟨by omega, hvR, .inl (fun z hz => by have := af z hz; omega)⟩⟩, ?_⟩
                      repeat (first | exact off_refl _ _ | exact off_base _ _ _ | refine off_upd (by decide) ?_ | refine off_updL rfl ?_ | refine off_mix rfl ?_)
                    · have g45 : decide ((v : Int) < rows[0]) = false := decide_eq_false hv0
                      refine xp_dw [] rfl rfl rfl ?_
                      refine dw_pure (i := 0) rfl (by decide +kernel) (pv_move (v := .int .i64 _) rfl) ?_
                      refine dw_pure (i := 1) rfl (by decide +kernel) (pv_fieldAddr rfl rfl rfl rfl 1 rfl) ?_
                      refine dw_load (i := 2) rfl (by decide +kernel) ?_
                      refine op_loadP 1 (v := .int .i64 _) rfl rfl rfl rfl ?_
                      refine dw_pure (i := 3) rfl (by decide +kernel) (pv_of (v := .bool _) rfl) ?_
                      refine dw_pure (i := 4) rfl (by decide +kernel) (pv_move (v := .bool _) rfl) ?_
                      refine dw_skip (i := 5) rfl (by decide +kernel) rfl g4 ?_
                      refine dw_skip (i := 6) rfl (by decide +kernel) rfl g4 ?_
                      refine dw_skip (i := 7) rfl (by decide +kernel) rfl g4 ?_
                      refine dw_un (i := 8) rfl (by decide +kernel) rfl ?_
                      refine dw_un (i := 9) rfl (by decide +kernel) rfl ?_
                      refine dw_un (i := 10) rfl (by decide +kernel) rfl ?_
                      refine dw_un (i := 11) rfl (by decide +kernel) rfl ?_
                      refine dw_un (i := 12) rfl (by decide +kernel) rfl ?_
                      refine dw_un (i := 13) rfl (by decide +kernel) rfl ?_
                      refine dw_un (i := 14) rfl (by decide +kernel) rfl ?_
                      refine dw_un (i := 15) rfl (by decide +kernel) rfl ?_
                      refine dw_un (i := 16) rfl (by decide +kernel) rfl ?_
                      refine dw_skip (i := 17) rfl (by decide +kernel) rfl g4 ?_
                      refine dw_pure (i := 18) rfl (by decide +kernel) (pv_pickF rfl g4 (v := .bool _) rfl) ?_
                      refine dw_pure (i := 19) rfl (by decide +kernel) (pv_move (v := .int .i64 _) rfl) ?_
                      refine dw_pure (i := 20) rfl (by decide +kernel) (pv_fieldAddr rfl rfl rfl rfl 1 rfl) ?_
                      refine dw_load (i := 21) rfl (by decide +kernel) ?_
                      refine op_loadP 1 (v := .int .i64 _) rfl rfl rfl rfl ?_
                      refine dw_pure (i := 22) rfl (by decide +kernel) (pv_of (v := .bool _) rfl) ?_
                      refine dw_pure (i := 23) rfl (by decide +kernel) (pv_move (v := .bool _) rfl) ?_
                      refine dw_pureG (i := 24) rfl (by decide +kernel) rfl g23 (pv_move (v := .int .i64 _) rfl) ?_
                      refine dw_pureG (i := 25) rfl (by decide +kernel) rfl g23 (pv_of (v := .bool _) rfl) ?_
                      refine dw_pure (i := 26) rfl (by decide +kernel) (pv_pickT rfl g23 (v := .bool _) rfl) ?_
                      refine dw_pure (i := 27) rfl (by decide +kernel) (pv_move (v := .bool _) rfl) ?_
                      refine dw_pureG (i := 28) rfl (by decide +kernel) rfl rfl (pv_move (v := .int .i64 _) rfl) ?_
                      refine dw_pureG (i := 29) rfl (by decide +kernel) rfl rfl (pv_fieldAddr rfl rfl rfl rfl 4 rfl) ?_
                      refine dw_loadG (i := 30) rfl (by decide +kernel) rfl rfl ?_
                      refine op_loadP 2 (v := .slice _ _ _) rfl rfl rfl rfl ?_
                      refine dw_pureG (i := 31) rfl (by decide +kernel) rfl rfl (pv_len rfl rfl) ?_
                      refine dw_pureG (i := 32) rfl (by decide +kernel) rfl rfl (pv_of (v := .bool _) rfl) ?_
                      refine dw_pure (i := 33) rfl (by decide +kernel) (pv_pickT rfl rfl (v := .bool _) rfl) ?_
                      refine dw_pure (i := 34) rfl (by decide +kernel) (pv_move (v := .bool _) rfl) ?_
                      refine dw_pureG (i := 35) rfl (by decide +kernel) rfl g34 (pv_move (v := .slice _ _ _) rfl) ?_
                      refine dw_pureG (i := 36) rfl (by decide +kernel) rfl g34 (pv_len rfl rfl) ?_
                      refine dw_pureG (i := 37) rfl (by decide +kernel) rfl g34 (pv_of (v := .bool _) rfl) ?_
                      refine dw_pureG (i := 38) rfl (by decide +kernel) rfl g34 (pv_move (v := .bool _) rfl) ?_
                      refine dw_pureG (i := 39) rfl (by decide +kernel) rfl g38 (pv_move (v := .int .i64 _) rfl) ?_
                      refine dw_pureG (i := 40) rfl (by decide +kernel) rfl g38 (pv_move (v := .slice _ _ _) rfl) ?_
                      refine dw_pureG (i := 41) rfl (by decide +kernel) rfl g38 (pv_indexE rfl hA0 rfl rfl rfl (by omega) (by omega)) ?_
                      refine dw_loadG (i := 42) rfl (by decide +kernel) rfl g38 ?_
                      refine op_load (v := .int .i64 _) rfl rfl ((hc0') 0 _ rfl) ?_
                      refine dw_pureG (i := 43) rfl (by decide +kernel) rfl g38 (pv_of (v := .bool _) rfl) ?_
                      refine dw_pureG (i := 44) rfl (by decide +kernel) rfl g34 (pv_pickF rfl g38 (v := .bool _) rfl) ?_
                      refine dw_pureG (i := 45) rfl (by decide +kernel) rfl g34 (pv_move (v := .bool _) rfl) ?_
                      refine dw_pureG (i := 46) rfl (by decide +kernel) rfl g45 (pv_move (v := .int .i64 _) rfl) ?_
                      refine dw_pureG (i := 47) rfl (by decide +kernel) rfl g45 (pv_move (v := .slice _ _ _) rfl) ?_
                      refine dw_pureG (i := 48) rfl (by decide +kernel) rfl g45 (pv_move (v := .slice _ _ _) rfl) ?_
                      refine dw_pureG (i := 49) rfl (by decide +kernel) rfl g45 (pv_len rfl rfl) ?_
                      refine dw_pureG (i := 50) rfl (by decide +kernel) rfl g45 (pv_val (v' := .int .i64 ((rows.length - 1 : Nat) : Int)) (intE (by omega)) (pv_arith rfl (by omega))) ?_
                      refine dw_pureG (i := 51) rfl (by decide +kernel) rfl g45 (pv_indexE rfl hA9 rfl rfl rfl (by omega) (by omega)) ?_
                      refine dw_loadG (i := 52) rfl (by decide +kernel) rfl g45 ?_
                      refine op_load (v := .int .i64 _) rfl rfl ((hc9) 0 _ rfl) ?_
                      refine dw_pureG (i := 53) rfl (by decide +kernel) rfl g45 (pv_of (v := .bool _) rfl) ?_
                      refine dw_pureG (i := 54) rfl (by decide +kernel) rfl g34 (pv_pickF rfl g45 (v := .bool _) rfl) ?_
                      refine dw_pure (i := 55) rfl (by decide +kernel) (pv_pickT rfl g34 (v := .bool _) rfl) ?_
                      refine dw_pure (i := 56) rfl (by decide +kernel) (pv_assign (v := .bool _) rfl) ?_
                      refine dw_pure (i := 57) rfl (by decide +kernel) (pv_assign (v := .bool _) rfl) ?_
                      refine dw_end rfl ?_
                      refine ⟨(false, decide ((v : Int) > rows[rows.length - 1])), ⟨rfl, rfl, trivial⟩, rfl, rfl, (Ext.refl _), fun h3 E3 => ⟨fun h => absurd h Bool.false_ne_true, fun h => ⟨by omega, hvR, .inr (fun z hz => by have := al z hz; have := of_decide_eq_true h; omega)⟩⟩, ?_⟩
                      repeat (first | exact off_refl _ _ | exact off_base _ _ _ | refine off_upd (by decide) ?_ | refine off_updL rfl ?_ | refine off_mix rfl ?_)
                · have g34 : decide ((v : Int) < (s.rows.length : Int)) = false := decide_eq_false hvR
                  refine xp_dw [] rfl rfl rfl ?_
                  refine dw_pure (i := 0) rfl (by decide +kernel) (pv_move (v := .int .i64 _) rfl) ?_
                  refine dw_pure (i := 1) rfl (by decide +kernel) (pv_fieldAddr rfl rfl rfl rfl 1 rfl) ?_
                  refine dw_load (i := 2) rfl (by decide +kernel) ?_
                  refine op_loadP 1 (v := .int .i64 _) rfl rfl rfl rfl ?_
                  refine dw_pure (i := 3) rfl (by decide +kernel) (pv_of (v := .bool _) rfl) ?_
                  refine dw_pure (i := 4) rfl (by decide +kernel) (pv_move (v := .bool _) rfl) ?_
                  refine dw_skip (i := 5) rfl (by decide +kernel) rfl g4 ?_
                  refine dw_skip (i := 6) rfl (by decide +kernel) rfl g4 ?_
                  refine dw_skip (i := 7) rfl (by decide +kernel) rfl g4 ?_
                  refine dw_un (i := 8) rfl (by decide +kernel) rfl ?_
                  refine dw_un (i := 9) rfl (by decide +kernel) rfl ?_
                  refine dw_un (i := 10) rfl (by decide +kernel) rfl ?_
                  refine dw_un (i := 11) rfl (by decide +kernel) rfl ?_
                  refine dw_un (i := 12) rfl (by decide +kernel) rfl ?_
                  refine dw_un (i := 13) rfl (by decide +kernel) rfl ?_
                  refine dw_un (i := 14) rfl (by decide +kernel) rfl ?_
                  refine dw_un (i := 15) rfl (by decide +kernel) rfl ?_
                  refine dw_un (i := 16) rfl (by decide +kernel) rfl ?_
                  refine dw_skip (i := 17) rfl (by decide +kernel) rfl g4 ?_
                  refine dw_pure (i := 18) rfl (by decide +kernel) (pv_pickF rfl g4 (v := .bool _) rfl) ?_
                  refine dw_pure (i := 19) rfl (by decide +kernel) (pv_move (v := .int .i64 _) rfl) ?_
                  refine dw_pure (i := 20) rfl (by decide +kernel) (pv_fieldAddr rfl rfl rfl rfl 1 rfl) ?_
                  refine dw_load (i := 21) rfl (by decide +kernel) ?_
                  refine op_loadP 1 (v := .int .i64 _) rfl rfl rfl rfl ?_
                  refine dw_pure (i := 22) rfl (by decide +kernel) (pv_of (v := .bool _) rfl) ?_
                  refine dw_pure (i := 23) rfl (by decide +kernel) (pv_move (v := .bool _) rfl) ?_
                  refine dw_pureG (i := 24) rfl (by decide +kernel) rfl g23 (pv_move (v := .int .i64 _) rfl) ?_
                  refine dw_pureG (i := 25) rfl (by decide +kernel) rfl g23 (pv_of (v := .bool _) rfl) ?_
                  refine dw_pure (i := 26) rfl (by decide +kernel) (pv_pickT rfl g23 (v := .bool _) rfl) ?_
                  refine dw_pure (i := 27) rfl (by decide +kernel) (pv_move (v := .bool _) rfl) ?_
                  refine dw_pureG (i := 28) rfl (by decide +kernel) rfl rfl (pv_move (v := .int .i64 _) rfl) ?_
                  refine dw_pureG (i := 29) rfl (by decide +kernel) rfl rfl (pv_fieldAddr rfl rfl rfl rfl 4 rfl) ?_
                  refine dw_loadG (i := 30) rfl (by decide +kernel) rfl rfl ?_
                  refine op_loadP 2 (v := .slice _ _ _) rfl rfl rfl rfl ?_
                  refine dw_pureG (i := 31) rfl (by decide +kernel) rfl rfl (pv_len rfl rfl) ?_
                  refine dw_pureG (i := 32) rfl (by decide +kernel) rfl rfl (pv_of (v := .bool _) rfl) ?_
                  refine dw_pure (i := 33) rfl (by decide +kernel) (pv_pickT rfl rfl (v := .bool _) rfl) ?_
                  refine dw_pure (i := 34) rfl (by decide +kernel) (pv_move (v := .bool _) rfl) ?_
                  refine dw_skip (i := 35) rfl (by decide +kernel) rfl g34 ?_
                  refine dw_skip (i := 36) rfl (by decide +kernel) rfl g34 ?_
                  refine dw_skip (i := 37) rfl (by decide +kernel) rfl g34 ?_
                  refine dw_skip (i := 38) rfl (by decide +kernel) rfl g34 ?_
                  refine dw_un (i := 39) rfl (by decide +kernel) rfl ?_
                  refine dw_un (i := 40) rfl (by decide +kernel) rfl ?_
                  refine dw_un (i := 41) rfl (by decide +kernel) rfl ?_
                  refine dw_un (i := 42) rfl (by decide +kernel) rfl ?_
                  refine dw_un (i := 43) rfl (by decide +kernel) rfl ?_
                  refine dw_skip (i := 44) rfl (by decide +kernel) rfl g34 ?_
                  refine dw_skip (i := 45) rfl (by decide +kernel) rfl g34 ?_
                  refine dw_un (i := 46) rfl (by decide +kernel) rfl ?_
                  refine dw_un (i := 47) rfl (by decide +kernel) rfl ?_
                  refine dw_un (i := 48) rfl (by decide +kernel) rfl ?_
                  refine dw_un (i := 49) rfl (by decide +kernel) rfl ?_
                  refine dw_un (i := 50) rfl (by decide +kernel) rfl ?_
                  refine dw_un (i := 51) rfl (by decide +kernel) rfl ?_
                  refine dw_un (i := 52) rfl (by decide +kernel) rfl ?_
                  refine dw_un (i := 53) rfl (by decide +kernel) rfl ?_
                  refine dw_skip (i := 54) rfl (by decide +kernel) rfl g34 ?_
                  refine dw_pure (i := 55) rfl (by decide +kernel) (pv_pickF rfl g34 (v := .bool _) rfl) ?_
                  refine dw_pure (i := 56) rfl (by decide +kernel) (pv_assign (v := .bool _) rfl) ?_
                  refine dw_pure (i := 57) rfl (by decide +kernel) (pv_assign (v := .bool _) rfl) ?_
                  refine dw_end rfl ?_
                  refine ⟨(false, false), ⟨rfl, rfl, trivial⟩, rfl, rfl, (Ext.refl _), fun h3 E3 => ⟨fun h => absurd h Bool.false_ne_true, fun h => absurd h Bool.false_ne_true⟩, ?_⟩
                  repeat (first | exact off_refl _ _ | exact off_base _ _ _ | refine off_upd (by decide) ?_ | refine off_updL rfl ?_ | refine off_mix rfl ?_)
              · have g27 : decide ((q : Int) < 0) = false := decide_eq_false (by omega)
                refine xp_dw [] rfl rfl rfl ?_
                refine dw_pure (i := 0) rfl (by decide +kernel) (pv_move (v := .int .i64 _) rfl) ?_
                refine dw_pure (i := 1) rfl (by decide +kernel) (pv_fieldAddr rfl rfl rfl rfl 1 rfl) ?_
                refine dw_load (i := 2) rfl (by decide +kernel) ?_
                refine op_loadP 1 (v := .int .i64 _) rfl rfl rfl rfl ?_
                refine dw_pure (i := 3) rfl (by decide +kernel) (pv_of (v := .bool _) rfl) ?_
                refine dw_pure (i := 4) rfl (by decide +kernel) (pv_move (v := .bool _) rfl) ?_
                refine dw_skip (i := 5) rfl (by decide +kernel) rfl g4 ?_
                refine dw_skip (i := 6) rfl (by decide +kernel) rfl g4 ?_
                refine dw_skip (i := 7) rfl (by decide +kernel) rfl g4 ?_
                refine dw_un (i := 8) rfl (by decide +kernel) rfl ?_
                refine dw_un (i := 9) rfl (by decide +kernel) rfl ?_
                refine dw_un (i := 10) rfl (by decide +kernel) rfl ?_
                refine dw_un (i := 11) rfl (by decide +kernel) rfl ?_
                refine dw_un (i := 12) rfl (by decide +kernel) rfl ?_
                refine dw_un (i := 13) rfl (by decide +kernel) rfl ?_
                refine dw_un (i := 14) rfl (by decide +kernel) rfl ?_
                refine dw_un (i := 15) rfl (by decide +kernel) rfl ?_
                refine dw_un (i := 16) rfl (by decide +kernel) rfl ?_
                refine dw_skip (i := 17) rfl (by decide +kernel) rfl g4 ?_
                refine dw_pure (i := 18) rfl (by decide +kernel) (pv_pickF rfl g4 (v := .bool _) rfl) ?_
                refine dw_pure (i := 19) rfl (by decide +kernel) (pv_move (v := .int .i64 _) rfl) ?_
                refine dw_pure (i := 20) rfl (by decide +kernel) (pv_fieldAddr rfl rfl rfl rfl 1 rfl) ?_
                refine dw_load (i := 21) rfl (by decide +kernel) ?_
                refine op_loadP 1 (v := .int .i64 _) rfl rfl rfl rfl ?_
                refine dw_pure (i := 22) rfl (by decide +kernel) (pv_of (v := .bool _) rfl) ?_
                refine dw_pure (i := 23) rfl (by decide +kernel) (pv_move (v := .bool _) rfl) ?_
                refine dw_pureG (i := 24) rfl (by decide +kernel) rfl g23 (pv_move (v := .int .i64 _) rfl) ?_
                refine dw_pureG (i := 25) rfl (by decide +kernel) rfl g23 (pv_of (v := .bool _) rfl) ?_
                refine dw_pure (i := 26) rfl (by decide +kernel) (pv_pickT rfl g23 (v := .bool _) rfl) ?_
                refine dw_pure (i := 27) rfl (by decide +kernel) (pv_move (v := .bool _) rfl) ?_
                refine dw_skip (i := 28) rfl (by decide +kernel) rfl g27 ?_
                refine dw_skip (i := 29) rfl (by decide +kernel) rfl g27 ?_
                refine dw_skip (i := 30) rfl (by decide +kernel) rfl g27 ?_
                refine dw_skip (i := 31) rfl (by decide +kernel) rfl g27 ?_
                refine dw_skip (i := 32) rfl (by decide +kernel) rfl g27 ?_
                refine dw_pure (i := 33) rfl (by decide +kernel) (pv_pickF rfl g27 (v := .bool _) rfl) ?_
                refine dw_pure (i := 34) rfl (by decide +kernel) (pv_move (v := .bool _) rfl) ?_
                refine dw_skip (i := 35) rfl (by decide +kernel) rfl rfl ?_
                refine dw_skip (i := 36) rfl (by decide +kernel) rfl rfl ?_
                refine dw_skip (i := 37) rfl (by decide +kernel) rfl rfl ?_
                refine dw_skip (i := 38) rfl (by decide +kernel) rfl rfl ?_
                refine dw_un (i := 39) rfl (by decide +kernel) rfl ?_
                refine dw_un (i := 40) rfl (by decide +kernel) rfl ?_
                refine dw_un (i := 41) rfl (by decide +kernel) rfl ?_
                refine dw_un (i := 42) rfl (by decide +kernel) rfl ?_
                refine dw_un (i := 43) rfl (by decide +kernel) rfl ?_
                refine dw_skip (i := 44) rfl (by decide +kernel) rfl rfl ?_
                refine dw_skip (i := 45) rfl (by decide +kernel) rfl rfl ?_
                refine dw_un (i := 46) rfl (by decide +kernel) rfl ?_
                refine dw_un (i := 47) rfl (by decide +kernel) rfl ?_
                refine dw_un (i := 48) rfl (by decide +kernel) rfl ?_
                refine dw_un (i := 49) rfl (by decide +kernel) rfl ?_
                refine dw_un (i := 50) rfl (by decide +kernel) rfl ?_
                refine dw_un (i := 51) rfl (by decide +kernel) rfl ?_
                refine dw_un (i := 52) rfl (by decide +kernel) rfl ?_
                refine dw_un (i := 53) rfl (by decide +kernel) rfl ?_
                refine dw_skip (i := 54) rfl (by decide +kernel) rfl rfl ?_
                refine dw_pure (i := 55) rfl (by decide +kernel) (pv_pickF rfl rfl (v := .bool _) rfl) ?_
                refine dw_pure (i := 56) rfl (by decide +kernel) (pv_assign (v := .bool _) rfl) ?_
                refine dw_pure (i := 57) rfl (by decide +kernel) (pv_assign (v := .bool _) rfl) ?_
                refine dw_end rfl ?_
                refine ⟨(false, false), ⟨rfl, rfl, trivial⟩, rfl, rfl, (Ext.refl _), fun h3 E3 => ⟨fun h => absurd h Bool.false_ne_true, fun h => absurd h Bool.false_ne_true⟩, ?_⟩
                repeat (first | exact off_refl _ _ | exact off_base _ _ _ | refine off_upd (by decide) ?_ | refine off_updL rfl ?_ | refine off_mix rfl ?_)
          · rintro ⟨sh, op⟩ T7 h_sh E_sh J_sh
            refine goes_norm [_, _, _, _, _] rfl ?_
            obtain ⟨J1, J2⟩ := J_sh
            have hn6 : vs.length ≤ 6 := by
              rw [hvl, notesM_eq SB]
              have := SB.n6
              split <;> omega
            have hbe : brokenE m [(f : Int)] a = 0 := by
              unfold brokenE
              rw [chk_of M, if_neg (by decide), checkSet_iff.2 ⟨fun z hz => by rw [List.mem_singleton.1 hz, faults_len]; push_cast; omega, List.pairwise_singleton _ _⟩, if_neg (by decide)]
              exact hc0
            cases sh with
            | true =>
              have hop : op = false := by
                cases op with
                | false => rfl
                | true => have h1 := (J1 rfl).1; have h2 := (J2 rfl).1; omega
              subst hop
              obtain ⟨hfL, hrw⟩ := J1 rfl
              have hpk : pickL m [(f : Int)] = [.shut v] := by rw [hv1 hfL]; exact pick_shut hfL
              have hmem : ∀ z, z ∈ openM (listN (soundsB m (pickL m [(f : Int)]) a) 6) (s.rows.length : Int) ↔ z ∈ rows ∧ z ≠ (v : Int) := fun z => by rw [hpk, mem_openM, shut_mem (by omega), ← hsL, hrows, mem_openM]; exact ⟨fun h => ⟨⟨h.1.1, h.2⟩, h.1.2⟩, fun h => ⟨⟨h.1.1, h.2⟩, h.1.2⟩⟩
              obtain ⟨now, hnow⟩ : ∃ now, now = openM (listN (soundsB m (pickL m [(f : Int)]) a) 6) (s.rows.length : Int) := ⟨_, rfl⟩
              rw [← hnow] at hmem
              have hnasc : now.Pairwise (· < ·) := by rw [hnow]; exact openM_asc (listN_asc _ _) _
              have hnb : ∀ x ∈ now, 0 ≤ x ∧ x < (s.rows.length : Int) := fun x hx => by rw [hnow] at hx; exact (mem_openM.1 hx).2
              have hnl : now.length ≤ 4 := by have := asc_len now 0 (s.rows.length : Int) hnasc hnb; omega
              have hnreg := reg_of hnasc hnb
              have hrel : rows = (v : Int) :: now ∨ rows = now ++ [(v : Int)] := by
                rcases hrw with ⟨t, ht⟩ | ⟨t, ht⟩
                · exact .inl (by rw [less_first (r := t) (v := (v : Int)) (ht ▸ hrasc) hnasc (fun z => by rw [hmem, ht])]; exact ht)
                · exact .inr (by rw [less_last (r := t) (v := (v : Int)) (ht ▸ hrasc) hnasc (fun z => by rw [hmem, ht])]; exact ht)
              have hlen : rows.length = now.length + 1 := by rcases hrel with h | h <;> rw [h] <;> simp
              refine xp_seq ?_
              refine xp_seq ?_
              refine xp_region rfl ?_
              refine op_pure (pv_move (v := .bool _) rfl) ?_
              refine op_pure (pv_of (v := .bool _) rfl) ?_
              refine op_pure (pv_move (v := .bool _) rfl) ?_
              refine guard_no rfl rfl ?_
              refine guard_no rfl rfl ?_
              refine op_pure (pv_pickF rfl rfl (v := .bool _) rfl) ?_
              refine xp_condF rfl (rfl) ?_
              refine xp_skip ?_
              refine xp_seq ?_
              refine xp_region rfl ?_
              refine op_loadPA 1 (vs := [.int .i64 _, .int .i64 _, .int .i64 _, .int .i64 _, .int .i64 _, .slice _ _ _, .slice _ _ _, .slice _ _ _, .slice _ _ _]) rfl rfl rfl rfl rfl ?_
              refine op_pure (pv_move (v := .int .i64 _) rfl) ?_
              refine op_buildSlice (zc := [_]) (vs := [(0, .int .i64 _)]) (cs := [_]) rfl rfl rfl rfl rfl rfl rfl fun b214 hb214 => ?_
              refine wp_norm [_, _, _, _, _, _] rfl ?_
              refine op_loadPA 3 (vs := [.slice _ _ _, .slice _ _ _]) rfl rfl rfl rfl rfl ?_
              refine wp_pub 5 rfl rfl ?_
              intro gB GB PB
              refine wp_norm [_, _, _, _, _, _] rfl ?_
              refine wp_norm [_, _, _, _, _, _] rfl ?_
              have HB := Broken_ok rfl m [(f : Int)] a AB AQ AL AW (some ⟨b214, 0, none⟩) HA OA cB cQ cL cW 1 cH cO gB (RM.ext (Ext.trans (Ext.trans (Ext.trans (Ext.trans (Ext.trans (Ext.trans (Ext.trans (Ext.trans (Ext.trans (Ext.trans (Ext.trans (Ext.trans (Ext.trans E3 E4) E5) E6) E7) E8) E_k) E_q) G8) E_uu) E_f) E12) E_sh) GB)) (row_of_block (enc := intC) (m := 1) (l := [(f : Int)]) (fun _ _ => rfl) PB) (RH.ext (Ext.trans (Ext.trans (Ext.trans (Ext.trans (Ext.trans (Ext.trans (Ext.trans (Ext.trans (Ext.trans (Ext.trans (Ext.trans E5 E6) E7) E8) E_k) E_q) G8) E_uu) E_f) E12) E_sh) GB)) (by omega) (show 1 < 2 ^ 19 by decide) (by omega) (by omega)
              have hbl : brokenL m [(f : Int)] a = listN (soundsB m (pickL m [(f : Int)]) a) 6 := if_pos hbe
              rw [hbe, hbl] at HB
              refine op_fn (caps := []) (vs := [.agg _, .slice _ _ _, .agg _]) rfl rfl rfl (HB) ?_
              rintro _ h13 E13 ⟨_, rfl, A13, c13, rfl, R13⟩
              refine op_pure (pv_move (v := .tuple #[.slice _ _ _, .int .i64 _]) rfl) ?_
              refine op_pure (pv_of (v := .slice _ _ _) rfl) ?_
              refine op_pure (pv_of (v := .int .i64 _) rfl) ?_
              refine op_pure (pv_assign (v := .slice _ _ _) rfl) ?_
              refine op_pure (pv_assign (v := .int .i64 _) rfl) ?_
              refine xp_seq ?_
              refine xp_region rfl ?_
              refine op_pure (pv_move (v := .slice _ _ _) rfl) ?_
              refine op_pure (pv_fieldAddr rfl rfl rfl rfl 4 rfl) ?_
              refine op_loadP 2 (v := .slice _ _ _) rfl rfl rfl rfl ?_
              refine op_pure (pv_len rfl rfl) ?_
              have HN := opened_ok (listN (soundsB m (pickL m [(f : Int)]) a) 6) (by have := listN_len (soundsB m (pickL m [(f : Int)]) a) 6; omega) (s.rows.length : Int) A13 c13 h13 (R13.ext (Ext.refl _))
              rw [← hnow] at HN
              refine op_fn (caps := []) (vs := [.slice _ _ _, .int .i64 _]) rfl rfl rfl (HN) ?_
              rintro _ h14 E14 ⟨A14, c14, rfl, R14⟩
              refine op_pure (pv_assign (v := .slice _ _ _) rfl) ?_
              refine xp_seq ?_
              refine xp_region rfl ?_
              refine op_loadPA 2 (vs := [.int .i64 _, .int .i64 _, .int .i64 _, .int .i64 _, .slice _ _ _]) rfl rfl rfl rfl rfl ?_
              refine op_pure (pv_move (v := .slice _ _ _) rfl) ?_
              refine op_fn (caps := []) (vs := [.agg _, .slice _ _ _]) rfl rfl rfl (Tremolo_ok s n SB now hnreg hnl SA A14 cS c14 h14 (RS.ext TS.mono (Ext.trans (Ext.trans (Ext.trans (Ext.trans (Ext.trans (Ext.trans (Ext.trans (Ext.trans (Ext.trans (Ext.trans (Ext.trans (Ext.trans (Ext.trans (Ext.trans E4 E5) E6) E7) E8) E_k) E_q) G8) E_uu) E_f) E12) E_sh) GB) E13) E14)) (R14.ext (Ext.refl _))) ?_
              rintro _ h15 E15 ⟨_, ks, rfl, ⟨A15, c15, rfl, R15⟩, hkl, hkv⟩
              have e13 : (!decide ((ks.length : Int) = (vs.length : Int))) = false := by rw [hkl, hvl]; simp
              refine op_pure (pv_move (v := .tuple #[.slice _ _ _, .int .i64 _]) rfl) ?_
              refine op_pure (pv_of (v := .slice _ _ _) rfl) ?_
              refine op_pure (pv_of (v := .int .i64 _) rfl) ?_
              refine op_pure (pv_assign (v := .slice _ _ _) rfl) ?_
              refine op_pure (pv_assign (v := .int .i64 _) rfl) ?_
              refine xp_seq ?_
              refine xp_seq ?_
              refine xp_region rfl ?_
              refine op_pure (pv_move (v := .int .i64 _) rfl) ?_
              refine op_pure (pv_of (v := .bool _) rfl) ?_
              refine op_pure (pv_move (v := .bool _) rfl) ?_
              have e24 : (!decide ((now.length : Int) = (rows.length : Int) - 1)) = false := by rw [hlen]; simp
              refine guard_yes rfl rfl ?_
              refine op_pure (pv_move (v := .int .i64 _) rfl) ?_
              refine guard_yes rfl rfl ?_
              refine op_pure (pv_of (v := .bool _) rfl) ?_
              refine op_pure (pv_pickF rfl rfl (v := .bool _) rfl) ?_
              refine op_pure (pv_move (v := .bool _) rfl) ?_
              refine guard_yes rfl rfl ?_
              refine op_pure (pv_move (v := .slice _ _ _) rfl) ?_
              refine guard_yes rfl rfl ?_
              refine op_pure (pv_len rfl rfl) ?_
              refine guard_yes rfl rfl ?_
              refine op_pure (pv_move (v := .slice _ _ _) rfl) ?_
              refine guard_yes rfl rfl ?_
              refine op_pure (pv_len rfl rfl) ?_
              refine guard_yes rfl rfl ?_
              refine op_pure (pv_of (v := .bool _) rfl) ?_
              refine op_pure (pv_pickF rfl rfl (v := .bool _) rfl) ?_
              refine op_pure (pv_move (v := .bool _) rfl) ?_
              refine guard_yes rfl e13 ?_
              refine op_pure (pv_move (v := .bool _) rfl) ?_
              refine guard_yes rfl e13 ?_
              refine op_pure (pv_move (v := .bool _) rfl) ?_
              refine guard_yes rfl rfl ?_
              refine op_pure (pv_move (v := .slice _ _ _) rfl) ?_
              refine guard_yes rfl rfl ?_
              refine op_pure (pv_len rfl rfl) ?_
              refine guard_yes rfl rfl ?_
              refine op_pure (pv_move (v := .slice _ _ _) rfl) ?_
              refine guard_yes rfl rfl ?_
              refine op_pure (pv_len rfl rfl) ?_
              refine guard_yes rfl rfl ?_
              refine op_pure (pv_arith rfl (by omega)) ?_
              refine guard_yes rfl rfl ?_
              refine op_pure (pv_of (v := .bool _) rfl) ?_
              refine guard_yes rfl e13 ?_
              refine op_pure (pv_pickT rfl rfl (v := .bool _) rfl) ?_
              refine op_pure (pv_pickF rfl e13 (v := .bool _) rfl) ?_
              refine op_pure (pv_move (v := .bool _) rfl) ?_
              refine guard_yes rfl e24 ?_
              refine op_pure (pv_move (v := .bool _) rfl) ?_
              refine guard_yes rfl e24 ?_
              refine op_pure (pv_move (v := .bool _) rfl) ?_
              refine guard_no rfl rfl ?_
              refine guard_no rfl rfl ?_
              refine guard_no rfl rfl ?_
              refine guard_no rfl rfl ?_
              refine guard_no rfl rfl ?_
              refine guard_no rfl rfl ?_
              refine guard_yes rfl e24 ?_
              refine op_pure (pv_pickF rfl rfl (v := .bool _) rfl) ?_
              refine op_pure (pv_pickF rfl e24 (v := .bool _) rfl) ?_
              refine xp_condF rfl (rfl) ?_
              refine xp_skip ?_
              refine xp_seq ?_
              refine xp_region rfl ?_
              refine op_pure (pv_assign (v := .int .i64 _) rfl) ?_
              refine xp_block ?_
              refine xp_loopB [2, 28, 265, 266, 267, 268, 269, 270, 271, 272, 273, 274, 275, 276, 277, 278, 279, 280, 281, 282, 283, 284, 285, 286, 287, 288, 289, 290, 291, 292, 293, 294, 295, 296, 297, 298, 299, 300, 301, 302] 6 (α := Nat) (fun qq => [(28, .int .i64 qq)]) (fun qq => _) (fun qq h_qq => qq ≤ vs.length) (fun qq => vs.length - qq) (0) ⟨rfl, trivial⟩ (rfl) (Nat.zero_le _) ?_
              rintro qq T8 h_qq E_qq J_qq
              refine goes_norm [_, _, _, _, _, _] rfl ?_
              refine xp_seq ?_
              refine xp_seq ?_
              refine xp_region rfl ?_
              refine op_pure (pv_move (v := .int .i64 _) rfl) ?_
              refine op_pure (pv_move (v := .slice _ _ _) rfl) ?_
              refine op_pure (pv_len rfl rfl) ?_
              refine op_pure (pv_of (v := .bool _) rfl) ?_
              refine xp_cond rfl (fun hq => ?_) (fun hq => ?_)
              · skip
                have hqv : qq < vs.length := ltI hq
                have hqk : qq < ks.length := by omega
                have V1 := hvv qq (by omega)
                have V2 := hkv qq (by omega)
                rw [List.getD_eq_getElem?_getD, List.getElem?_eq_getElem hqv, Option.getD_some] at V1
                rw [List.getD_eq_getElem?_getD, List.getElem?_eq_getElem hqk, Option.getD_some] at V2
                obtain ⟨g7, o7, hA7, hc7⟩ := (R7.ext (Ext.trans (Ext.trans (Ext.trans (Ext.trans (Ext.trans (Ext.trans (Ext.trans (Ext.trans (Ext.trans (Ext.trans (Ext.trans (Ext.trans E8 E_k) E_q) G8) E_uu) E_f) E12) E_sh) GB) E13) E14) E15) E_qq)).at (by omega) hqv
                obtain ⟨g8, o8, hA8, hc8⟩ := (R15.ext E_qq).at (by omega) hqk
                have himp : vs[qq] = 1 → ks[qq] = 1 := by
                  intro h1
                  rcases hrel with h | h
                  · rw [h] at V1; exact one_tail V1 V2 h1
                  · rw [h] at V1; unfold voicesM at V1; rw [List.map_append] at V1; exact one_init V1 V2 h1
                by_cases h1 : vs[qq] = 1
                · skip
                  have gv : (vs[qq] == 1) = true := by rw [h1]; rfl
                  have gk : (!decide (ks[qq] = 1)) = false := by rw [himp h1]; rfl
                  refine xp_skip ?_
                  refine xp_seq ?_
                  refine xp_block ?_
                  refine xp_seq ?_
                  refine xp_region rfl ?_
                  refine op_pure (pv_move (v := .bool _) rfl) ?_
                  refine op_pure (pv_move (v := .bool _) rfl) ?_
                  refine guard_yes rfl rfl ?_
                  refine op_pure (pv_move (v := .slice _ _ _) rfl) ?_
                  refine guard_yes rfl rfl ?_
                  refine op_pure (pv_move (v := .int .i64 _) rfl) ?_
                  refine guard_yes rfl rfl ?_
                  refine op_pure (pv_indexE rfl hA7 rfl rfl rfl (by omega) (by omega)) ?_
                  refine guard_yes rfl rfl ?_
                  refine op_load (v := .int .i64 _) rfl rfl ((hc7) 0 _ rfl) ?_
                  refine guard_yes rfl rfl ?_
                  refine op_pure (pv_of (v := .bool _) rfl) ?_
                  refine op_pure (pv_pickT rfl rfl (v := .bool _) rfl) ?_
                  refine op_pure (pv_move (v := .bool _) rfl) ?_
                  refine guard_yes rfl gv ?_
                  refine op_pure (pv_move (v := .slice _ _ _) rfl) ?_
                  refine guard_yes rfl gv ?_
                  refine op_pure (pv_move (v := .int .i64 _) rfl) ?_
                  refine guard_yes rfl gv ?_
                  refine op_pure (pv_indexE rfl hA8 rfl rfl rfl (by omega) (by omega)) ?_
                  refine guard_yes rfl gv ?_
                  refine op_load (v := .int .i64 _) rfl rfl ((hc8) 0 _ rfl) ?_
                  refine guard_yes rfl gv ?_
                  refine op_pure (pv_of (v := .bool _) rfl) ?_
                  refine op_pure (pv_pickT rfl gv (v := .bool _) rfl) ?_
                  refine op_pure (pv_move (v := .bool _) rfl) ?_
                  refine guard_yes rfl gk ?_
                  refine op_pure (pv_move (v := .bool _) rfl) ?_
                  refine guard_yes rfl gk ?_
                  refine op_pure (pv_move (v := .bool _) rfl) ?_
                  refine guard_no rfl rfl ?_
                  refine guard_no rfl rfl ?_
                  refine guard_no rfl rfl ?_
                  refine guard_no rfl rfl ?_
                  refine guard_no rfl rfl ?_
                  refine guard_yes rfl gk ?_
                  refine op_pure (pv_pickF rfl rfl (v := .bool _) rfl) ?_
                  refine guard_yes rfl gk ?_
                  refine op_pure (pv_move (v := .bool _) rfl) ?_
                  refine guard_no rfl rfl ?_
                  refine guard_no rfl rfl ?_
                  refine guard_no rfl rfl ?_
                  refine guard_no rfl rfl ?_
                  refine guard_no rfl rfl ?_
                  refine guard_yes rfl gk ?_
                  refine op_pure (pv_pickF rfl rfl (v := .bool _) rfl) ?_
                  refine op_pure (pv_pickF rfl gk (v := .bool _) rfl) ?_
                  refine xp_condF rfl (rfl) ?_
                  refine xp_skip ?_
                  refine xp_region rfl ?_
                  refine op_pure (pv_move (v := .int .i64 _) rfl) ?_
                  refine op_pure (pv_arith rfl (by omega)) ?_
                  refine op_pure (pv_assign (v := .int .i64 _) rfl) ?_
                  refine ⟨qq + 1, ⟨rfl, trivial⟩, rfl, rfl, E_qq, fun h3 E3 => hqv, by first | omega | (dsimp only; omega), ?_⟩
                  repeat (first | exact off_base _ _ _ | refine off_upd (by decide) ?_ | refine off_updL rfl ?_ | refine off_mix rfl ?_)
                · skip
                  have gv : (vs[qq] == 1) = false := beq_eq_false_iff_ne.2 h1
                  refine xp_skip ?_
                  refine xp_seq ?_
                  refine xp_block ?_
                  refine xp_seq ?_
                  refine xp_region rfl ?_
                  refine op_pure (pv_move (v := .bool _) rfl) ?_
                  refine op_pure (pv_move (v := .bool _) rfl) ?_
                  refine guard_yes rfl rfl ?_
                  refine op_pure (pv_move (v := .slice _ _ _) rfl) ?_
                  refine guard_yes rfl rfl ?_
                  refine op_pure (pv_move (v := .int .i64 _) rfl) ?_
                  refine guard_yes rfl rfl ?_
                  refine op_pure (pv_indexE rfl hA7 rfl rfl rfl (by omega) (by omega)) ?_
                  refine guard_yes rfl rfl ?_
                  refine op_load (v := .int .i64 _) rfl rfl ((hc7) 0 _ rfl) ?_
                  refine guard_yes rfl rfl ?_
                  refine op_pure (pv_of (v := .bool _) rfl) ?_
                  refine op_pure (pv_pickT rfl rfl (v := .bool _) rfl) ?_
                  refine op_pure (pv_move (v := .bool _) rfl) ?_
                  refine guard_no rfl gv ?_
                  refine guard_no rfl gv ?_
                  refine guard_no rfl gv ?_
                  refine guard_no rfl gv ?_
                  refine guard_no rfl gv ?_
                  refine op_pure (pv_pickF rfl gv (v := .bool _) rfl) ?_
                  refine op_pure (pv_move (v := .bool _) rfl) ?_
                  refine guard_yes rfl rfl ?_
                  refine op_pure (pv_move (v := .bool _) rfl) ?_
                  refine guard_yes rfl rfl ?_
                  refine op_pure (pv_move (v := .bool _) rfl) ?_
                  refine guard_no rfl rfl ?_
                  refine guard_no rfl rfl ?_
                  refine guard_no rfl rfl ?_
                  refine guard_no rfl rfl ?_
                  refine guard_no rfl rfl ?_
                  refine guard_yes rfl rfl ?_
                  refine op_pure (pv_pickF rfl rfl (v := .bool _) rfl) ?_
                  refine guard_yes rfl rfl ?_
                  refine op_pure (pv_move (v := .bool _) rfl) ?_
                  refine guard_no rfl rfl ?_
                  refine guard_no rfl rfl ?_
                  refine guard_no rfl rfl ?_
                  refine guard_no rfl rfl ?_
                  refine guard_no rfl rfl ?_
                  refine guard_yes rfl rfl ?_
                  refine op_pure (pv_pickF rfl rfl (v := .bool _) rfl) ?_
                  refine op_pure (pv_pickF rfl rfl (v := .bool _) rfl) ?_
                  refine xp_condF rfl (rfl) ?_
                  refine xp_skip ?_
                  refine xp_region rfl ?_
                  refine op_pure (pv_move (v := .int .i64 _) rfl) ?_
                  refine op_pure (pv_arith rfl (by omega)) ?_
                  refine op_pure (pv_assign (v := .int .i64 _) rfl) ?_
                  refine ⟨qq + 1, ⟨rfl, trivial⟩, rfl, rfl, E_qq, fun h3 E3 => hqv, by first | omega | (dsimp only; omega), ?_⟩
                  repeat (first | exact off_base _ _ _ | refine off_upd (by decide) ?_ | refine off_updL rfl ?_ | refine off_mix rfl ?_)
              · skip
                refine xp_exit ?_
                refine xp_region rfl ?_
                refine op_pure (pv_move (v := .int .i64 _) rfl) ?_
                refine op_pure (pv_arith rfl (by omega)) ?_
                refine op_pure (pv_assign (v := .int .i64 _) rfl) ?_
                refine ⟨f + 1, ⟨rfl, trivial⟩, rfl, rfl, (Ext.trans (Ext.trans (Ext.trans (Ext.trans (Ext.trans (Ext.trans (Ext.trans E_f E12) E_sh) GB) E13) E14) E15) E_qq), fun h3 E3 => by push_cast; omega, by first | omega | (dsimp only; omega), ?_⟩
                repeat (first | exact off_base _ _ _ | refine off_upd (by decide) ?_ | refine off_updL rfl ?_ | refine off_mix rfl ?_)
            | false =>
              cases op with
              | true =>
                obtain ⟨hfL, hvR, hrw⟩ := J2 rfl
                have hpk : pickL m [(f : Int)] = [.opn v] := pick_opn hv6 (by rw [hv2 hfL]; omega)
                have hmem : ∀ z, z ∈ openM (listN (soundsB m (pickL m [(f : Int)]) a) 6) (s.rows.length : Int) ↔ z ∈ rows ∨ z = (v : Int) := fun z => by rw [hpk, mem_openM, opn_mem (by omega), ← hsL, hrows, mem_openM]; exact ⟨fun h => h.1.elim (fun h1 => .inl ⟨h1, h.2⟩) .inr, fun h => h.elim (fun h1 => ⟨.inl h1.1, h1.2⟩) (fun h1 => ⟨.inr h1, by omega, by omega⟩)⟩
                obtain ⟨now, hnow⟩ : ∃ now, now = openM (listN (soundsB m (pickL m [(f : Int)]) a) 6) (s.rows.length : Int) := ⟨_, rfl⟩
                rw [← hnow] at hmem
                have hnasc : now.Pairwise (· < ·) := by rw [hnow]; exact openM_asc (listN_asc _ _) _
                have hnb : ∀ x ∈ now, 0 ≤ x ∧ x < (s.rows.length : Int) := fun x hx => by rw [hnow] at hx; exact (mem_openM.1 hx).2
                have hnl : now.length ≤ 4 := by have := asc_len now 0 (s.rows.length : Int) hnasc hnb; omega
                have hnreg := reg_of hnasc hnb
                have hrel : now = (v : Int) :: rows ∨ now = rows ++ [(v : Int)] := by
                  rcases hrw with h | h
                  · exact .inl (more_first hrasc h hnasc hmem)
                  · exact .inr (more_last hrasc h hnasc hmem)
                have hlen : now.length = rows.length + 1 := by rcases hrel with h | h <;> rw [h] <;> simp
                refine xp_seq ?_
                refine xp_seq ?_
                refine xp_region rfl ?_
                refine op_pure (pv_move (v := .bool _) rfl) ?_
                refine op_pure (pv_of (v := .bool _) rfl) ?_
                refine op_pure (pv_move (v := .bool _) rfl) ?_
                refine guard_yes rfl rfl ?_
                refine op_pure (pv_move (v := .bool _) rfl) ?_
                refine guard_yes rfl rfl ?_
                refine op_pure (pv_of (v := .bool _) rfl) ?_
                refine op_pure (pv_pickT rfl rfl (v := .bool _) rfl) ?_
                refine xp_condF rfl (rfl) ?_
                refine xp_skip ?_
                refine xp_seq ?_
                refine xp_region rfl ?_
                refine op_loadPA 1 (vs := [.int .i64 _, .int .i64 _, .int .i64 _, .int .i64 _, .int .i64 _, .slice _ _ _, .slice _ _ _, .slice _ _ _, .slice _ _ _]) rfl rfl rfl rfl rfl ?_
                refine op_pure (pv_move (v := .int .i64 _) rfl) ?_
                refine op_buildSlice (zc := [_]) (vs := [(0, .int .i64 _)]) (cs := [_]) rfl rfl rfl rfl rfl rfl rfl fun b214_1 hb214_1 => ?_
                refine wp_norm [_, _, _, _, _, _] rfl ?_
                refine op_loadPA 3 (vs := [.slice _ _ _, .slice _ _ _]) rfl rfl rfl rfl rfl ?_
                refine wp_pub 5 rfl rfl ?_
                intro gB GB PB
                refine wp_norm [_, _, _, _, _, _] rfl ?_
                refine wp_norm [_, _, _, _, _, _] rfl ?_
                have HB := Broken_ok rfl m [(f : Int)] a AB AQ AL AW (some ⟨b214_1, 0, none⟩) HA OA cB cQ cL cW 1 cH cO gB (RM.ext (Ext.trans (Ext.trans (Ext.trans (Ext.trans (Ext.trans (Ext.trans (Ext.trans (Ext.trans (Ext.trans (Ext.trans (Ext.trans (Ext.trans (Ext.trans E3 E4) E5) E6) E7) E8) E_k) E_q) G8) E_uu) E_f) E12) E_sh) GB)) (row_of_block (enc := intC) (m := 1) (l := [(f : Int)]) (fun _ _ => rfl) PB) (RH.ext (Ext.trans (Ext.trans (Ext.trans (Ext.trans (Ext.trans (Ext.trans (Ext.trans (Ext.trans (Ext.trans (Ext.trans (Ext.trans E5 E6) E7) E8) E_k) E_q) G8) E_uu) E_f) E12) E_sh) GB)) (by omega) (show 1 < 2 ^ 19 by decide) (by omega) (by omega)
                have hbl : brokenL m [(f : Int)] a = listN (soundsB m (pickL m [(f : Int)]) a) 6 := if_pos hbe
                rw [hbe, hbl] at HB
                refine op_fn (caps := []) (vs := [.agg _, .slice _ _ _, .agg _]) rfl rfl rfl (HB) ?_
                rintro _ h13 E13 ⟨_, rfl, A13, c13, rfl, R13⟩
                refine op_pure (pv_move (v := .tuple #[.slice _ _ _, .int .i64 _]) rfl) ?_
                refine op_pure (pv_of (v := .slice _ _ _) rfl) ?_
                refine op_pure (pv_of (v := .int .i64 _) rfl) ?_
                refine op_pure (pv_assign (v := .slice _ _ _) rfl) ?_
                refine op_pure (pv_assign (v := .int .i64 _) rfl) ?_
                refine xp_seq ?_
                refine xp_region rfl ?_
                refine op_pure (pv_move (v := .slice _ _ _) rfl) ?_
                refine op_pure (pv_fieldAddr rfl rfl rfl rfl 4 rfl) ?_
                refine op_loadP 2 (v := .slice _ _ _) rfl rfl rfl rfl ?_
                refine op_pure (pv_len rfl rfl) ?_
                have HN := opened_ok (listN (soundsB m (pickL m [(f : Int)]) a) 6) (by have := listN_len (soundsB m (pickL m [(f : Int)]) a) 6; omega) (s.rows.length : Int) A13 c13 h13 (R13.ext (Ext.refl _))
                rw [← hnow] at HN
                refine op_fn (caps := []) (vs := [.slice _ _ _, .int .i64 _]) rfl rfl rfl (HN) ?_
                rintro _ h14 E14 ⟨A14, c14, rfl, R14⟩
                refine op_pure (pv_assign (v := .slice _ _ _) rfl) ?_
                refine xp_seq ?_
                refine xp_region rfl ?_
                refine op_loadPA 2 (vs := [.int .i64 _, .int .i64 _, .int .i64 _, .int .i64 _, .slice _ _ _]) rfl rfl rfl rfl rfl ?_
                refine op_pure (pv_move (v := .slice _ _ _) rfl) ?_
                refine op_fn (caps := []) (vs := [.agg _, .slice _ _ _]) rfl rfl rfl (Tremolo_ok s n SB now hnreg hnl SA A14 cS c14 h14 (RS.ext TS.mono (Ext.trans (Ext.trans (Ext.trans (Ext.trans (Ext.trans (Ext.trans (Ext.trans (Ext.trans (Ext.trans (Ext.trans (Ext.trans (Ext.trans (Ext.trans (Ext.trans E4 E5) E6) E7) E8) E_k) E_q) G8) E_uu) E_f) E12) E_sh) GB) E13) E14)) (R14.ext (Ext.refl _))) ?_
                rintro _ h15 E15 ⟨_, ks, rfl, ⟨A15, c15, rfl, R15⟩, hkl, hkv⟩
                have e13 : (!decide ((ks.length : Int) = (vs.length : Int))) = false := by rw [hkl, hvl]; simp
                refine op_pure (pv_move (v := .tuple #[.slice _ _ _, .int .i64 _]) rfl) ?_
                refine op_pure (pv_of (v := .slice _ _ _) rfl) ?_
                refine op_pure (pv_of (v := .int .i64 _) rfl) ?_
                refine op_pure (pv_assign (v := .slice _ _ _) rfl) ?_
                refine op_pure (pv_assign (v := .int .i64 _) rfl) ?_
                refine xp_seq ?_
                refine xp_seq ?_
                refine xp_region rfl ?_
                refine op_pure (pv_move (v := .int .i64 _) rfl) ?_
                refine op_pure (pv_of (v := .bool _) rfl) ?_
                refine op_pure (pv_move (v := .bool _) rfl) ?_
                have e26 : (!decide ((now.length : Int) = (rows.length : Int) + 1)) = false := by rw [hlen]; simp
                refine guard_yes rfl rfl ?_
                refine op_pure (pv_move (v := .int .i64 _) rfl) ?_
                refine guard_yes rfl rfl ?_
                refine op_pure (pv_of (v := .bool _) rfl) ?_
                refine op_pure (pv_pickF rfl rfl (v := .bool _) rfl) ?_
                refine op_pure (pv_move (v := .bool _) rfl) ?_
                refine guard_yes rfl rfl ?_
                refine op_pure (pv_move (v := .slice _ _ _) rfl) ?_
                refine guard_yes rfl rfl ?_
                refine op_pure (pv_len rfl rfl) ?_
                refine guard_yes rfl rfl ?_
                refine op_pure (pv_move (v := .slice _ _ _) rfl) ?_
                refine guard_yes rfl rfl ?_
                refine op_pure (pv_len rfl rfl) ?_
                refine guard_yes rfl rfl ?_
                refine op_pure (pv_of (v := .bool _) rfl) ?_
                refine op_pure (pv_pickF rfl rfl (v := .bool _) rfl) ?_
                refine op_pure (pv_move (v := .bool _) rfl) ?_
                refine guard_yes rfl e13 ?_
                refine op_pure (pv_move (v := .bool _) rfl) ?_
                refine guard_yes rfl e13 ?_
                refine op_pure (pv_move (v := .bool _) rfl) ?_
                refine guard_no rfl rfl ?_
                refine guard_no rfl rfl ?_
                refine guard_no rfl rfl ?_
                refine guard_no rfl rfl ?_
                refine guard_no rfl rfl ?_
                refine guard_no rfl rfl ?_
                refine guard_yes rfl e13 ?_
                refine op_pure (pv_pickF rfl rfl (v := .bool _) rfl) ?_
                refine op_pure (pv_pickF rfl e13 (v := .bool _) rfl) ?_
                refine op_pure (pv_move (v := .bool _) rfl) ?_
                refine guard_yes rfl rfl ?_
                refine op_pure (pv_move (v := .bool _) rfl) ?_
                refine guard_yes rfl rfl ?_
                refine op_pure (pv_move (v := .bool _) rfl) ?_
                refine guard_yes rfl rfl ?_
                refine op_pure (pv_move (v := .slice _ _ _) rfl) ?_
                refine guard_yes rfl rfl ?_
                refine op_pure (pv_len rfl rfl) ?_
                refine guard_yes rfl rfl ?_
                refine op_pure (pv_move (v := .slice _ _ _) rfl) ?_
                refine guard_yes rfl rfl ?_
                refine op_pure (pv_len rfl rfl) ?_
                refine guard_yes rfl rfl ?_
                refine op_pure (pv_arith rfl (by omega)) ?_
                refine guard_yes rfl rfl ?_
                refine op_pure (pv_of (v := .bool _) rfl) ?_
                refine guard_yes rfl rfl ?_
                refine op_pure (pv_pickT rfl rfl (v := .bool _) rfl) ?_
                refine op_pure (pv_pickF rfl rfl (v := .bool _) rfl) ?_
                refine xp_condF rfl (e26) ?_
                refine xp_skip ?_
                refine xp_seq ?_
                refine xp_region rfl ?_
                refine op_pure (pv_assign (v := .int .i64 _) rfl) ?_
                refine xp_block ?_
                refine xp_loopB [2, 28, 265, 266, 267, 268, 269, 270, 271, 272, 273, 274, 275, 276, 277, 278, 279, 280, 281, 282, 283, 284, 285, 286, 287, 288, 289, 290, 291, 292, 293, 294, 295, 296, 297, 298, 299, 300, 301, 302] 6 (α := Nat) (fun qq => [(28, .int .i64 qq)]) (fun qq => _) (fun qq h_qq => qq ≤ vs.length) (fun qq => vs.length - qq) (0) ⟨rfl, trivial⟩ (rfl) (Nat.zero_le _) ?_
                rintro qq T9 h_qq E_qq J_qq
                refine goes_norm [_, _, _, _, _, _] rfl ?_
                refine xp_seq ?_
                refine xp_seq ?_
                refine xp_region rfl ?_
                refine op_pure (pv_move (v := .int .i64 _) rfl) ?_
                refine op_pure (pv_move (v := .slice _ _ _) rfl) ?_
                refine op_pure (pv_len rfl rfl) ?_
                refine op_pure (pv_of (v := .bool _) rfl) ?_
                refine xp_cond rfl (fun hq => ?_) (fun hq => ?_)
                · skip
                  have hqv : qq < vs.length := ltI hq
                  have hqk : qq < ks.length := by omega
                  have V1 := hvv qq (by omega)
                  have V2 := hkv qq (by omega)
                  rw [List.getD_eq_getElem?_getD, List.getElem?_eq_getElem hqv, Option.getD_some] at V1
                  rw [List.getD_eq_getElem?_getD, List.getElem?_eq_getElem hqk, Option.getD_some] at V2
                  obtain ⟨g7, o7, hA7, hc7⟩ := (R7.ext (Ext.trans (Ext.trans (Ext.trans (Ext.trans (Ext.trans (Ext.trans (Ext.trans (Ext.trans (Ext.trans (Ext.trans (Ext.trans (Ext.trans E8 E_k) E_q) G8) E_uu) E_f) E12) E_sh) GB) E13) E14) E15) E_qq)).at (by omega) hqv
                  obtain ⟨g8, o8, hA8, hc8⟩ := (R15.ext E_qq).at (by omega) hqk
                  have himp : vs[qq] = 2 → ks[qq] = 2 := by
                    intro h1
                    rcases hrel with h | h
                    · rw [h] at V2; exact two_cons V1 V2 h1
                    · rw [h] at V2; unfold voicesM at V2; rw [List.map_append] at V2; exact two_snoc V1 V2 h1
                  by_cases h1 : vs[qq] = 2
                  · skip
                    have gv : (vs[qq] == 2) = true := by rw [h1]; rfl
                    have gk : (!decide (ks[qq] = 2)) = false := by rw [himp h1]; rfl
                    refine xp_skip ?_
                    refine xp_seq ?_
                    refine xp_block ?_
                    refine xp_seq ?_
                    refine xp_region rfl ?_
                    refine op_pure (pv_move (v := .bool _) rfl) ?_
                    refine op_pure (pv_move (v := .bool _) rfl) ?_
                    refine guard_no rfl rfl ?_
                    refine guard_no rfl rfl ?_
                    refine guard_no rfl rfl ?_
                    refine guard_no rfl rfl ?_
                    refine guard_no rfl rfl ?_
                    refine op_pure (pv_pickF rfl rfl (v := .bool _) rfl) ?_
                    refine op_pure (pv_move (v := .bool _) rfl) ?_
                    refine guard_no rfl rfl ?_
                    refine guard_no rfl rfl ?_
                    refine guard_no rfl rfl ?_
                    refine guard_no rfl rfl ?_
                    refine guard_no rfl rfl ?_
                    refine op_pure (pv_pickF rfl rfl (v := .bool _) rfl) ?_
                    refine op_pure (pv_move (v := .bool _) rfl) ?_
                    refine guard_yes rfl rfl ?_
                    refine op_pure (pv_move (v := .bool _) rfl) ?_
                    refine guard_yes rfl rfl ?_
                    refine op_pure (pv_move (v := .bool _) rfl) ?_
                    refine guard_yes rfl rfl ?_
                    refine op_pure (pv_move (v := .slice _ _ _) rfl) ?_
                    refine guard_yes rfl rfl ?_
                    refine op_pure (pv_move (v := .int .i64 _) rfl) ?_
                    refine guard_yes rfl rfl ?_
                    refine op_pure (pv_indexE rfl hA7 rfl rfl rfl (by omega) (by omega)) ?_
                    refine guard_yes rfl rfl ?_
                    refine op_load (v := .int .i64 _) rfl rfl ((hc7) 0 _ rfl) ?_
                    refine guard_yes rfl rfl ?_
                    refine op_pure (pv_of (v := .bool _) rfl) ?_
                    refine guard_yes rfl rfl ?_
                    refine op_pure (pv_pickT rfl rfl (v := .bool _) rfl) ?_
                    refine guard_yes rfl rfl ?_
                    refine op_pure (pv_move (v := .bool _) rfl) ?_
                    refine guard_yes rfl gv ?_
                    refine op_pure (pv_move (v := .slice _ _ _) rfl) ?_
                    refine guard_yes rfl gv ?_
                    refine op_pure (pv_move (v := .int .i64 _) rfl) ?_
                    refine guard_yes rfl gv ?_
                    refine op_pure (pv_indexE rfl hA8 rfl rfl rfl (by omega) (by omega)) ?_
                    refine guard_yes rfl gv ?_
                    refine op_load (v := .int .i64 _) rfl rfl ((hc8) 0 _ rfl) ?_
                    refine guard_yes rfl gv ?_
                    refine op_pure (pv_of (v := .bool _) rfl) ?_
                    refine guard_yes rfl rfl ?_
                    refine op_pure (pv_pickT rfl gv (v := .bool _) rfl) ?_
                    refine op_pure (pv_pickF rfl rfl (v := .bool _) rfl) ?_
                    refine xp_condF rfl (gk) ?_
                    refine xp_skip ?_
                    refine xp_region rfl ?_
                    refine op_pure (pv_move (v := .int .i64 _) rfl) ?_
                    refine op_pure (pv_arith rfl (by omega)) ?_
                    refine op_pure (pv_assign (v := .int .i64 _) rfl) ?_
                    refine ⟨qq + 1, ⟨rfl, trivial⟩, rfl, rfl, E_qq, fun h3 E3 => hqv, by first | omega | (dsimp only; omega), ?_⟩
                    repeat (first | exact off_base _ _ _ | refine off_upd (by decide) ?_ | refine off_updL rfl ?_ | refine off_mix rfl ?_)
                  · skip
                    have gv : (vs[qq] == 2) = false := beq_eq_false_iff_ne.2 h1
                    refine xp_skip ?_
                    refine xp_seq ?_
                    refine xp_block ?_
                    refine xp_seq ?_
                    refine xp_region rfl ?_
                    refine op_pure (pv_move (v := .bool _) rfl) ?_
                    refine op_pure (pv_move (v := .bool _) rfl) ?_
                    refine guard_no rfl rfl ?_
                    refine guard_no rfl rfl ?_
                    refine guard_no rfl rfl ?_
                    refine guard_no rfl rfl ?_
                    refine guard_no rfl rfl ?_
                    refine op_pure (pv_pickF rfl rfl (v := .bool _) rfl) ?_
                    refine op_pure (pv_move (v := .bool _) rfl) ?_
                    refine guard_no rfl rfl ?_
                    refine guard_no rfl rfl ?_
                    refine guard_no rfl rfl ?_
                    refine guard_no rfl rfl ?_
                    refine guard_no rfl rfl ?_
                    refine op_pure (pv_pickF rfl rfl (v := .bool _) rfl) ?_
                    refine op_pure (pv_move (v := .bool _) rfl) ?_
                    refine guard_yes rfl rfl ?_
                    refine op_pure (pv_move (v := .bool _) rfl) ?_
                    refine guard_yes rfl rfl ?_
                    refine op_pure (pv_move (v := .bool _) rfl) ?_
                    refine guard_yes rfl rfl ?_
                    refine op_pure (pv_move (v := .slice _ _ _) rfl) ?_
                    refine guard_yes rfl rfl ?_
                    refine op_pure (pv_move (v := .int .i64 _) rfl) ?_
                    refine guard_yes rfl rfl ?_
                    refine op_pure (pv_indexE rfl hA7 rfl rfl rfl (by omega) (by omega)) ?_
                    refine guard_yes rfl rfl ?_
                    refine op_load (v := .int .i64 _) rfl rfl ((hc7) 0 _ rfl) ?_
                    refine guard_yes rfl rfl ?_
                    refine op_pure (pv_of (v := .bool _) rfl) ?_
                    refine guard_yes rfl rfl ?_
                    refine op_pure (pv_pickT rfl rfl (v := .bool _) rfl) ?_
                    refine guard_yes rfl rfl ?_
                    refine op_pure (pv_move (v := .bool _) rfl) ?_
                    refine guard_no rfl gv ?_
                    refine guard_no rfl gv ?_
                    refine guard_no rfl gv ?_
                    refine guard_no rfl gv ?_
                    refine guard_no rfl gv ?_
                    refine guard_yes rfl rfl ?_
                    refine op_pure (pv_pickF rfl gv (v := .bool _) rfl) ?_
                    refine op_pure (pv_pickF rfl rfl (v := .bool _) rfl) ?_
                    refine xp_condF rfl (rfl) ?_
                    refine xp_skip ?_
                    refine xp_region rfl ?_
                    refine op_pure (pv_move (v := .int .i64 _) rfl) ?_
                    refine op_pure (pv_arith rfl (by omega)) ?_
                    refine op_pure (pv_assign (v := .int .i64 _) rfl) ?_
                    refine ⟨qq + 1, ⟨rfl, trivial⟩, rfl, rfl, E_qq, fun h3 E3 => hqv, by first | omega | (dsimp only; omega), ?_⟩
                    repeat (first | exact off_base _ _ _ | refine off_upd (by decide) ?_ | refine off_updL rfl ?_ | refine off_mix rfl ?_)
                · skip
                  refine xp_exit ?_
                  refine xp_region rfl ?_
                  refine op_pure (pv_move (v := .int .i64 _) rfl) ?_
                  refine op_pure (pv_arith rfl (by omega)) ?_
                  refine op_pure (pv_assign (v := .int .i64 _) rfl) ?_
                  refine ⟨f + 1, ⟨rfl, trivial⟩, rfl, rfl, (Ext.trans (Ext.trans (Ext.trans (Ext.trans (Ext.trans (Ext.trans (Ext.trans E_f E12) E_sh) GB) E13) E14) E15) E_qq), fun h3 E3 => by push_cast; omega, by first | omega | (dsimp only; omega), ?_⟩
                  repeat (first | exact off_base _ _ _ | refine off_upd (by decide) ?_ | refine off_updL rfl ?_ | refine off_mix rfl ?_)
              | false =>
                refine xp_seq ?_
                refine xp_seq ?_
                refine xp_region rfl ?_
                refine op_pure (pv_move (v := .bool _) rfl) ?_
                refine op_pure (pv_of (v := .bool _) rfl) ?_
                refine op_pure (pv_move (v := .bool _) rfl) ?_
                refine guard_yes rfl rfl ?_
                refine op_pure (pv_move (v := .bool _) rfl) ?_
                refine guard_yes rfl rfl ?_
                refine op_pure (pv_of (v := .bool _) rfl) ?_
                refine op_pure (pv_pickT rfl rfl (v := .bool _) rfl) ?_
                refine xp_condT rfl (rfl) ?_
                refine xp_exit ?_
                refine xp_region rfl ?_
                refine op_pure (pv_move (v := .int .i64 _) rfl) ?_
                refine op_pure (pv_arith rfl (by omega)) ?_
                refine op_pure (pv_assign (v := .int .i64 _) rfl) ?_
                refine ⟨f + 1, ⟨rfl, trivial⟩, rfl, rfl, (Ext.trans (Ext.trans E_f E12) E_sh), fun h3 E3 => by push_cast; omega, by first | omega | (dsimp only; omega), ?_⟩
                repeat (first | exact off_base _ _ _ | refine off_upd (by decide) ?_ | refine off_updL rfl ?_ | refine off_mix rfl ?_)
        · skip
          have HR := SoundsR_ok m M a AB AQ AL AW HA OA cB cQ cL cW cH cO h_f (RM.ext (Ext.trans (Ext.trans (Ext.trans (Ext.trans (Ext.trans (Ext.trans (Ext.trans (Ext.trans (Ext.trans (Ext.trans E3 E4) E5) E6) E7) E8) E_k) E_q) G8) E_uu) E_f)) (RH.ext (Ext.trans (Ext.trans (Ext.trans (Ext.trans (Ext.trans (Ext.trans (Ext.trans (Ext.trans E5 E6) E7) E8) E_k) E_q) G8) E_uu) E_f)) (by omega) (by omega)
          rw [hc0] at HR
          refine xp_exit ?_
          refine xp_seq ?_
          refine xp_region rfl ?_
          refine op_loadPA 1 (vs := [.int .i64 _, .int .i64 _, .int .i64 _, .int .i64 _, .int .i64 _, .slice _ _ _, .slice _ _ _, .slice _ _ _, .slice _ _ _]) rfl rfl rfl rfl rfl ?_
          refine op_loadPA 3 (vs := [.slice _ _ _, .slice _ _ _]) rfl rfl rfl rfl rfl ?_
          refine op_fn (caps := []) (vs := [.agg _, .agg _]) rfl rfl rfl (HR) ?_
          rintro _ h20 E20 ⟨_, rfl, A20, c20, rfl, R20⟩
          refine op_pure (pv_move (v := .tuple #[.slice _ _ _, .int .i64 _]) rfl) ?_
          refine op_pure (pv_of (v := .slice _ _ _) rfl) ?_
          refine op_pure (pv_of (v := .int .i64 _) rfl) ?_
          refine op_pure (pv_assign (v := .slice _ _ _) rfl) ?_
          refine op_pure (pv_assign (v := .int .i64 _) rfl) ?_
          refine xp_seq ?_
          refine xp_region rfl ?_
          refine op_pure (pv_move (v := .int .i64 _) rfl) ?_
          refine op_pure (pv_of (v := .bool _) rfl) ?_
          refine op_pure (pv_move (v := .bool _) rfl) ?_
          refine guard_yes rfl rfl ?_
          refine op_pure (pv_move (v := .slice _ _ _) rfl) ?_
          refine guard_yes rfl rfl ?_
          refine op_pure (pv_move (v := .slice _ _ _) rfl) ?_
          refine guard_yes rfl rfl ?_
          refine op_fn (caps := []) (vs := [.slice _ _ _, .slice _ _ _]) rfl rfl rfl (sameInts_ok (soundsL m a) (soundsL m a) A5 A20 c5 c20 h20 (R5.ext (Ext.trans (Ext.trans (Ext.trans (Ext.trans (Ext.trans (Ext.trans (Ext.trans (Ext.trans E6 E7) E8) E_k) E_q) G8) E_uu) E_f) E20)) R20 (by omega)) ?_
          rintro _ h21 E21 hsi2
          rw [decide_eq_true (rfl : soundsL m a = soundsL m a)] at hsi2
          subst hsi2
          refine op_pure (pv_pickT rfl rfl (v := .bool _) rfl) ?_
          refine op_pure (pv_move (v := .bool _) rfl) ?_
          refine guard_yes rfl rfl ?_
          refine op_fn (caps := []) (vs := []) rfl rfl rfl (voicesAwake_ok rfl h21) ?_
          rintro _ h22 E22 rfl
          refine op_pure (pv_pickT rfl rfl (v := .bool _) rfl) ?_
          refine op_pure (pv_assign (v := .bool _) rfl) ?_
          refine xp_ret ?_
          exact ⟨rfl, fun V => (Ext.trans (Ext.trans (Ext.trans (Ext.trans (Ext.trans (Ext.trans (Ext.trans (Ext.trans (Ext.trans (Ext.trans (Ext.trans (Ext.trans (Ext.trans (Ext.trans (Ext.trans (Ext.trans E1 E2) E3) E4) E5) E6) E7) E8) E_k) E_q) G8) E_uu) E_f) E20) E21) E22) (ext_wl V)), rfl⟩
end
end Go.Proofs.Ytlfbcimcehcomaa
