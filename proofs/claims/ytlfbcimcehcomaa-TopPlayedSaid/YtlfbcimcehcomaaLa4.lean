/- An own logic over the model, its walks and its plain laws, joined of parts K14 R5 R6 R7 R8 R9 GK GL GM GN GO R10 R11 R12 R13 R14 BB R15 R16 R17 R18 CC GP R19 Rm Rn Ro R20 R21 U Uc Rp GS R23 R29 R30 R31 Rq R32 R25 R26 R33 R34 Rs R35 R36 R37 R38 GV GT. Conditions: as each theorem states. -/
import Derived.Test.YtlfbcimcehcomaaLa3
import Derived.Test.YtlfbcimcehcomaaLa2
import Derived.Test.YtlfbcimcehcomaaLa1
import Derived.Conc.LeavingOf
set_option linter.all false
/- Walks of package bellow: Plays, Levels of a bellows without corners. Conditions: as each theorem states. -/
namespace Go.Proofs.Ytlfbcimcehcomaa
open Go Go.HL Go.Proofs Go.Wx Go.Rd Go.Bw
section
variable [Lvl]
set_option maxRecDepth 100000
theorem row_rnil (h : AH) (A : Option Addr) : Row h 2 rgC A ([] : List Rg) := ⟨fun _ hx => absurd hx List.not_mem_nil, Rd.nil _ _⟩
theorem row_ii {h : AH} {b : Nat} {z y : Int} {e : TypeId} (hb : h b = some (.cells #[.int .i64 z, .int .i64 y] e (0, 0))) : Row h 1 intC (some ⟨b, 0, none⟩) [z, y] := row_of_block (enc := intC) (l := [z, y]) (fun _ _ => rfl) hb
set_option maxHeartbeats 4000000 in
theorem Plays_ok (hph : Lvl.ph = true) (full air : Int) (h0 : 0 ≤ air ∧ air ≤ full) (hf : 1 ≤ full ∧ full ≤ 200) (ns : List NoteP) (hn : ∀ n ∈ ns, NoteB n) (hl : ns.length ≤ 6) (ws : List Int) (W : WaysB ns ws) (A TA PA WA : Option Addr) (cA tA cP cW : Nat) (h : AH) (R : Row h 4 noteC PA ns) (RW : Row h 1 intC WA ws) :
    FnT Try.prog 24 #[belV A TA cA tA ⟨full, ⟨air, air⟩, []⟩, .slice PA ns.length cP, .slice WA ws.length cW] h (fun v _ => v = .tuple #[.int .i64 (if fineK full air ns ws ns.length then 1 else 2), .int .i64 0]) := by
  unfold belV
  refine call_body Try.func24 rfl Try.ntmps24 rfl ?_
  refine xp_seq ?_
  refine xp_region rfl ?_
  refine op_box (v := .agg #[.int .i64 _, .int .i64 _, .int .i64 _, .slice _ _ _, .slice _ _ _]) (cs := [_, _, _, _, _]) rfl rfl fun b3 hb3 => ?_
  refine wp_norm [_] rfl ?_
  refine op_pure (pv_assign (v := .int .i64 _) rfl) ?_
  refine op_pure (pv_assign (v := .int .i64 _) rfl) ?_
  refine xp_seq ?_
  refine xp_dw [] rfl rfl rfl ?_
  refine dw_load (i := 0) rfl (by decide +kernel) ?_
  refine op_loadPA 0 (vs := [.int .i64 _, .int .i64 _, .int .i64 _, .slice _ _ _, .slice _ _ _]) rfl rfl rfl rfl rfl ?_
  refine dw_pure (i := 1) rfl (by decide +kernel) (pv_move (v := .slice _ _ _) rfl) ?_
  refine dw_pure (i := 3) rfl (by decide +kernel) (pv_move (v := .slice _ _ _) rfl) ?_
  refine dw_pure (i := 4) rfl (by decide +kernel) (pv_move (v := .slice _ _ _) rfl) ?_
  refine dw_eff (i := 2) rfl (by decide +kernel) ?_
  refine op_fn (caps := []) (vs := [.slice _ _ _]) rfl rfl rfl (piece_ok ns hn hl PA cP h (R.ext (Ext.refl _))) ?_
  rintro _ f1 F1 rfl
  refine ⟨ext_wlm F1 _, ?_⟩
  refine dw_eff (i := 5) rfl (by decide +kernel) ?_
  refine op_fn (caps := []) (vs := [.slice _ _ _, .slice _ _ _]) rfl rfl rfl (ways_ok ns ws W hl PA WA cP cW f1 (R.ext F1) (RW.ext F1)) ?_
  rintro _ f2 F2 rfl
  refine ⟨ext_wlm F2 _, ?_⟩
  refine dw_eff (i := 6) rfl (by decide +kernel) ?_
  refine op_buildSlice (zc := [_]) (vs := [(0, .int .i64 _), (1, .int .i64 _)]) (cs := [_, _]) rfl rfl rfl rfl rfl rfl rfl fun b18 hb18 => ?_
  refine ⟨ext_new hb18 _, ?_⟩
  refine dw_norm [_, _] rfl ?_
  refine dw_pub 1 rfl ?_
  intro h3 E3 p3
  refine dw_norm [_, _] rfl ?_
  refine dw_last (i := 7) rfl (by decide +kernel) (by decide +kernel) ?_
  refine op_fn (caps := []) (vs := [.agg #[.int .i64 _, .int .i64 _, .int .i64 _, .slice _ _ _, .slice _ _ _], .slice _ _ _]) rfl rfl rfl (known_okB hph ⟨full, ⟨air, air⟩, []⟩ (emptyB h0 hf) A TA cA tA [0, 0] (by simp) (by decide) (some ⟨b18, 0, none⟩) 2 h3 (row_rnil _ _) (row_ii p3)) ?_
  rintro _ f4 F4 ⟨LA, cL, rfl, RL⟩
  refine dw_pure (i := 8) rfl (by decide +kernel) (pv_move (v := .tuple #[.slice _ _ _, .int .i64 _]) rfl) ?_
  refine dw_pure (i := 9) rfl (by decide +kernel) (pv_of (v := .slice _ _ _) rfl) ?_
  refine dw_pure (i := 10) rfl (by decide +kernel) (pv_of (v := .int .i64 _) rfl) ?_
  refine dw_pure (i := 11) rfl (by decide +kernel) (pv_assign (v := .slice _ _ _) rfl) ?_
  refine dw_pure (i := 12) rfl (by decide +kernel) (pv_assign (v := .int .i64 _) rfl) ?_
  refine dw_end rfl ?_
  refine xp_seq ?_
  refine xp_seq ?_
  refine xp_region rfl ?_
  refine op_pure (pv_move (v := .int .i64 _) rfl) ?_
  refine op_pure (pv_of (v := .bool _) rfl) ?_
  refine xp_condF rfl (rfl) ?_
  refine xp_skip ?_
  refine xp_seq ?_
  refine xp_region rfl ?_
  refine op_loadPA 0 (vs := [.int .i64 _, .int .i64 _, .int .i64 _, .slice _ _ _, .slice _ _ _]) rfl rfl rfl rfl rfl ?_
  refine op_pure (pv_move (v := .slice _ _ _) rfl) ?_
  refine op_pure (pv_move (v := .slice _ _ _) rfl) ?_
  refine op_fn (caps := []) (vs := [.agg #[.int .i64 _, .int .i64 _, .int .i64 _, .slice _ _ _, .slice _ _ _], .slice _ _ _, .slice _ _ _, .slice _ _ _]) rfl rfl rfl (playedBy_ok full air h0 hf A TA PA LA cA tA ns.length cP cL f4 (RL.ext (Ext.refl _))) ?_
  rintro _ f5 F5 ⟨QA, cQ, rfl, RQ⟩
  refine op_pure (pv_assign (v := .slice _ _ _) rfl) ?_
  refine xp_seq ?_
  refine xp_block ?_
  refine xp_seq ?_
  refine xp_region rfl ?_
  refine op_pure (pv_move (v := .slice _ _ _) rfl) ?_
  refine op_pure (pv_move (v := .slice _ _ _) rfl) ?_
  refine op_fn (caps := []) (vs := [.slice _ _ _, .slice _ _ _]) rfl rfl rfl (always_ok full air h0 hf.2 ns hn hl ws W A TA PA WA QA cA tA cP cW cQ f5 (R.ext (Ext.trans (Ext.trans (Ext.trans (Ext.trans F1 F2) E3) F4) F5)) (RW.ext (Ext.trans (Ext.trans (Ext.trans (Ext.trans F1 F2) E3) F4) F5)) (RQ.ext (Ext.refl _))) ?_
  rintro _ f6 F6 rfl
  refine op_pure (pv_assign (v := .bool _) rfl) ?_
  cases hfi : fineK full air ns ws ns.length with
  | true =>
    refine xp_condT rfl (rfl) ?_
    refine xp_seq ?_
    refine xp_region rfl ?_
    refine op_pure (pv_assign (v := .int .i64 _) rfl) ?_
    refine op_pure (pv_assign (v := .int .i64 _) rfl) ?_
    refine xp_ret ?_
    refine res_list (vs := [_, _]) Try.results24 ⟨resV_tmp rfl rfl, resV_tmp rfl rfl, trivial⟩ fun V => ?_
    exact ⟨(Ext.trans (Ext.trans (Ext.trans (Ext.trans (Ext.trans (Ext.trans F1 F2) E3) F4) F5) F6) (ext_wl V)), rfl⟩
  | false =>
    refine xp_condF rfl (rfl) ?_
    refine xp_seq ?_
    refine xp_region rfl ?_
    refine op_pure (pv_move (v := .slice _ _ _) rfl) ?_
    refine op_pure (pv_move (v := .slice _ _ _) rfl) ?_
    refine op_fn (caps := []) (vs := [.slice _ _ _, .slice _ _ _]) rfl rfl rfl (maybe_ok full air h0 hf.2 ns hn hl ws W A TA PA WA QA cA tA cP cW cQ f6 (R.ext (Ext.trans (Ext.trans (Ext.trans (Ext.trans (Ext.trans F1 F2) E3) F4) F5) F6)) (RW.ext (Ext.trans (Ext.trans (Ext.trans (Ext.trans (Ext.trans F1 F2) E3) F4) F5) F6)) (RQ.ext F6)) ?_
    rintro _ f7 F7 rfl
    refine op_pure (pv_assign (v := .bool _) rfl) ?_
    refine xp_condF rfl (hfi) ?_
    refine xp_skip ?_
    refine xp_seq ?_
    refine xp_region rfl ?_
    refine op_pure (pv_assign (v := .int .i64 _) rfl) ?_
    refine op_pure (pv_assign (v := .int .i64 _) rfl) ?_
    refine xp_ret ?_
    refine res_list (vs := [_, _]) Try.results24 ⟨resV_tmp rfl rfl, resV_tmp rfl rfl, trivial⟩ fun V => ?_
    exact ⟨(Ext.trans (Ext.trans (Ext.trans (Ext.trans (Ext.trans (Ext.trans (Ext.trans F1 F2) E3) F4) F5) F6) F7) (ext_wl V)), rfl⟩
theorem midAt (l : List Rg) (r : Rg) (junk : List Value) {k : Nat} (hk : l.length = k) : (l.flatMap rgC ++ rgC r ++ junk).toArray[0 + k * 2 + 0]? = some (.int .i64 r.mn) ∧ (l.flatMap rgC ++ rgC r ++ junk).toArray[0 + k * 2 + 1]? = some (.int .i64 r.mx) := by
  have e : (l.flatMap rgC).length = k * 2 := by rw [flat_len (m := 2) (fun _ _ => rfl), hk]
  constructor
  · rw [List.getElem?_toArray, List.append_assoc, List.getElem?_append_right (by omega), show 0 + k * 2 + 0 - (l.flatMap rgC).length = 0 by omega]; rfl
  · rw [List.getElem?_toArray, List.append_assoc, List.getElem?_append_right (by omega), show 0 + k * 2 + 1 - (l.flatMap rgC).length = 1 by omega]; rfl
theorem midWr {c : List Value} {o : Nat} {x y : Value} (hx : c.toArray[o + 0]? = some x) (hy : c.toArray[o + 1]? = some y) : wrL c o [x, y] = c := by
  rw [List.getElem?_toArray] at hx hy
  show (c.set o x).set (o + 1) y = c
  have e1 : c.set o x = c := by
    obtain ⟨h, e⟩ := List.getElem?_eq_some_iff.1 hx
    rw [← e]; exact List.set_getElem_self _
  rw [e1]
  obtain ⟨h, e⟩ := List.getElem?_eq_some_iff.1 hy
  rw [← e]; exact List.set_getElem_self _
set_option maxHeartbeats 4000000 in
theorem Levels_ok (hph : Lvl.ph = true) (full air : Int) (h0 : 0 ≤ air ∧ air ≤ full) (hf : 1 ≤ full ∧ full ≤ 200) (ns : List NoteP) (hn : ∀ n ∈ ns, NoteB n) (hl : ns.length ≤ 6) (ws : List Int) (W : WaysB ns ws) (A TA PA WA : Option Addr) (cA tA cP cW : Nat) (h : AH) (R : Row h 4 noteC PA ns) (RW : Row h 1 intC WA ws) :
    FnT Try.prog 23 #[belV A TA cA tA ⟨full, ⟨air, air⟩, []⟩, .slice PA ns.length cP, .slice WA ws.length cW] h (fun v h' => ∃ u, v = .tuple #[u, .int .i64 0] ∧ SlR h' 2 rgC (lvls air ns ws ns.length) u) := by
  unfold belV
  refine call_body Try.func23 rfl Try.ntmps23 rfl ?_
  refine xp_seq ?_
  refine xp_region rfl ?_
  refine op_box (v := .agg #[.int .i64 _, .int .i64 _, .int .i64 _, .slice _ _ _, .slice _ _ _]) (cs := [_, _, _, _, _]) rfl rfl fun b3 hb3 => ?_
  refine wp_norm [_] rfl ?_
  refine op_pure (pv_assign (v := .slice _ _ _) rfl) ?_
  refine op_pure (pv_assign (v := .int .i64 _) rfl) ?_
  refine xp_seq ?_
  refine xp_dw [] rfl rfl rfl ?_
  refine dw_load (i := 0) rfl (by decide +kernel) ?_
  refine op_loadPA 0 (vs := [.int .i64 _, .int .i64 _, .int .i64 _, .slice _ _ _, .slice _ _ _]) rfl rfl rfl rfl rfl ?_
  refine dw_pure (i := 1) rfl (by decide +kernel) (pv_move (v := .slice _ _ _) rfl) ?_
  refine dw_pure (i := 3) rfl (by decide +kernel) (pv_move (v := .slice _ _ _) rfl) ?_
  refine dw_pure (i := 4) rfl (by decide +kernel) (pv_move (v := .slice _ _ _) rfl) ?_
  refine dw_eff (i := 2) rfl (by decide +kernel) ?_
  refine op_fn (caps := []) (vs := [.slice _ _ _]) rfl rfl rfl (piece_ok ns hn hl PA cP h (R.ext (Ext.refl _))) ?_
  rintro _ f1 F1 rfl
  refine ⟨ext_wlm F1 _, ?_⟩
  refine dw_eff (i := 5) rfl (by decide +kernel) ?_
  refine op_fn (caps := []) (vs := [.slice _ _ _, .slice _ _ _]) rfl rfl rfl (ways_ok ns ws W hl PA WA cP cW f1 (R.ext F1) (RW.ext F1)) ?_
  rintro _ f2 F2 rfl
  refine ⟨ext_wlm F2 _, ?_⟩
  refine dw_eff (i := 6) rfl (by decide +kernel) ?_
  refine op_buildSlice (zc := [_]) (vs := [(0, .int .i64 _), (1, .int .i64 _)]) (cs := [_, _]) rfl rfl rfl rfl rfl rfl rfl fun b22 hb22 => ?_
  refine ⟨ext_new hb22 _, ?_⟩
  refine dw_norm [_, _] rfl ?_
  refine dw_pub 1 rfl ?_
  intro h3 E3 p3
  refine dw_norm [_, _] rfl ?_
  refine dw_last (i := 7) rfl (by decide +kernel) (by decide +kernel) ?_
  refine op_fn (caps := []) (vs := [.agg #[.int .i64 _, .int .i64 _, .int .i64 _, .slice _ _ _, .slice _ _ _], .slice _ _ _]) rfl rfl rfl (known_okB hph ⟨full, ⟨air, air⟩, []⟩ (emptyB h0 hf) A TA cA tA [0, 0] (by simp) (by decide) (some ⟨b22, 0, none⟩) 2 h3 (row_rnil _ _) (row_ii p3)) ?_
  rintro _ f4 F4 ⟨LA, cL, rfl, RL⟩
  refine dw_pure (i := 8) rfl (by decide +kernel) (pv_move (v := .tuple #[.slice _ _ _, .int .i64 _]) rfl) ?_
  refine dw_pure (i := 9) rfl (by decide +kernel) (pv_of (v := .slice _ _ _) rfl) ?_
  refine dw_pure (i := 10) rfl (by decide +kernel) (pv_of (v := .int .i64 _) rfl) ?_
  refine dw_pure (i := 11) rfl (by decide +kernel) (pv_assign (v := .slice _ _ _) rfl) ?_
  refine dw_pure (i := 12) rfl (by decide +kernel) (pv_assign (v := .int .i64 _) rfl) ?_
  refine dw_end rfl ?_
  refine xp_seq ?_
  refine xp_seq ?_
  refine xp_region rfl ?_
  refine op_pure (pv_move (v := .int .i64 _) rfl) ?_
  refine op_pure (pv_of (v := .bool _) rfl) ?_
  refine xp_condF rfl (rfl) ?_
  refine xp_skip ?_
  refine xp_seq ?_
  refine xp_region rfl ?_
  refine op_pure (pv_assign (v := .slice _ _ _) rfl) ?_
  refine xp_seq ?_
  refine xp_seq ?_
  refine xp_region rfl ?_
  refine op_loadPA 0 (vs := [.int .i64 _, .int .i64 _, .int .i64 _, .slice _ _ _, .slice _ _ _]) rfl rfl rfl rfl rfl ?_
  refine op_pure (pv_move (v := .slice _ _ _) rfl) ?_
  refine op_pure (pv_move (v := .slice _ _ _) rfl) ?_
  refine op_fn (caps := []) (vs := [.agg #[.int .i64 _, .int .i64 _, .int .i64 _, .slice _ _ _, .slice _ _ _], .slice _ _ _, .slice _ _ _, .slice _ _ _]) rfl rfl rfl (playedBy_ok full air h0 hf A TA PA LA cA tA ns.length cP cL f4 (RL.ext (Ext.refl _))) ?_
  rintro _ f5 F5 ⟨QA, cQ, rfl, RQ⟩
  obtain ⟨g, off, hA, hc⟩ := RQ.at (i := 0) (by omega) (by decide)
  refine op_pure (pv_len rfl rfl) ?_
  refine op_pure (pv_move (v := .int .i64 _) rfl) ?_
  refine xp_block ?_
  refine goes_more ?_
  refine goes_norm [_, _, _] rfl ?_
  refine xp_unroll ?_
  refine xp_seq ?_
  refine xp_region rfl ?_
  refine op_pure (pv_of (v := .bool _) rfl) ?_
  refine xp_seq ?_
  refine xp_condT rfl (rfl) ?_
  refine xp_skip ?_
  refine xp_seq ?_
  refine xp_block ?_
  refine xp_seq ?_
  refine xp_region rfl ?_
  refine op_pure (pv_move (v := .int .i64 _) rfl) ?_
  refine op_pure (pv_indexE rfl hA rfl rfl rfl (by omega) (by decide)) ?_
  refine op_loadA rfl rfl rfl rfl (hc.ext (Ext.refl _)) ?_
  refine op_alloc (cs := [_, _, _, _, _, _, _]) rfl rfl fun b12 hb12 => ?_
  refine wp_norm [_, _, _, _] rfl ?_
  refine op_pure (pv_assign (v := .int .i64 _) rfl) ?_
  refine op_storeP 3 (v := .agg #[.int .i64 _, .int .i64 _, .int .i64 _, .slice _ _ _, .slice _ _ _, .slice _ _ _, .int .i64 _]) (vs := [_, _, _, _, _, _, _]) (c' := [_, _, _, _, _, _, _]) rfl rfl rfl rfl rfl rfl rfl rfl rfl ?_
  refine wp_norm [_, _, _, _] rfl ?_
  refine xp_seq ?_
  refine xp_region rfl ?_
  refine op_loadPA 3 (vs := [.int .i64 _, .int .i64 _, .int .i64 _, .slice _ _ _, .slice _ _ _, .slice _ _ _, .int .i64 _]) rfl rfl rfl rfl rfl ?_
  refine op_pure (pv_move (v := .slice _ _ _) rfl) ?_
  refine op_fn (caps := []) (vs := [.agg #[.int .i64 _, .int .i64 _, .int .i64 _, .slice _ _ _, .slice _ _ _, .slice _ _ _, .int .i64 _], .slice _ _ _]) rfl rfl rfl (levels_ok full air h0 hf.2 ns hn hl ws W A TA PA WA cA tA cP cW f5 (R.ext (Ext.trans (Ext.trans (Ext.trans (Ext.trans F1 F2) E3) F4) F5)) (RW.ext (Ext.trans (Ext.trans (Ext.trans (Ext.trans F1 F2) E3) F4) F5))) ?_
  rintro _ f6 F6 ⟨_, rfl, LB, cB, rfl, RB⟩
  rw [lvls_len]
  refine op_pure (pv_len rfl rfl) ?_
  refine op_pure (pv_move (v := .int .i64 _) rfl) ?_
  refine xp_block ?_
  refine xp_loopL [10, 13, 14, 43, 44, 45, 46, 47, 48, 49, 50, 51, 52, 53, 54, 55, 56, 57, 58, 59, 60, 61, 62, 63, 64, 65, 66, 67, 68, 69, 70, 71, 72, 73, 74] 4 (α := Nat × Acc) (fun ⟨k, a⟩ => [(43, .int .i64 k), (10, .slice a.A a.n a.c)]) (fun ⟨k, a⟩ L => L.set 2 (a.p)) (fun ⟨k, a⟩ h_k => k ≤ ns.length ∧ AccR 58 2 ((lvls air ns ws k).flatMap rgC) a) (fun ⟨k, a⟩ => ns.length - k) ((0, acc0)) ⟨rfl, rfl, trivial⟩ (rfl) (⟨Nat.zero_le _, accR0⟩) ?_
  rintro ⟨k, a⟩ T1 h_k E_k J_k
  refine goes_norm [_, _, _, _] rfl ?_
  obtain ⟨hk0, ha⟩ := J_k
  have hal := lvls_len air ns ws k
  refine xp_seq ?_
  refine xp_region rfl ?_
  refine op_pure (pv_of (v := .bool _) rfl) ?_
  refine xp_seq ?_
  refine xp_cond rfl (fun hk => ?_) (fun hk => ?_)
  · skip
    have hkl : k < ns.length := ltI hk
    have hkl2 : k < (lvls air ns ws ns.length).length := by rw [lvls_len]; exact hkl
    obtain ⟨g2, off2, hA2, hc2⟩ := (RB.ext E_k).at (by omega) hkl2
    rw [lvls_at] at hc2
    refine xp_skip ?_
    refine xp_seq ?_
    refine xp_block ?_
    refine xp_seq ?_
    refine xp_region rfl ?_
    refine op_pure (pv_move (v := .int .i64 _) rfl) ?_
    refine op_pure (pv_indexE rfl hA2 rfl rfl rfl (by omega) (by omega)) ?_
    refine op_loadA rfl rfl rfl rfl (hc2) ?_
    refine op_alloc (cs := [_, _]) rfl rfl fun b14 hb14 => ?_
    refine wp_norm [_, _, _, _, _] rfl ?_
    refine op_pure (pv_assign (v := .int .i64 _) rfl) ?_
    refine op_storeP 4 (v := .agg #[.int .i64 _, .int .i64 _]) (vs := [_, _]) (c' := [_, _]) rfl rfl rfl rfl rfl rfl rfl rfl rfl ?_
    refine wp_norm [_, _, _, _, _] rfl ?_
    refine xp_seq ?_
    refine xp_seq ?_
    refine xp_region rfl ?_
    refine op_pure (pv_move (v := .int .i64 _) rfl) ?_
    refine op_pure (pv_of (v := .bool _) rfl) ?_
    refine xp_condT rfl (rfl) ?_
    refine xp_region rfl ?_
    refine op_pure (pv_move (v := .slice _ _ _) rfl) ?_
    refine op_loadPA 4 (vs := [.int .i64 _, .int .i64 _]) rfl rfl rfl rfl rfl ?_
    refine op_buildSlice (zc := [_, _]) (vs := [(0, .agg #[.int .i64 _, .int .i64 _])]) (cs := [_, _]) rfl rfl rfl rfl rfl rfl rfl fun b52 hb52 => ?_
    refine wp_norm [_, _, _, _, _, _] rfl ?_
    refine op_appendR 2 ha rfl rfl rfl (fun V => rdP V (i := 5) rfl) rfl rfl rfl rfl rfl rfl rfl rfl rfl (by omega) rfl (by rw [flat_len (m := 2) (fun _ _ => rfl), hal]; simp; omega) fun a2 h2a E2a ha2 => ?_
    refine wp_norm [_, _, _, _, _, _] rfl ?_
    obtain ⟨bo, len, cap, junk, hlen, e2⟩ := AccR.some ha2 (by simp)
    subst e2
    have hlen2 : len = k + 1 := by rw [List.length_append, flat_len (m := 2) (fun _ _ => rfl), hal] at hlen; simp at hlen; omega
    obtain ⟨m0, m1⟩ := midAt (lvls air ns ws k) (lvlR air ns ws k) junk hal
    refine op_pure (pv_assign (v := .slice _ _ _) rfl) ?_
    refine xp_dw [] rfl rfl rfl ?_
    refine dw_pure (i := 0) rfl (by decide +kernel) (pv_move (v := .slice _ _ _) rfl) ?_
    refine dw_pure (i := 1) rfl (by decide +kernel) (pv_move (v := .int .i64 _) rfl) ?_
    refine dw_pure (i := 2) rfl (by decide +kernel) (pv_move (v := .slice _ _ _) rfl) ?_
    refine dw_pure (i := 3) rfl (by decide +kernel) (pv_move (v := .int .i64 _) rfl) ?_
    refine dw_pure (i := 4) rfl (by decide +kernel) (pv_indexE rfl rfl rfl rfl rfl (by omega) (show ((k : Nat) : Int) < ((len : Nat) : Int) by omega)) ?_
    refine dw_pure (i := 5) rfl (by decide +kernel) (pv_fieldAddr rfl rfl rfl rfl _ rfl) ?_
    refine dw_load (i := 6) rfl (by decide +kernel) ?_
    refine op_loadP 2 (v := .int .i64 (airK air ns ws (k + 1))) rfl rfl rfl m0 ?_
    refine dw_pure (i := 7) rfl (by decide +kernel) (pv_fieldAddr rfl rfl rfl rfl 0 rfl) ?_
    refine dw_load (i := 8) rfl (by decide +kernel) ?_
    refine op_loadP 4 (v := .int .i64 _) rfl rfl rfl rfl ?_
    refine dw_pure (i := 9) rfl (by decide +kernel) (pv_val (v' := .int .i64 (airK air ns ws (k + 1))) (intE (by show min (airK air ns ws (k + 1)) (airK air ns ws (k + 1)) = airK air ns ws (k + 1); omega)) (pv_min rfl rfl)) ?_
    refine dw_pure (i := 10) rfl (by decide +kernel) (pv_move (v := .slice _ _ _) rfl) ?_
    refine dw_pure (i := 11) rfl (by decide +kernel) (pv_move (v := .int .i64 _) rfl) ?_
    refine dw_pure (i := 12) rfl (by decide +kernel) (pv_indexE rfl rfl rfl rfl rfl (by omega) (show ((k : Nat) : Int) < ((len : Nat) : Int) by omega)) ?_
    refine dw_pure (i := 13) rfl (by decide +kernel) (pv_fieldAddr rfl rfl rfl rfl _ rfl) ?_
    refine dw_load (i := 14) rfl (by decide +kernel) ?_
    refine op_loadP 2 (v := .int .i64 (airK air ns ws (k + 1))) rfl rfl rfl m1 ?_
    refine dw_pure (i := 15) rfl (by decide +kernel) (pv_fieldAddr rfl rfl rfl rfl 1 rfl) ?_
    refine dw_load (i := 16) rfl (by decide +kernel) ?_
    refine op_loadP 4 (v := .int .i64 _) rfl rfl rfl rfl ?_
    refine dw_pure (i := 17) rfl (by decide +kernel) (pv_val (v' := .int .i64 (airK air ns ws (k + 1))) (intE (by show max (airK air ns ws (k + 1)) (airK air ns ws (k + 1)) = airK air ns ws (k + 1); omega)) (pv_max rfl rfl)) ?_
    refine dw_pure (i := 18) rfl (by decide +kernel) (pv_build (zc := [_, _]) (vs := [(0, .int .i64 _), (1, .int .i64 _)]) (cs := [_, _]) rfl rfl rfl rfl rfl rfl) ?_
    refine dw_pure (i := 19) rfl (by decide +kernel) (pv_indexE rfl rfl rfl rfl rfl (by omega) (show ((k : Nat) : Int) < ((len : Nat) : Int) by omega)) ?_
    have hcl : k * 2 + 2 ≤ ((lvls air ns ws k).flatMap rgC ++ rgC (lvlR air ns ws k) ++ junk).length := by
      rw [List.length_append, List.length_append, flat_len (m := 2) (fun _ _ => rfl), hal]
      show k * 2 + 2 ≤ k * 2 + 2 + junk.length
      omega
    have hcl2 : 0 + (k : Int).toNat * 2 + 2 ≤ ((lvls air ns ws k).flatMap rgC ++ rgC (lvlR air ns ws k) ++ junk).length := by
      have : ((k : Int)).toNat = k := rfl
      omega
    refine dw_last (i := 20) rfl (by decide +kernel) (by decide +kernel) ?_
    refine op_storeP 2 (v := .agg #[.int .i64 _, .int .i64 _]) (vs := [_, _]) (c' := (lvls air ns ws k).flatMap rgC ++ rgC (lvlR air ns ws k) ++ junk) rfl rfl rfl rfl rfl rfl (Nat.ble_eq_true_of_le hcl2) rfl (midWr m0 m1) ?_
    refine dw_norm [_, _, _, _, _, _] rfl ?_
    refine dw_end rfl ?_
    refine xp_region rfl ?_
    refine op_pure (pv_arith rfl (by omega)) ?_
    refine op_pure (pv_move (v := .int .i64 _) rfl) ?_
    refine ⟨(k + 1, ⟨some (bo, .cells ((lvls air ns ws k).flatMap rgC ++ rgC (lvlR air ns ws k) ++ junk).toArray 58 (0, 0)), some ⟨bo, 0, none⟩, len, cap⟩), ⟨rfl, rfl, trivial⟩, rfl, rfl, (Ext.trans E_k E2a), fun h3 E3 => ⟨hkl, by rw [lvls_succ, List.flatMap_append]; exact ha2⟩, by first | omega | (dsimp only; omega), ?_⟩
    repeat (first | exact off_base _ _ _ | refine off_upd (by decide) ?_ | refine off_updL rfl ?_ | refine off_mix rfl ?_)
  · skip
    have hke : k = ns.length := by have := geI hk; omega
    subst hke
    refine xp_exit ?_
    refine xp_region rfl ?_
    refine op_pure (pv_arith rfl (by omega)) ?_
    refine op_pure (pv_move (v := .int .i64 _) rfl) ?_
    refine again_unroll ?_
    refine xp_seq ?_
    refine xp_region rfl ?_
    refine op_pure (pv_of (v := .bool _) rfl) ?_
    refine xp_seq ?_
    refine xp_condF rfl (rfl) ?_
    refine xp_exit ?_
    refine xp_seq ?_
    refine xp_region rfl ?_
    refine op_pure (pv_move (v := .slice _ _ _) rfl) ?_
    refine op_pure (pv_assign (v := .slice _ _ _) rfl) ?_
    refine op_pure (pv_assign (v := .int .i64 _) rfl) ?_
    refine xp_ret ?_
    refine res_list (vs := [_, _]) Try.results23 ⟨resV_tmp rfl rfl, resV_tmp rfl rfl, trivial⟩ fun V => ?_
    exact ⟨(Ext.trans (Ext.trans (Ext.trans (Ext.trans (Ext.trans (Ext.trans (Ext.trans F1 F2) E3) F4) F5) F6) E_k) (ext_wl V)), _, rfl, AccP.row (i := 2) ha (by omega) (fun _ _ => rfl) V rfl⟩
end
end Go.Proofs.Ytlfbcimcehcomaa
/- Walks of package rod: the checks of links, machines and hands. Conditions: as each theorem states. -/
namespace Go.Proofs.Ytlfbcimcehcomaa
open Go Go.HL Go.Proofs Go.Wx Go.Rd
variable [Lvl]
set_option maxRecDepth 100000
theorem checkLink_ok (m : MachP) (l : LinkP) (AB AQ AL AW : Option Addr) (cB cQ cL cW : Nat) (h : AH) (hr : -100 ≤ m.rods ∧ m.rods ≤ 100) (hg : -100 ≤ m.regs ∧ m.regs ≤ 100) : FnT Try.prog 70 #[machV AB AQ AL AW cB cQ cL cW m, .agg (linkC l).toArray] h (fun v _ => v = .int .i64 (checkLinkM m l)) := by
  refine call_body Try.func70 rfl Try.ntmps70 rfl ?_
  refine xp_seq ?_
  refine xp_region rfl ?_
  refine op_box (v := .agg #[.int .i64 _, .int .i64 _, .int .i64 _, .int .i64 _, .int .i64 _, .slice _ _ _, .slice _ _ _, .slice _ _ _, .slice _ _ _]) (cs := [_, _, _, _, _, _, _, _, _]) rfl rfl fun b2 hb2 => ?_
  refine wp_norm [_] rfl ?_
  refine op_box (v := .agg #[.int .i64 _, .int .i64 _, .int .i64 _, .int .i64 _]) (cs := [_, _, _, _]) rfl rfl fun b3 hb3 => ?_
  refine wp_norm [_, _] rfl ?_
  refine op_pure (pv_assign (v := .int .i64 _) rfl) ?_
  refine xp_seq ?_
  refine xp_block ?_
  refine xp_seq ?_
  refine xp_region rfl ?_
  refine op_pure (pv_fieldAddr rfl rfl rfl rfl 0 rfl) ?_
  refine op_loadP 1 (v := .int .i64 _) rfl rfl rfl rfl ?_
  refine op_pure (pv_fieldAddr rfl rfl rfl rfl 0 rfl) ?_
  refine op_loadP 0 (v := .int .i64 _) rfl rfl rfl rfl ?_
  refine op_pure (pv_arith rfl (by omega)) ?_
  refine op_fn (caps := []) (vs := [.int .i64 _, .int .i64 _, .int .i64 _]) rfl rfl rfl (within_ok _ _ _ h) ?_
  rintro _ h1 E1 rfl
  refine op_pure (pv_of (v := .bool _) rfl) ?_
  refine op_pure (pv_move (v := .bool _) rfl) ?_
  refine guard_case rfl (fun hg2 => ?_) (fun hg2 => ?_)
  · replace hg2 : _ = false := hg2
    refine op_pure (pv_fieldAddr rfl rfl rfl rfl 1 rfl) ?_
    refine guard_yes rfl hg2 ?_
    refine op_loadP 1 (v := .int .i64 _) rfl rfl rfl rfl ?_
    refine guard_yes rfl hg2 ?_
    refine op_pure (pv_fieldAddr rfl rfl rfl rfl 0 rfl) ?_
    refine guard_yes rfl hg2 ?_
    refine op_loadP 0 (v := .int .i64 _) rfl rfl rfl rfl ?_
    refine guard_yes rfl hg2 ?_
    refine op_pure (pv_arith rfl (by omega)) ?_
    refine guard_yes rfl hg2 ?_
    refine op_fn (caps := []) (vs := [.int .i64 _, .int .i64 _, .int .i64 _]) rfl rfl rfl (within_ok _ _ _ h1) ?_
    rintro _ h3 E3 rfl
    refine guard_yes rfl hg2 ?_
    refine op_pure (pv_of (v := .bool _) rfl) ?_
    refine op_pure (pv_pickF rfl hg2 (v := .bool _) rfl) ?_
    refine op_pure (pv_assign (v := .bool _) rfl) ?_
    refine xp_cond rfl (fun hc4 => ?_) (fun hc4 => ?_)
    · refine xp_seq ?_
      refine xp_region rfl ?_
      refine op_pure (pv_assign (v := .int .i64 _) rfl) ?_
      refine xp_ret ?_
      refine res_list (vs := [_]) Try.results70 ⟨resV_tmp rfl rfl, trivial⟩ fun V => ?_
      exact ⟨(Ext.trans (Ext.trans E1 E3) (ext_wl V)), intE (by unfold checkLinkM; simp_all)⟩
    · refine xp_seq ?_
      refine xp_region rfl ?_
      refine op_pure (pv_fieldAddr rfl rfl rfl rfl 0 rfl) ?_
      refine op_loadP 1 (v := .int .i64 _) rfl rfl rfl rfl ?_
      refine op_pure (pv_fieldAddr rfl rfl rfl rfl 1 rfl) ?_
      refine op_loadP 1 (v := .int .i64 _) rfl rfl rfl rfl ?_
      refine op_pure (pv_of (v := .bool _) rfl) ?_
      refine op_pure (pv_assign (v := .bool _) rfl) ?_
      refine xp_cond rfl (fun hc5 => ?_) (fun hc5 => ?_)
      · refine xp_seq ?_
        refine xp_region rfl ?_
        refine op_pure (pv_assign (v := .int .i64 _) rfl) ?_
        refine xp_ret ?_
        refine res_list (vs := [_]) Try.results70 ⟨resV_tmp rfl rfl, trivial⟩ fun V => ?_
        exact ⟨(Ext.trans (Ext.trans E1 E3) (ext_wl V)), intE (by unfold checkLinkM; simp_all)⟩
      · refine xp_seq ?_
        refine xp_region rfl ?_
        refine op_pure (pv_fieldAddr rfl rfl rfl rfl 2 rfl) ?_
        refine op_loadP 1 (v := .int .i64 _) rfl rfl rfl rfl ?_
        refine op_pure (pv_fieldAddr rfl rfl rfl rfl 2 rfl) ?_
        refine op_loadP 0 (v := .int .i64 _) rfl rfl rfl rfl ?_
        refine op_pure (pv_arith rfl (by omega)) ?_
        refine op_fn (caps := []) (vs := [.int .i64 _, .int .i64 _, .int .i64 _]) rfl rfl rfl (within_ok _ _ _ h3) ?_
        rintro _ h6 E6 rfl
        refine op_pure (pv_of (v := .bool _) rfl) ?_
        refine op_pure (pv_assign (v := .bool _) rfl) ?_
        refine xp_cond rfl (fun hc7 => ?_) (fun hc7 => ?_)
        · refine xp_seq ?_
          refine xp_region rfl ?_
          refine op_pure (pv_assign (v := .int .i64 _) rfl) ?_
          refine xp_ret ?_
          refine res_list (vs := [_]) Try.results70 ⟨resV_tmp rfl rfl, trivial⟩ fun V => ?_
          exact ⟨(Ext.trans (Ext.trans (Ext.trans E1 E3) E6) (ext_wl V)), intE (by unfold checkLinkM; simp_all)⟩
        · refine xp_seq ?_
          refine xp_region rfl ?_
          refine op_pure (pv_fieldAddr rfl rfl rfl rfl 3 rfl) ?_
          refine op_loadP 1 (v := .int .i64 _) rfl rfl rfl rfl ?_
          refine op_pure (pv_fieldAddr rfl rfl rfl rfl 3 rfl) ?_
          refine op_loadP 0 (v := .int .i64 _) rfl rfl rfl rfl ?_
          refine op_fn (caps := []) (vs := [.int .i64 _, .int .i64 _, .int .i64 _]) rfl rfl rfl (within_ok _ _ _ h6) ?_
          rintro _ h8 E8 rfl
          refine op_pure (pv_of (v := .bool _) rfl) ?_
          refine op_pure (pv_assign (v := .bool _) rfl) ?_
          refine xp_cond rfl (fun hc9 => ?_) (fun hc9 => ?_)
          · refine xp_seq ?_
            refine xp_region rfl ?_
            refine op_pure (pv_assign (v := .int .i64 _) rfl) ?_
            refine xp_ret ?_
            refine res_list (vs := [_]) Try.results70 ⟨resV_tmp rfl rfl, trivial⟩ fun V => ?_
            exact ⟨(Ext.trans (Ext.trans (Ext.trans (Ext.trans E1 E3) E6) E8) (ext_wl V)), intE (by unfold checkLinkM; simp_all)⟩
          · refine xp_skip ?_
            refine xp_seq ?_
            refine xp_region rfl ?_
            refine op_pure (pv_assign (v := .int .i64 _) rfl) ?_
            refine xp_ret ?_
            refine res_list (vs := [_]) Try.results70 ⟨resV_tmp rfl rfl, trivial⟩ fun V => ?_
            exact ⟨(Ext.trans (Ext.trans (Ext.trans (Ext.trans E1 E3) E6) E8) (ext_wl V)), intE (by unfold checkLinkM; simp_all)⟩
  · replace hg2 : _ = true := hg2
    refine guard_no rfl hg2 ?_
    refine guard_no rfl hg2 ?_
    refine guard_no rfl hg2 ?_
    refine guard_no rfl hg2 ?_
    refine guard_no rfl hg2 ?_
    refine guard_no rfl hg2 ?_
    refine op_pure (pv_pickT rfl hg2 (v := .bool _) rfl) ?_
    refine op_pure (pv_assign (v := .bool _) rfl) ?_
    refine xp_cond rfl (fun hc10 => ?_) (fun hc10 => ?_)
    · refine xp_seq ?_
      refine xp_region rfl ?_
      refine op_pure (pv_assign (v := .int .i64 _) rfl) ?_
      refine xp_ret ?_
      refine res_list (vs := [_]) Try.results70 ⟨resV_tmp rfl rfl, trivial⟩ fun V => ?_
      exact ⟨(Ext.trans E1 (ext_wl V)), intE (by unfold checkLinkM; simp_all)⟩
    · refine xp_seq ?_
      refine xp_region rfl ?_
      refine op_pure (pv_fieldAddr rfl rfl rfl rfl 0 rfl) ?_
      refine op_loadP 1 (v := .int .i64 _) rfl rfl rfl rfl ?_
      refine op_pure (pv_fieldAddr rfl rfl rfl rfl 1 rfl) ?_
      refine op_loadP 1 (v := .int .i64 _) rfl rfl rfl rfl ?_
      refine op_pure (pv_of (v := .bool _) rfl) ?_
      refine op_pure (pv_assign (v := .bool _) rfl) ?_
      refine xp_cond rfl (fun hc11 => ?_) (fun hc11 => ?_)
      · refine xp_seq ?_
        refine xp_region rfl ?_
        refine op_pure (pv_assign (v := .int .i64 _) rfl) ?_
        refine xp_ret ?_
        refine res_list (vs := [_]) Try.results70 ⟨resV_tmp rfl rfl, trivial⟩ fun V => ?_
        exact ⟨(Ext.trans E1 (ext_wl V)), intE (by unfold checkLinkM; simp_all)⟩
      · refine xp_seq ?_
        refine xp_region rfl ?_
        refine op_pure (pv_fieldAddr rfl rfl rfl rfl 2 rfl) ?_
        refine op_loadP 1 (v := .int .i64 _) rfl rfl rfl rfl ?_
        refine op_pure (pv_fieldAddr rfl rfl rfl rfl 2 rfl) ?_
        refine op_loadP 0 (v := .int .i64 _) rfl rfl rfl rfl ?_
        refine op_pure (pv_arith rfl (by omega)) ?_
        refine op_fn (caps := []) (vs := [.int .i64 _, .int .i64 _, .int .i64 _]) rfl rfl rfl (within_ok _ _ _ h1) ?_
        rintro _ h12 E12 rfl
        refine op_pure (pv_of (v := .bool _) rfl) ?_
        refine op_pure (pv_assign (v := .bool _) rfl) ?_
        refine xp_cond rfl (fun hc13 => ?_) (fun hc13 => ?_)
        · refine xp_seq ?_
          refine xp_region rfl ?_
          refine op_pure (pv_assign (v := .int .i64 _) rfl) ?_
          refine xp_ret ?_
          refine res_list (vs := [_]) Try.results70 ⟨resV_tmp rfl rfl, trivial⟩ fun V => ?_
          exact ⟨(Ext.trans (Ext.trans E1 E12) (ext_wl V)), intE (by unfold checkLinkM; simp_all)⟩
        · refine xp_seq ?_
          refine xp_region rfl ?_
          refine op_pure (pv_fieldAddr rfl rfl rfl rfl 3 rfl) ?_
          refine op_loadP 1 (v := .int .i64 _) rfl rfl rfl rfl ?_
          refine op_pure (pv_fieldAddr rfl rfl rfl rfl 3 rfl) ?_
          refine op_loadP 0 (v := .int .i64 _) rfl rfl rfl rfl ?_
          refine op_fn (caps := []) (vs := [.int .i64 _, .int .i64 _, .int .i64 _]) rfl rfl rfl (within_ok _ _ _ h12) ?_
          rintro _ h14 E14 rfl
          refine op_pure (pv_of (v := .bool _) rfl) ?_
          refine op_pure (pv_assign (v := .bool _) rfl) ?_
          refine xp_cond rfl (fun hc15 => ?_) (fun hc15 => ?_)
          · refine xp_seq ?_
            refine xp_region rfl ?_
            refine op_pure (pv_assign (v := .int .i64 _) rfl) ?_
            refine xp_ret ?_
            refine res_list (vs := [_]) Try.results70 ⟨resV_tmp rfl rfl, trivial⟩ fun V => ?_
            exact ⟨(Ext.trans (Ext.trans (Ext.trans E1 E12) E14) (ext_wl V)), intE (by unfold checkLinkM; simp_all)⟩
          · refine xp_skip ?_
            refine xp_seq ?_
            refine xp_region rfl ?_
            refine op_pure (pv_assign (v := .int .i64 _) rfl) ?_
            refine xp_ret ?_
            refine res_list (vs := [_]) Try.results70 ⟨resV_tmp rfl rfl, trivial⟩ fun V => ?_
            exact ⟨(Ext.trans (Ext.trans (Ext.trans E1 E12) E14) (ext_wl V)), intE (by unfold checkLinkM; simp_all)⟩
def headB (m : MachP) : Bool := !inM m.rods 1 6 || !inM m.levers 1 6 || !inM m.regs 0 2 || !inM m.travel 1 12 || !inM m.opn 1 m.travel
def chk4 (m : MachP) : Int := if (m.weights.length : Int) ≠ m.levers then 2 else firstErr checkWeightM m.weights
def chk3 (m : MachP) : Int := if m.links.length > 4 then 6 else if firstErr (checkLinkM m) m.links ≠ 0 then firstErr (checkLinkM m) m.links else chk4 m
def chk2 (m : MachP) : Int := if m.pins.length > 8 then 6 else if firstErr (checkPinM m) m.pins ≠ 0 then firstErr (checkPinM m) m.pins else chk3 m
def chk1 (m : MachP) : Int := if m.buttons.length > 4 then 6 else if firstErr (checkButtonM m) m.buttons ≠ 0 then firstErr (checkButtonM m) m.buttons else chk2 m
theorem chk_head {m : MachP} (e1 : inM m.rods 1 6 = true) (e2 : inM m.levers 1 6 = true) (e3 : inM m.regs 0 2 = true) (e4 : inM m.travel 1 12 = true) (e5 : inM m.opn 1 m.travel = true) : chkM m = chk1 m := by
  unfold chkM
  rw [e1, e2, e3, e4, e5]
  rfl
set_option maxHeartbeats 4000000 in
theorem Check_ok (m : MachP) (AB AQ AL AW : Option Addr) (cB cQ cL cW : Nat) (h : AH) (R : MachR h AB AQ AL AW m) (h0 : m.weights.length < 2 ^ 40) : FnT Try.prog 38 #[machV AB AQ AL AW cB cQ cL cW m] h (fun v _ => v = .int .i64 (chkM m)) := by
  refine call_body Try.func38 rfl Try.ntmps38 rfl ?_
  refine xp_seq ?_
  refine xp_region rfl ?_
  refine op_box (v := .agg #[.int .i64 _, .int .i64 _, .int .i64 _, .int .i64 _, .int .i64 _, .slice _ _ _, .slice _ _ _, .slice _ _ _, .slice _ _ _]) (cs := [_, _, _, _, _, _, _, _, _]) rfl rfl fun b1 hb1 => ?_
  refine wp_norm [_] rfl ?_
  refine op_pure (pv_assign (v := .int .i64 _) rfl) ?_
  refine xp_seq ?_
  refine xp_cutB [12, 13, 14, 15, 16, 17, 18, 19, 20, 21, 22, 23, 24, 25, 26, 27, 28, 29, 30, 31, 32, 33, 34, 35, 36, 37, 38, 39, 40, 41] 1 (α := Unit) (fun u => [(41, .bool (headB m))]) (fun u L => L) (fun u h_u => True) ?_ ?_
  · skip
    refine xp_region rfl ?_
    refine op_pure (pv_fieldAddr rfl rfl rfl rfl 0 rfl) ?_
    refine op_loadP 0 (v := .int .i64 _) rfl rfl rfl rfl ?_
    refine op_fn (caps := []) (vs := [.int .i64 _, .int .i64 _, .int .i64 _]) rfl rfl rfl (within_ok _ _ _ h) ?_
    rintro _ h2 E2 rfl
    refine op_pure (pv_of (v := .bool _) rfl) ?_
    refine op_pure (pv_move (v := .bool _) rfl) ?_
    refine guard_case rfl (fun hg3 => ?_) (fun hg3 => ?_)
    · replace hg3 : _ = false := hg3
      refine op_pure (pv_fieldAddr rfl rfl rfl rfl 1 rfl) ?_
      refine guard_yes rfl hg3 ?_
      refine op_loadP 0 (v := .int .i64 _) rfl rfl rfl rfl ?_
      refine guard_yes rfl hg3 ?_
      refine op_fn (caps := []) (vs := [.int .i64 _, .int .i64 _, .int .i64 _]) rfl rfl rfl (within_ok _ _ _ h2) ?_
      rintro _ h4 E4 rfl
      refine guard_yes rfl hg3 ?_
      refine op_pure (pv_of (v := .bool _) rfl) ?_
      refine op_pure (pv_pickF rfl hg3 (v := .bool _) rfl) ?_
      refine op_pure (pv_move (v := .bool _) rfl) ?_
      refine guard_case rfl (fun hg5 => ?_) (fun hg5 => ?_)
      · replace hg5 : _ = false := hg5
        refine op_pure (pv_fieldAddr rfl rfl rfl rfl 2 rfl) ?_
        refine guard_yes rfl hg5 ?_
        refine op_loadP 0 (v := .int .i64 _) rfl rfl rfl rfl ?_
        refine guard_yes rfl hg5 ?_
        refine op_fn (caps := []) (vs := [.int .i64 _, .int .i64 _, .int .i64 _]) rfl rfl rfl (within_ok _ _ _ h4) ?_
        rintro _ h6 E6 rfl
        refine guard_yes rfl hg5 ?_
        refine op_pure (pv_of (v := .bool _) rfl) ?_
        refine op_pure (pv_pickF rfl hg5 (v := .bool _) rfl) ?_
        refine op_pure (pv_move (v := .bool _) rfl) ?_
        refine guard_case rfl (fun hg7 => ?_) (fun hg7 => ?_)
        · replace hg7 : _ = false := hg7
          refine op_pure (pv_fieldAddr rfl rfl rfl rfl 3 rfl) ?_
          refine guard_yes rfl hg7 ?_
          refine op_loadP 0 (v := .int .i64 _) rfl rfl rfl rfl ?_
          refine guard_yes rfl hg7 ?_
          refine op_fn (caps := []) (vs := [.int .i64 _, .int .i64 _, .int .i64 _]) rfl rfl rfl (within_ok _ _ _ h6) ?_
          rintro _ h8 E8 rfl
          refine guard_yes rfl hg7 ?_
          refine op_pure (pv_of (v := .bool _) rfl) ?_
          refine op_pure (pv_pickF rfl hg7 (v := .bool _) rfl) ?_
          refine op_pure (pv_move (v := .bool _) rfl) ?_
          refine guard_case rfl (fun hg9 => ?_) (fun hg9 => ?_)
          · replace hg9 : _ = false := hg9
            refine op_pure (pv_fieldAddr rfl rfl rfl rfl 4 rfl) ?_
            refine guard_yes rfl hg9 ?_
            refine op_loadP 0 (v := .int .i64 _) rfl rfl rfl rfl ?_
            refine guard_yes rfl hg9 ?_
            refine op_pure (pv_fieldAddr rfl rfl rfl rfl 3 rfl) ?_
            refine guard_yes rfl hg9 ?_
            refine op_loadP 0 (v := .int .i64 _) rfl rfl rfl rfl ?_
            refine guard_yes rfl hg9 ?_
            refine op_fn (caps := []) (vs := [.int .i64 _, .int .i64 _, .int .i64 _]) rfl rfl rfl (within_ok _ _ _ h8) ?_
            rintro _ h10 E10 rfl
            refine guard_yes rfl hg9 ?_
            refine op_pure (pv_of (v := .bool _) rfl) ?_
            refine op_pure (pv_pickF rfl hg9 (v := .bool _) rfl) ?_
            refine ⟨(), ⟨(boolE (by first | contradiction | (unfold headB; simp only [*, Bool.or_true, Bool.true_or, Bool.false_or, Bool.or_false, Bool.not_true, Bool.not_false]))), trivial⟩, rfl, rfl, (Ext.trans (Ext.trans (Ext.trans (Ext.trans E2 E4) E6) E8) E10), fun h3 E3 => by first | trivial | omega | (refine ⟨?_, ?_⟩ <;> omega), ?_⟩
            repeat (first | exact off_refl _ _ | exact off_base _ _ _ | refine off_upd (by decide) ?_ | refine off_updL rfl ?_ | refine off_mix rfl ?_)
          · replace hg9 : _ = true := hg9
            refine guard_no rfl hg9 ?_
            refine guard_no rfl hg9 ?_
            refine guard_no rfl hg9 ?_
            refine guard_no rfl hg9 ?_
            refine guard_no rfl hg9 ?_
            refine op_pure (pv_pickT rfl hg9 (v := .bool _) rfl) ?_
            refine ⟨(), ⟨(boolE (by first | contradiction | (unfold headB; simp only [*, Bool.or_true, Bool.true_or, Bool.false_or, Bool.or_false, Bool.not_true, Bool.not_false]))), trivial⟩, rfl, rfl, (Ext.trans (Ext.trans (Ext.trans E2 E4) E6) E8), fun h3 E3 => by first | trivial | omega | (refine ⟨?_, ?_⟩ <;> omega), ?_⟩
            repeat (first | exact off_refl _ _ | exact off_base _ _ _ | refine off_upd (by decide) ?_ | refine off_updL rfl ?_ | refine off_mix rfl ?_)
        · replace hg7 : _ = true := hg7
          refine guard_no rfl hg7 ?_
          refine guard_no rfl hg7 ?_
          refine guard_no rfl hg7 ?_
          refine op_pure (pv_pickT rfl hg7 (v := .bool _) rfl) ?_
          refine op_pure (pv_move (v := .bool _) rfl) ?_
          refine guard_case rfl (fun hg11 => ?_) (fun hg11 => ?_)
          · replace hg11 : _ = false := hg11
            refine op_pure (pv_fieldAddr rfl rfl rfl rfl 4 rfl) ?_
            refine guard_yes rfl hg11 ?_
            refine op_loadP 0 (v := .int .i64 _) rfl rfl rfl rfl ?_
            refine guard_yes rfl hg11 ?_
            refine op_pure (pv_fieldAddr rfl rfl rfl rfl 3 rfl) ?_
            refine guard_yes rfl hg11 ?_
            refine op_loadP 0 (v := .int .i64 _) rfl rfl rfl rfl ?_
            refine guard_yes rfl hg11 ?_
            refine op_fn (caps := []) (vs := [.int .i64 _, .int .i64 _, .int .i64 _]) rfl rfl rfl (within_ok _ _ _ h6) ?_
            rintro _ h12 E12 rfl
            refine guard_yes rfl hg11 ?_
            refine op_pure (pv_of (v := .bool _) rfl) ?_
            refine op_pure (pv_pickF rfl hg11 (v := .bool _) rfl) ?_
            refine ⟨(), ⟨(boolE (by first | contradiction | (unfold headB; simp only [*, Bool.or_true, Bool.true_or, Bool.false_or, Bool.or_false, Bool.not_true, Bool.not_false]))), trivial⟩, rfl, rfl, (Ext.trans (Ext.trans (Ext.trans E2 E4) E6) E12), fun h3 E3 => by first | trivial | omega | (refine ⟨?_, ?_⟩ <;> omega), ?_⟩
            repeat (first | exact off_refl _ _ | exact off_base _ _ _ | refine off_upd (by decide) ?_ | refine off_updL rfl ?_ | refine off_mix rfl ?_)
          · replace hg11 : _ = true := hg11
            refine guard_no rfl hg11 ?_
            refine guard_no rfl hg11 ?_
            refine guard_no rfl hg11 ?_
            refine guard_no rfl hg11 ?_
            refine guard_no rfl hg11 ?_
            refine op_pure (pv_pickT rfl hg11 (v := .bool _) rfl) ?_
            refine ⟨(), ⟨(boolE (by first | contradiction | (unfold headB; simp only [*, Bool.or_true, Bool.true_or, Bool.false_or, Bool.or_false, Bool.not_true, Bool.not_false]))), trivial⟩, rfl, rfl, (Ext.trans (Ext.trans E2 E4) E6), fun h3 E3 => by first | trivial | omega | (refine ⟨?_, ?_⟩ <;> omega), ?_⟩
            repeat (first | exact off_refl _ _ | exact off_base _ _ _ | refine off_upd (by decide) ?_ | refine off_updL rfl ?_ | refine off_mix rfl ?_)
      · replace hg5 : _ = true := hg5
        refine guard_no rfl hg5 ?_
        refine guard_no rfl hg5 ?_
        refine guard_no rfl hg5 ?_
        refine op_pure (pv_pickT rfl hg5 (v := .bool _) rfl) ?_
        refine op_pure (pv_move (v := .bool _) rfl) ?_
        refine guard_case rfl (fun hg13 => ?_) (fun hg13 => ?_)
        · replace hg13 : _ = false := hg13
          refine op_pure (pv_fieldAddr rfl rfl rfl rfl 3 rfl) ?_
          refine guard_yes rfl hg13 ?_
          refine op_loadP 0 (v := .int .i64 _) rfl rfl rfl rfl ?_
          refine guard_yes rfl hg13 ?_
          refine op_fn (caps := []) (vs := [.int .i64 _, .int .i64 _, .int .i64 _]) rfl rfl rfl (within_ok _ _ _ h4) ?_
          rintro _ h14 E14 rfl
          refine guard_yes rfl hg13 ?_
          refine op_pure (pv_of (v := .bool _) rfl) ?_
          refine op_pure (pv_pickF rfl hg13 (v := .bool _) rfl) ?_
          refine op_pure (pv_move (v := .bool _) rfl) ?_
          refine guard_case rfl (fun hg15 => ?_) (fun hg15 => ?_)
          · replace hg15 : _ = false := hg15
            refine op_pure (pv_fieldAddr rfl rfl rfl rfl 4 rfl) ?_
            refine guard_yes rfl hg15 ?_
            refine op_loadP 0 (v := .int .i64 _) rfl rfl rfl rfl ?_
            refine guard_yes rfl hg15 ?_
            refine op_pure (pv_fieldAddr rfl rfl rfl rfl 3 rfl) ?_
            refine guard_yes rfl hg15 ?_
            refine op_loadP 0 (v := .int .i64 _) rfl rfl rfl rfl ?_
            refine guard_yes rfl hg15 ?_
            refine op_fn (caps := []) (vs := [.int .i64 _, .int .i64 _, .int .i64 _]) rfl rfl rfl (within_ok _ _ _ h14) ?_
            rintro _ h16 E16 rfl
            refine guard_yes rfl hg15 ?_
            refine op_pure (pv_of (v := .bool _) rfl) ?_
            refine op_pure (pv_pickF rfl hg15 (v := .bool _) rfl) ?_
            refine ⟨(), ⟨(boolE (by first | contradiction | (unfold headB; simp only [*, Bool.or_true, Bool.true_or, Bool.false_or, Bool.or_false, Bool.not_true, Bool.not_false]))), trivial⟩, rfl, rfl, (Ext.trans (Ext.trans (Ext.trans E2 E4) E14) E16), fun h3 E3 => by first | trivial | omega | (refine ⟨?_, ?_⟩ <;> omega), ?_⟩
            repeat (first | exact off_refl _ _ | exact off_base _ _ _ | refine off_upd (by decide) ?_ | refine off_updL rfl ?_ | refine off_mix rfl ?_)
          · replace hg15 : _ = true := hg15
            refine guard_no rfl hg15 ?_
            refine guard_no rfl hg15 ?_
            refine guard_no rfl hg15 ?_
            refine guard_no rfl hg15 ?_
            refine guard_no rfl hg15 ?_
            refine op_pure (pv_pickT rfl hg15 (v := .bool _) rfl) ?_
            refine ⟨(), ⟨(boolE (by first | contradiction | (unfold headB; simp only [*, Bool.or_true, Bool.true_or, Bool.false_or, Bool.or_false, Bool.not_true, Bool.not_false]))), trivial⟩, rfl, rfl, (Ext.trans (Ext.trans E2 E4) E14), fun h3 E3 => by first | trivial | omega | (refine ⟨?_, ?_⟩ <;> omega), ?_⟩
            repeat (first | exact off_refl _ _ | exact off_base _ _ _ | refine off_upd (by decide) ?_ | refine off_updL rfl ?_ | refine off_mix rfl ?_)
        · replace hg13 : _ = true := hg13
          refine guard_no rfl hg13 ?_
          refine guard_no rfl hg13 ?_
          refine guard_no rfl hg13 ?_
          refine op_pure (pv_pickT rfl hg13 (v := .bool _) rfl) ?_
          refine op_pure (pv_move (v := .bool _) rfl) ?_
          refine guard_case rfl (fun hg17 => ?_) (fun hg17 => ?_)
          · replace hg17 : _ = false := hg17
            refine op_pure (pv_fieldAddr rfl rfl rfl rfl 4 rfl) ?_
            refine guard_yes rfl hg17 ?_
            refine op_loadP 0 (v := .int .i64 _) rfl rfl rfl rfl ?_
            refine guard_yes rfl hg17 ?_
            refine op_pure (pv_fieldAddr rfl rfl rfl rfl 3 rfl) ?_
            refine guard_yes rfl hg17 ?_
            refine op_loadP 0 (v := .int .i64 _) rfl rfl rfl rfl ?_
            refine guard_yes rfl hg17 ?_
            refine op_fn (caps := []) (vs := [.int .i64 _, .int .i64 _, .int .i64 _]) rfl rfl rfl (within_ok _ _ _ h4) ?_
            rintro _ h18 E18 rfl
            refine guard_yes rfl hg17 ?_
            refine op_pure (pv_of (v := .bool _) rfl) ?_
            refine op_pure (pv_pickF rfl hg17 (v := .bool _) rfl) ?_
            refine ⟨(), ⟨(boolE (by first | contradiction | (unfold headB; simp only [*, Bool.or_true, Bool.true_or, Bool.false_or, Bool.or_false, Bool.not_true, Bool.not_false]))), trivial⟩, rfl, rfl, (Ext.trans (Ext.trans E2 E4) E18), fun h3 E3 => by first | trivial | omega | (refine ⟨?_, ?_⟩ <;> omega), ?_⟩
            repeat (first | exact off_refl _ _ | exact off_base _ _ _ | refine off_upd (by decide) ?_ | refine off_updL rfl ?_ | refine off_mix rfl ?_)
          · replace hg17 : _ = true := hg17
            refine guard_no rfl hg17 ?_
            refine guard_no rfl hg17 ?_
            refine guard_no rfl hg17 ?_
            refine guard_no rfl hg17 ?_
            refine guard_no rfl hg17 ?_
            refine op_pure (pv_pickT rfl hg17 (v := .bool _) rfl) ?_
            refine ⟨(), ⟨(boolE (by first | contradiction | (unfold headB; simp only [*, Bool.or_true, Bool.true_or, Bool.false_or, Bool.or_false, Bool.not_true, Bool.not_false]))), trivial⟩, rfl, rfl, (Ext.trans E2 E4), fun h3 E3 => by first | trivial | omega | (refine ⟨?_, ?_⟩ <;> omega), ?_⟩
            repeat (first | exact off_refl _ _ | exact off_base _ _ _ | refine off_upd (by decide) ?_ | refine off_updL rfl ?_ | refine off_mix rfl ?_)
    · replace hg3 : _ = true := hg3
      refine guard_no rfl hg3 ?_
      refine guard_no rfl hg3 ?_
      refine guard_no rfl hg3 ?_
      refine op_pure (pv_pickT rfl hg3 (v := .bool _) rfl) ?_
      refine op_pure (pv_move (v := .bool _) rfl) ?_
      refine guard_case rfl (fun hg19 => ?_) (fun hg19 => ?_)
      · replace hg19 : _ = false := hg19
        refine op_pure (pv_fieldAddr rfl rfl rfl rfl 2 rfl) ?_
        refine guard_yes rfl hg19 ?_
        refine op_loadP 0 (v := .int .i64 _) rfl rfl rfl rfl ?_
        refine guard_yes rfl hg19 ?_
        refine op_fn (caps := []) (vs := [.int .i64 _, .int .i64 _, .int .i64 _]) rfl rfl rfl (within_ok _ _ _ h2) ?_
        rintro _ h20 E20 rfl
        refine guard_yes rfl hg19 ?_
        refine op_pure (pv_of (v := .bool _) rfl) ?_
        refine op_pure (pv_pickF rfl hg19 (v := .bool _) rfl) ?_
        refine op_pure (pv_move (v := .bool _) rfl) ?_
        refine guard_case rfl (fun hg21 => ?_) (fun hg21 => ?_)
        · replace hg21 : _ = false := hg21
          refine op_pure (pv_fieldAddr rfl rfl rfl rfl 3 rfl) ?_
          refine guard_yes rfl hg21 ?_
          refine op_loadP 0 (v := .int .i64 _) rfl rfl rfl rfl ?_
          refine guard_yes rfl hg21 ?_
          refine op_fn (caps := []) (vs := [.int .i64 _, .int .i64 _, .int .i64 _]) rfl rfl rfl (within_ok _ _ _ h20) ?_
          rintro _ h22 E22 rfl
          refine guard_yes rfl hg21 ?_
          refine op_pure (pv_of (v := .bool _) rfl) ?_
          refine op_pure (pv_pickF rfl hg21 (v := .bool _) rfl) ?_
          refine op_pure (pv_move (v := .bool _) rfl) ?_
          refine guard_case rfl (fun hg23 => ?_) (fun hg23 => ?_)
          · replace hg23 : _ = false := hg23
            refine op_pure (pv_fieldAddr rfl rfl rfl rfl 4 rfl) ?_
            refine guard_yes rfl hg23 ?_
            refine op_loadP 0 (v := .int .i64 _) rfl rfl rfl rfl ?_
            refine guard_yes rfl hg23 ?_
            refine op_pure (pv_fieldAddr rfl rfl rfl rfl 3 rfl) ?_
            refine guard_yes rfl hg23 ?_
            refine op_loadP 0 (v := .int .i64 _) rfl rfl rfl rfl ?_
            refine guard_yes rfl hg23 ?_
            refine op_fn (caps := []) (vs := [.int .i64 _, .int .i64 _, .int .i64 _]) rfl rfl rfl (within_ok _ _ _ h22) ?_
            rintro _ h24 E24 rfl
            refine guard_yes rfl hg23 ?_
            refine op_pure (pv_of (v := .bool _) rfl) ?_
            refine op_pure (pv_pickF rfl hg23 (v := .bool _) rfl) ?_
            refine ⟨(), ⟨(boolE (by first | contradiction | (unfold headB; simp only [*, Bool.or_true, Bool.true_or, Bool.false_or, Bool.or_false, Bool.not_true, Bool.not_false]))), trivial⟩, rfl, rfl, (Ext.trans (Ext.trans (Ext.trans E2 E20) E22) E24), fun h3 E3 => by first | trivial | omega | (refine ⟨?_, ?_⟩ <;> omega), ?_⟩
            repeat (first | exact off_refl _ _ | exact off_base _ _ _ | refine off_upd (by decide) ?_ | refine off_updL rfl ?_ | refine off_mix rfl ?_)
          · replace hg23 : _ = true := hg23
            refine guard_no rfl hg23 ?_
            refine guard_no rfl hg23 ?_
            refine guard_no rfl hg23 ?_
            refine guard_no rfl hg23 ?_
            refine guard_no rfl hg23 ?_
            refine op_pure (pv_pickT rfl hg23 (v := .bool _) rfl) ?_
            refine ⟨(), ⟨(boolE (by first | contradiction | (unfold headB; simp only [*, Bool.or_true, Bool.true_or, Bool.false_or, Bool.or_false, Bool.not_true, Bool.not_false]))), trivial⟩, rfl, rfl, (Ext.trans (Ext.trans E2 E20) E22), fun h3 E3 => by first | trivial | omega | (refine ⟨?_, ?_⟩ <;> omega), ?_⟩
            repeat (first | exact off_refl _ _ | exact off_base _ _ _ | refine off_upd (by decide) ?_ | refine off_updL rfl ?_ | refine off_mix rfl ?_)
        · replace hg21 : _ = true := hg21
          refine guard_no rfl hg21 ?_
          refine guard_no rfl hg21 ?_
          refine guard_no rfl hg21 ?_
          refine op_pure (pv_pickT rfl hg21 (v := .bool _) rfl) ?_
          refine op_pure (pv_move (v := .bool _) rfl) ?_
          refine guard_case rfl (fun hg25 => ?_) (fun hg25 => ?_)
          · replace hg25 : _ = false := hg25
            refine op_pure (pv_fieldAddr rfl rfl rfl rfl 4 rfl) ?_
            refine guard_yes rfl hg25 ?_
            refine op_loadP 0 (v := .int .i64 _) rfl rfl rfl rfl ?_
            refine guard_yes rfl hg25 ?_
            refine op_pure (pv_fieldAddr rfl rfl rfl rfl 3 rfl) ?_
            refine guard_yes rfl hg25 ?_
            refine op_loadP 0 (v := .int .i64 _) rfl rfl rfl rfl ?_
            refine guard_yes rfl hg25 ?_
            refine op_fn (caps := []) (vs := [.int .i64 _, .int .i64 _, .int .i64 _]) rfl rfl rfl (within_ok _ _ _ h20) ?_
            rintro _ h26 E26 rfl
            refine guard_yes rfl hg25 ?_
            refine op_pure (pv_of (v := .bool _) rfl) ?_
            refine op_pure (pv_pickF rfl hg25 (v := .bool _) rfl) ?_
            refine ⟨(), ⟨(boolE (by first | contradiction | (unfold headB; simp only [*, Bool.or_true, Bool.true_or, Bool.false_or, Bool.or_false, Bool.not_true, Bool.not_false]))), trivial⟩, rfl, rfl, (Ext.trans (Ext.trans E2 E20) E26), fun h3 E3 => by first | trivial | omega | (refine ⟨?_, ?_⟩ <;> omega), ?_⟩
            repeat (first | exact off_refl _ _ | exact off_base _ _ _ | refine off_upd (by decide) ?_ | refine off_updL rfl ?_ | refine off_mix rfl ?_)
          · replace hg25 : _ = true := hg25
            refine guard_no rfl hg25 ?_
            refine guard_no rfl hg25 ?_
            refine guard_no rfl hg25 ?_
            refine guard_no rfl hg25 ?_
            refine guard_no rfl hg25 ?_
            refine op_pure (pv_pickT rfl hg25 (v := .bool _) rfl) ?_
            refine ⟨(), ⟨(boolE (by first | contradiction | (unfold headB; simp only [*, Bool.or_true, Bool.true_or, Bool.false_or, Bool.or_false, Bool.not_true, Bool.not_false]))), trivial⟩, rfl, rfl, (Ext.trans E2 E20), fun h3 E3 => by first | trivial | omega | (refine ⟨?_, ?_⟩ <;> omega), ?_⟩
            repeat (first | exact off_refl _ _ | exact off_base _ _ _ | refine off_upd (by decide) ?_ | refine off_updL rfl ?_ | refine off_mix rfl ?_)
      · replace hg19 : _ = true := hg19
        refine guard_no rfl hg19 ?_
        refine guard_no rfl hg19 ?_
        refine guard_no rfl hg19 ?_
        refine op_pure (pv_pickT rfl hg19 (v := .bool _) rfl) ?_
        refine op_pure (pv_move (v := .bool _) rfl) ?_
        refine guard_case rfl (fun hg27 => ?_) (fun hg27 => ?_)
        · replace hg27 : _ = false := hg27
          refine op_pure (pv_fieldAddr rfl rfl rfl rfl 3 rfl) ?_
          refine guard_yes rfl hg27 ?_
          refine op_loadP 0 (v := .int .i64 _) rfl rfl rfl rfl ?_
          refine guard_yes rfl hg27 ?_
          refine op_fn (caps := []) (vs := [.int .i64 _, .int .i64 _, .int .i64 _]) rfl rfl rfl (within_ok _ _ _ h2) ?_
          rintro _ h28 E28 rfl
          refine guard_yes rfl hg27 ?_
          refine op_pure (pv_of (v := .bool _) rfl) ?_
          refine op_pure (pv_pickF rfl hg27 (v := .bool _) rfl) ?_
          refine op_pure (pv_move (v := .bool _) rfl) ?_
          refine guard_case rfl (fun hg29 => ?_) (fun hg29 => ?_)
          · replace hg29 : _ = false := hg29
            refine op_pure (pv_fieldAddr rfl rfl rfl rfl 4 rfl) ?_
            refine guard_yes rfl hg29 ?_
            refine op_loadP 0 (v := .int .i64 _) rfl rfl rfl rfl ?_
            refine guard_yes rfl hg29 ?_
            refine op_pure (pv_fieldAddr rfl rfl rfl rfl 3 rfl) ?_
            refine guard_yes rfl hg29 ?_
            refine op_loadP 0 (v := .int .i64 _) rfl rfl rfl rfl ?_
            refine guard_yes rfl hg29 ?_
            refine op_fn (caps := []) (vs := [.int .i64 _, .int .i64 _, .int .i64 _]) rfl rfl rfl (within_ok _ _ _ h28) ?_
            rintro _ h30 E30 rfl
            refine guard_yes rfl hg29 ?_
            refine op_pure (pv_of (v := .bool _) rfl) ?_
            refine op_pure (pv_pickF rfl hg29 (v := .bool _) rfl) ?_
            refine ⟨(), ⟨(boolE (by first | contradiction | (unfold headB; simp only [*, Bool.or_true, Bool.true_or, Bool.false_or, Bool.or_false, Bool.not_true, Bool.not_false]))), trivial⟩, rfl, rfl, (Ext.trans (Ext.trans E2 E28) E30), fun h3 E3 => by first | trivial | omega | (refine ⟨?_, ?_⟩ <;> omega), ?_⟩
            repeat (first | exact off_refl _ _ | exact off_base _ _ _ | refine off_upd (by decide) ?_ | refine off_updL rfl ?_ | refine off_mix rfl ?_)
          · replace hg29 : _ = true := hg29
            refine guard_no rfl hg29 ?_
            refine guard_no rfl hg29 ?_
            refine guard_no rfl hg29 ?_
            refine guard_no rfl hg29 ?_
            refine guard_no rfl hg29 ?_
            refine op_pure (pv_pickT rfl hg29 (v := .bool _) rfl) ?_
            refine ⟨(), ⟨(boolE (by first | contradiction | (unfold headB; simp only [*, Bool.or_true, Bool.true_or, Bool.false_or, Bool.or_false, Bool.not_true, Bool.not_false]))), trivial⟩, rfl, rfl, (Ext.trans E2 E28), fun h3 E3 => by first | trivial | omega | (refine ⟨?_, ?_⟩ <;> omega), ?_⟩
            repeat (first | exact off_refl _ _ | exact off_base _ _ _ | refine off_upd (by decide) ?_ | refine off_updL rfl ?_ | refine off_mix rfl ?_)
        · replace hg27 : _ = true := hg27
          refine guard_no rfl hg27 ?_
          refine guard_no rfl hg27 ?_
          refine guard_no rfl hg27 ?_
          refine op_pure (pv_pickT rfl hg27 (v := .bool _) rfl) ?_
          refine op_pure (pv_move (v := .bool _) rfl) ?_
          refine guard_case rfl (fun hg31 => ?_) (fun hg31 => ?_)
          · replace hg31 : _ = false := hg31
            refine op_pure (pv_fieldAddr rfl rfl rfl rfl 4 rfl) ?_
            refine guard_yes rfl hg31 ?_
            refine op_loadP 0 (v := .int .i64 _) rfl rfl rfl rfl ?_
            refine guard_yes rfl hg31 ?_
            refine op_pure (pv_fieldAddr rfl rfl rfl rfl 3 rfl) ?_
            refine guard_yes rfl hg31 ?_
            refine op_loadP 0 (v := .int .i64 _) rfl rfl rfl rfl ?_
            refine guard_yes rfl hg31 ?_
            refine op_fn (caps := []) (vs := [.int .i64 _, .int .i64 _, .int .i64 _]) rfl rfl rfl (within_ok _ _ _ h2) ?_
            rintro _ h32 E32 rfl
            refine guard_yes rfl hg31 ?_
            refine op_pure (pv_of (v := .bool _) rfl) ?_
            refine op_pure (pv_pickF rfl hg31 (v := .bool _) rfl) ?_
            refine ⟨(), ⟨(boolE (by first | contradiction | (unfold headB; simp only [*, Bool.or_true, Bool.true_or, Bool.false_or, Bool.or_false, Bool.not_true, Bool.not_false]))), trivial⟩, rfl, rfl, (Ext.trans E2 E32), fun h3 E3 => by first | trivial | omega | (refine ⟨?_, ?_⟩ <;> omega), ?_⟩
            repeat (first | exact off_refl _ _ | exact off_base _ _ _ | refine off_upd (by decide) ?_ | refine off_updL rfl ?_ | refine off_mix rfl ?_)
          · replace hg31 : _ = true := hg31
            refine guard_no rfl hg31 ?_
            refine guard_no rfl hg31 ?_
            refine guard_no rfl hg31 ?_
            refine guard_no rfl hg31 ?_
            refine guard_no rfl hg31 ?_
            refine op_pure (pv_pickT rfl hg31 (v := .bool _) rfl) ?_
            refine ⟨(), ⟨(boolE (by first | contradiction | (unfold headB; simp only [*, Bool.or_true, Bool.true_or, Bool.false_or, Bool.or_false, Bool.not_true, Bool.not_false]))), trivial⟩, rfl, rfl, E2, fun h3 E3 => by first | trivial | omega | (refine ⟨?_, ?_⟩ <;> omega), ?_⟩
            repeat (first | exact off_refl _ _ | exact off_base _ _ _ | refine off_upd (by decide) ?_ | refine off_updL rfl ?_ | refine off_mix rfl ?_)
  · rintro u T1 h_u E_u J_u
    refine goes_norm [_] rfl ?_
    refine xp_cond rfl (fun hh => ?_) (fun hh => ?_)
    · skip
      refine xp_seq ?_
      refine xp_region rfl ?_
      refine op_pure (pv_assign (v := .int .i64 _) rfl) ?_
      refine xp_ret ?_
      refine res_list (vs := [_]) Try.results38 ⟨resV_tmp rfl rfl, trivial⟩ fun V => ?_
      refine ⟨(Ext.trans E_u (ext_wl V)), intE ?_⟩
      unfold chkM
      simp only [headB, Bool.or_eq_true] at hh
      rcases hh with (((hh | hh) | hh) | hh) | hh
      · rw [if_pos hh]
      · by_cases x1 : (!inM m.rods 1 6) = true
        · rw [if_pos x1]
        · rw [if_neg x1, if_pos hh]
      · by_cases x1 : (!inM m.rods 1 6) = true
        · rw [if_pos x1]
        · by_cases x2 : (!inM m.levers 1 6) = true
          · rw [if_neg x1, if_pos x2]
          · rw [if_neg x1, if_neg x2, if_pos hh]
      · by_cases x1 : (!inM m.rods 1 6) = true
        · rw [if_pos x1]
        · by_cases x2 : (!inM m.levers 1 6) = true
          · rw [if_neg x1, if_pos x2]
          · by_cases x3 : (!inM m.regs 0 2) = true
            · rw [if_neg x1, if_neg x2, if_pos x3]
            · rw [if_neg x1, if_neg x2, if_neg x3, if_pos hh]
      · by_cases x1 : (!inM m.rods 1 6) = true
        · rw [if_pos x1]
        · by_cases x2 : (!inM m.levers 1 6) = true
          · rw [if_neg x1, if_pos x2]
          · by_cases x3 : (!inM m.regs 0 2) = true
            · rw [if_neg x1, if_neg x2, if_pos x3]
            · by_cases x4 : (!inM m.travel 1 12) = true
              · rw [if_neg x1, if_neg x2, if_neg x3, if_pos x4]
              · rw [if_neg x1, if_neg x2, if_neg x3, if_neg x4, if_pos hh]
    · skip
      simp only [headB, Bool.or_eq_false_iff, Bool.not_eq_false'] at hh
      obtain ⟨⟨⟨⟨e1, e2⟩, e3⟩, e4⟩, e5⟩ := hh
      have C1 := chk_head e1 e2 e3 e4 e5
      have b1 := inM_iff.1 e1
      have b2 := inM_iff.1 e2
      have b3 := inM_iff.1 e3
      have b4 := inM_iff.1 e4
      have b5 := inM_iff.1 e5
      refine xp_skip ?_
      refine xp_seq ?_
      refine xp_seq ?_
      refine xp_region rfl ?_
      refine op_pure (pv_fieldAddr rfl rfl rfl rfl 5 rfl) ?_
      refine op_loadP 0 (v := .slice _ _ _) rfl rfl rfl rfl ?_
      refine op_pure (pv_len rfl rfl) ?_
      refine op_pure (pv_of (v := .bool _) rfl) ?_
      refine xp_cond rfl (fun hb => ?_) (fun hb => ?_)
      · skip
        refine xp_seq ?_
        refine xp_region rfl ?_
        refine op_pure (pv_assign (v := .int .i64 _) rfl) ?_
        refine xp_ret ?_
        refine res_list (vs := [_]) Try.results38 ⟨resV_tmp rfl rfl, trivial⟩ fun V => ?_
        have hb' : 4 < m.buttons.length := by simp at hb; omega
        exact ⟨(Ext.trans E_u (ext_wl V)), intE (by rw [C1, chk1, if_pos hb'])⟩
      · skip
        have hb' : ¬ 4 < m.buttons.length := by simp at hb; omega
        refine xp_skip ?_
        refine xp_seq ?_
        refine xp_seq ?_
        refine xp_region rfl ?_
        refine op_pure (pv_fieldAddr rfl rfl rfl rfl 5 rfl) ?_
        refine op_loadP 0 (v := .slice _ _ _) rfl rfl rfl rfl ?_
        refine op_pure (pv_len rfl rfl) ?_
        refine op_pure (pv_move (v := .int .i64 _) rfl) ?_
        refine xp_block ?_
        refine xp_loopB [2, 4, 49, 50, 51, 52, 53, 54, 55, 56, 57, 58, 59] 1 (α := Nat) (fun k => [(49, .int .i64 k)]) (fun k => _) (fun k h_k => k ≤ m.buttons.length ∧ firstErr (checkButtonM m) (m.buttons.take k) = 0) (fun k => m.buttons.length - k) (0) ⟨rfl, trivial⟩ (rfl) (⟨Nat.zero_le _, rfl⟩) ?_
        rintro k T33 h_k E_k J_k
        refine goes_norm [_] rfl ?_
        obtain ⟨K1, K2⟩ := J_k
        refine xp_seq ?_
        refine xp_region rfl ?_
        refine op_pure (pv_of (v := .bool _) rfl) ?_
        refine xp_seq ?_
        refine xp_cond rfl (fun hk => ?_) (fun hk => ?_)
        · skip
          have hkl : k < m.buttons.length := ltI hk
          obtain ⟨g, off, hA, hc⟩ := (R.b.ext (Ext.trans E_u E_k)).at (by omega) hkl
          refine xp_skip ?_
          refine xp_seq ?_
          refine xp_block ?_
          refine xp_seq ?_
          refine xp_region rfl ?_
          refine op_pure (pv_indexE rfl hA rfl rfl rfl (by omega) (by omega)) ?_
          refine op_load (v := .int .i64 _) rfl rfl ((hc) 0 _ rfl) ?_
          refine op_pure (pv_assign (v := .int .i64 _) rfl) ?_
          refine xp_seq ?_
          refine xp_region rfl ?_
          refine op_pure (pv_move (v := .int .i64 _) rfl) ?_
          refine op_pure (pv_fieldAddr rfl rfl rfl rfl 0 rfl) ?_
          refine op_loadP 0 (v := .int .i64 _) rfl rfl rfl rfl ?_
          refine op_pure (pv_arith rfl (by omega)) ?_
          refine op_fn (caps := []) (vs := [.int .i64 _, .int .i64 _, .int .i64 _]) rfl rfl rfl (within_ok _ _ _ h_k) ?_
          rintro _ h1 E1 rfl
          refine op_pure (pv_of (v := .bool _) rfl) ?_
          refine xp_cond rfl (fun hw => ?_) (fun hw => ?_)
          · skip
            have ew : checkButtonM m m.buttons[k] = 3 := by rw [checkButtonM, if_pos hw]
            refine xp_seq ?_
            refine xp_region rfl ?_
            refine op_pure (pv_assign (v := .int .i64 _) rfl) ?_
            refine xp_ret ?_
            refine res_list (vs := [_]) Try.results38 ⟨resV_tmp rfl rfl, trivial⟩ fun V => ?_
            refine ⟨(Ext.trans (Ext.trans (Ext.trans E_u E_k) E1) (ext_wl V)), intE ?_⟩
            have ef := firstErr_stop hkl K2 (by rw [ew]; decide)
            rw [ew] at ef
            rw [C1, chk1, if_neg hb', if_pos (by rw [ef]; decide), ef]
          · skip
            refine xp_skip ?_
            refine xp_region rfl ?_
            refine op_pure (pv_arith rfl (by omega)) ?_
            refine op_pure (pv_move (v := .int .i64 _) rfl) ?_
            refine ⟨k + 1, ⟨rfl, trivial⟩, rfl, rfl, (Ext.trans E_k E1), fun h3 E3 => ⟨hkl, firstErr_go hkl K2 (by rw [checkButtonM, if_neg (by simpa using hw)])⟩, by first | omega | (dsimp only; omega), ?_⟩
            repeat (first | exact off_base _ _ _ | refine off_upd (by decide) ?_ | refine off_updL rfl ?_ | refine off_mix rfl ?_)
        · skip
          have hke : k = m.buttons.length := by have := geI hk; omega
          subst hke
          rw [List.take_length] at K2
          have C2 : chkM m = chk2 m := by rw [C1, chk1, if_neg hb', if_neg (by simp [K2])]
          refine xp_exit ?_
          refine xp_seq ?_
          refine xp_seq ?_
          refine xp_region rfl ?_
          refine op_pure (pv_fieldAddr rfl rfl rfl rfl 6 rfl) ?_
          refine op_loadP 0 (v := .slice _ _ _) rfl rfl rfl rfl ?_
          refine op_pure (pv_len rfl rfl) ?_
          refine op_pure (pv_of (v := .bool _) rfl) ?_
          refine xp_cond rfl (fun hq => ?_) (fun hq => ?_)
          · skip
            refine xp_seq ?_
            refine xp_region rfl ?_
            refine op_pure (pv_assign (v := .int .i64 _) rfl) ?_
            refine xp_ret ?_
            refine res_list (vs := [_]) Try.results38 ⟨resV_tmp rfl rfl, trivial⟩ fun V => ?_
            have hq' : 8 < m.pins.length := by simp at hq; omega
            exact ⟨(Ext.trans (Ext.trans E_u E_k) (ext_wl V)), intE (by rw [C2, chk2, if_pos hq'])⟩
          · skip
            have hq' : ¬ 8 < m.pins.length := by simp at hq; omega
            refine xp_skip ?_
            refine xp_seq ?_
            refine xp_seq ?_
            refine xp_region rfl ?_
            refine op_pure (pv_fieldAddr rfl rfl rfl rfl 6 rfl) ?_
            refine op_loadP 0 (v := .slice _ _ _) rfl rfl rfl rfl ?_
            refine op_pure (pv_len rfl rfl) ?_
            refine op_pure (pv_move (v := .int .i64 _) rfl) ?_
            refine xp_block ?_
            refine xp_loopB [2, 6, 67, 68, 69, 70, 71, 72, 73, 74, 75, 76, 77, 78, 79, 80, 81, 82, 83, 84, 85, 86, 87, 88, 89, 90, 91, 92, 93, 94, 95] 1 (α := Nat) (fun j => [(67, .int .i64 j)]) (fun j => _) (fun j h_j => j ≤ m.pins.length ∧ firstErr (checkPinM m) (m.pins.take j) = 0) (fun j => m.pins.length - j) (0) ⟨rfl, trivial⟩ (rfl) (⟨Nat.zero_le _, rfl⟩) ?_
            rintro j T34 h_j E_j J_j
            refine goes_norm [_] rfl ?_
            obtain ⟨P1, P2⟩ := J_j
            refine xp_seq ?_
            refine xp_region rfl ?_
            refine op_pure (pv_of (v := .bool _) rfl) ?_
            refine xp_seq ?_
            refine xp_cond rfl (fun hk2 => ?_) (fun hk2 => ?_)
            · skip
              have hkl : j < m.pins.length := ltI hk2
              obtain ⟨g, off, hA, hc⟩ := (R.q.ext (Ext.trans (Ext.trans E_u E_k) E_j)).at (by omega) hkl
              refine xp_skip ?_
              refine xp_seq ?_
              refine xp_block ?_
              refine xp_seq ?_
              refine xp_region rfl ?_
              refine op_pure (pv_indexE rfl hA rfl rfl rfl (by omega) (by omega)) ?_
              refine op_loadA rfl rfl rfl rfl (hc) ?_
              refine op_alloc (cs := [_, _, _]) rfl rfl fun b6 hb6 => ?_
              refine wp_norm [_, _] rfl ?_
              refine op_storeP 1 (v := .agg #[.int .i64 _, .int .i64 _, .int .i64 _]) (vs := [_, _, _]) (c' := [_, _, _]) rfl rfl rfl rfl rfl rfl rfl rfl rfl ?_
              refine wp_norm [_, _] rfl ?_
              refine xp_block ?_
              refine xp_cutB [71, 72, 73, 74, 75, 76, 77, 78, 79, 80, 81, 82, 83, 84, 85, 86, 87] 2 (α := Unit) (fun u2 => [(71, .bool (!inM m.pins[j].rod 0 (m.rods - 1) || !inM m.pins[j].lever 0 (m.levers - 1)))]) (fun u2 L => L) (fun u2 h_u2 => True) ?_ ?_
              · skip
                refine xp_region rfl ?_
                refine op_pure (pv_fieldAddr rfl rfl rfl rfl 0 rfl) ?_
                refine op_loadP 1 (v := .int .i64 _) rfl rfl rfl rfl ?_
                refine op_pure (pv_fieldAddr rfl rfl rfl rfl 0 rfl) ?_
                refine op_loadP 0 (v := .int .i64 _) rfl rfl rfl rfl ?_
                refine op_pure (pv_arith rfl (by omega)) ?_
                refine op_fn (caps := []) (vs := [.int .i64 _, .int .i64 _, .int .i64 _]) rfl rfl rfl (within_ok _ _ _ h_j) ?_
                rintro _ h36 E36 rfl
                refine op_pure (pv_of (v := .bool _) rfl) ?_
                refine op_pure (pv_move (v := .bool _) rfl) ?_
                refine guard_case rfl (fun hg37 => ?_) (fun hg37 => ?_)
                · replace hg37 : _ = false := hg37
                  refine op_pure (pv_fieldAddr rfl rfl rfl rfl 1 rfl) ?_
                  refine guard_yes rfl hg37 ?_
                  refine op_loadP 1 (v := .int .i64 _) rfl rfl rfl rfl ?_
                  refine guard_yes rfl hg37 ?_
                  refine op_pure (pv_fieldAddr rfl rfl rfl rfl 1 rfl) ?_
                  refine guard_yes rfl hg37 ?_
                  refine op_loadP 0 (v := .int .i64 _) rfl rfl rfl rfl ?_
                  refine guard_yes rfl hg37 ?_
                  refine op_pure (pv_arith rfl (by omega)) ?_
                  refine guard_yes rfl hg37 ?_
                  refine op_fn (caps := []) (vs := [.int .i64 _, .int .i64 _, .int .i64 _]) rfl rfl rfl (within_ok _ _ _ h36) ?_
                  rintro _ h38 E38 rfl
                  refine guard_yes rfl hg37 ?_
                  refine op_pure (pv_of (v := .bool _) rfl) ?_
                  refine op_pure (pv_pickF rfl hg37 (v := .bool _) rfl) ?_
                  refine op_pure (pv_assign (v := .bool _) rfl) ?_
                  refine ⟨(), ⟨(boolE (by first | contradiction | (simp only [*, Bool.or_true, Bool.true_or, Bool.false_or, Bool.or_false, Bool.not_true, Bool.not_false]))), trivial⟩, rfl, rfl, (Ext.trans E36 E38), fun h3 E3 => by first | trivial | omega | (refine ⟨?_, ?_⟩ <;> omega), ?_⟩
                  repeat (first | exact off_refl _ _ | exact off_base _ _ _ | refine off_upd (by decide) ?_ | refine off_updL rfl ?_ | refine off_mix rfl ?_)
                · replace hg37 : _ = true := hg37
                  refine guard_no rfl hg37 ?_
                  refine guard_no rfl hg37 ?_
                  refine guard_no rfl hg37 ?_
                  refine guard_no rfl hg37 ?_
                  refine guard_no rfl hg37 ?_
                  refine guard_no rfl hg37 ?_
                  refine op_pure (pv_pickT rfl hg37 (v := .bool _) rfl) ?_
                  refine op_pure (pv_assign (v := .bool _) rfl) ?_
                  refine ⟨(), ⟨(boolE (by first | contradiction | (simp only [*, Bool.or_true, Bool.true_or, Bool.false_or, Bool.or_false, Bool.not_true, Bool.not_false]))), trivial⟩, rfl, rfl, E36, fun h3 E3 => by first | trivial | omega | (refine ⟨?_, ?_⟩ <;> omega), ?_⟩
                  repeat (first | exact off_refl _ _ | exact off_base _ _ _ | refine off_upd (by decide) ?_ | refine off_updL rfl ?_ | refine off_mix rfl ?_)
              · rintro u2 T35 h_u2 E_u2 J_u2
                refine goes_norm [_, _] rfl ?_
                refine xp_cond rfl (fun hw => ?_) (fun hw => ?_)
                · skip
                  have ew : checkPinM m m.pins[j] = 3 := by
                    unfold checkPinM
                    rw [Bool.or_eq_true] at hw
                    rcases hw with hw | hw
                    · rw [if_pos hw]
                    · by_cases x1 : (!inM m.pins[j].rod 0 (m.rods - 1)) = true
                      · rw [if_pos x1]
                      · rw [if_neg x1, if_pos hw]
                  refine xp_seq ?_
                  refine xp_region rfl ?_
                  refine op_pure (pv_assign (v := .int .i64 _) rfl) ?_
                  refine xp_ret ?_
                  refine res_list (vs := [_]) Try.results38 ⟨resV_tmp rfl rfl, trivial⟩ fun V => ?_
                  refine ⟨(Ext.trans (Ext.trans (Ext.trans (Ext.trans E_u E_k) E_j) E_u2) (ext_wl V)), intE ?_⟩
                  have ef := firstErr_stop hkl P2 (by rw [ew]; decide)
                  rw [ew] at ef
                  rw [C2, chk2, if_neg hq', if_pos (by rw [ef]; decide), ef]
                · skip
                  rw [Bool.or_eq_false_iff] at hw
                  refine xp_seq ?_
                  refine xp_region rfl ?_
                  refine op_pure (pv_fieldAddr rfl rfl rfl rfl 2 rfl) ?_
                  refine op_loadP 1 (v := .int .i64 _) rfl rfl rfl rfl ?_
                  refine op_pure (pv_fieldAddr rfl rfl rfl rfl 3 rfl) ?_
                  refine op_loadP 0 (v := .int .i64 _) rfl rfl rfl rfl ?_
                  refine op_fn (caps := []) (vs := [.int .i64 _, .int .i64 _, .int .i64 _]) rfl rfl rfl (within_ok _ _ _ h_u2) ?_
                  rintro _ h1 E1 rfl
                  refine op_pure (pv_of (v := .bool _) rfl) ?_
                  refine op_pure (pv_assign (v := .bool _) rfl) ?_
                  refine xp_cond rfl (fun hw2 => ?_) (fun hw2 => ?_)
                  · skip
                    have ew : checkPinM m m.pins[j] = 1 := by rw [checkPinM, if_neg (by simp [hw.1]), if_neg (by simp [hw.2]), if_pos hw2]
                    refine xp_seq ?_
                    refine xp_region rfl ?_
                    refine op_pure (pv_assign (v := .int .i64 _) rfl) ?_
                    refine xp_ret ?_
                    refine res_list (vs := [_]) Try.results38 ⟨resV_tmp rfl rfl, trivial⟩ fun V => ?_
                    refine ⟨(Ext.trans (Ext.trans (Ext.trans (Ext.trans (Ext.trans E_u E_k) E_j) E_u2) E1) (ext_wl V)), intE ?_⟩
                    have ef := firstErr_stop hkl P2 (by rw [ew]; decide)
                    rw [ew] at ef
                    rw [C2, chk2, if_neg hq', if_pos (by rw [ef]; decide), ef]
                  · skip
                    refine xp_skip ?_
                    refine xp_region rfl ?_
                    refine op_pure (pv_arith rfl (by omega)) ?_
                    refine op_pure (pv_move (v := .int .i64 _) rfl) ?_
                    refine ⟨j + 1, ⟨rfl, trivial⟩, rfl, rfl, (Ext.trans (Ext.trans E_j E_u2) E1), fun h3 E3 => ⟨hkl, firstErr_go hkl P2 (by rw [checkPinM, if_neg (by simp [hw.1]), if_neg (by simp [hw.2]), if_neg (by simp [hw2])])⟩, by first | omega | (dsimp only; omega), ?_⟩
                    repeat (first | exact off_base _ _ _ | refine off_upd (by decide) ?_ | refine off_updL rfl ?_ | refine off_mix rfl ?_)
            · skip
              have hke : j = m.pins.length := by have := geI hk2; omega
              subst hke
              rw [List.take_length] at P2
              have C3 : chkM m = chk3 m := by rw [C2, chk2, if_neg hq', if_neg (by simp [P2])]
              refine xp_exit ?_
              refine xp_seq ?_
              refine xp_seq ?_
              refine xp_region rfl ?_
              refine op_pure (pv_fieldAddr rfl rfl rfl rfl 7 rfl) ?_
              refine op_loadP 0 (v := .slice _ _ _) rfl rfl rfl rfl ?_
              refine op_pure (pv_len rfl rfl) ?_
              refine op_pure (pv_of (v := .bool _) rfl) ?_
              refine xp_cond rfl (fun hl => ?_) (fun hl => ?_)
              · skip
                refine xp_seq ?_
                refine xp_region rfl ?_
                refine op_pure (pv_assign (v := .int .i64 _) rfl) ?_
                refine xp_ret ?_
                refine res_list (vs := [_]) Try.results38 ⟨resV_tmp rfl rfl, trivial⟩ fun V => ?_
                have hl' : 4 < m.links.length := by simp at hl; omega
                exact ⟨(Ext.trans (Ext.trans (Ext.trans E_u E_k) E_j) (ext_wl V)), intE (by rw [C3, chk3, if_pos hl'])⟩
              · skip
                have hl' : ¬ 4 < m.links.length := by simp at hl; omega
                refine xp_skip ?_
                refine xp_seq ?_
                refine xp_seq ?_
                refine xp_region rfl ?_
                refine op_pure (pv_fieldAddr rfl rfl rfl rfl 7 rfl) ?_
                refine op_loadP 0 (v := .slice _ _ _) rfl rfl rfl rfl ?_
                refine op_pure (pv_len rfl rfl) ?_
                refine op_pure (pv_move (v := .int .i64 _) rfl) ?_
                refine xp_block ?_
                refine xp_loopB [2, 8, 9, 103, 104, 105, 106, 107, 108, 109, 110, 111, 112, 113] 1 (α := Nat) (fun i => [(103, .int .i64 i)]) (fun i => _) (fun i h_i => i ≤ m.links.length ∧ firstErr (checkLinkM m) (m.links.take i) = 0) (fun i => m.links.length - i) (0) ⟨rfl, trivial⟩ (rfl) (⟨Nat.zero_le _, rfl⟩) ?_
                rintro i T39 h_i E_i J_i
                refine goes_norm [_] rfl ?_
                obtain ⟨L1, L2⟩ := J_i
                refine xp_seq ?_
                refine xp_region rfl ?_
                refine op_pure (pv_of (v := .bool _) rfl) ?_
                refine xp_seq ?_
                refine xp_cond rfl (fun hk3 => ?_) (fun hk3 => ?_)
                · skip
                  have hkl : i < m.links.length := ltI hk3
                  obtain ⟨g, off, hA, hc⟩ := (R.l.ext (Ext.trans (Ext.trans (Ext.trans E_u E_k) E_j) E_i)).at (by omega) hkl
                  refine xp_skip ?_
                  refine xp_seq ?_
                  refine xp_block ?_
                  refine xp_seq ?_
                  refine xp_region rfl ?_
                  refine op_pure (pv_indexE rfl hA rfl rfl rfl (by omega) (by omega)) ?_
                  refine op_loadA rfl rfl rfl rfl (hc) ?_
                  refine op_alloc (cs := [_, _, _, _]) rfl rfl fun b8 hb8 => ?_
                  refine wp_norm [_, _] rfl ?_
                  refine op_storeP 1 (v := .agg #[.int .i64 _, .int .i64 _, .int .i64 _, .int .i64 _]) (vs := [_, _, _, _]) (c' := [_, _, _, _]) rfl rfl rfl rfl rfl rfl rfl rfl rfl ?_
                  refine wp_norm [_, _] rfl ?_
                  refine xp_seq ?_
                  refine xp_region rfl ?_
                  refine op_loadPA 0 (vs := [.int .i64 _, .int .i64 _, .int .i64 _, .int .i64 _, .int .i64 _, .slice _ _ _, .slice _ _ _, .slice _ _ _, .slice _ _ _]) rfl rfl rfl rfl rfl ?_
                  refine op_loadPA 1 (vs := [.int .i64 _, .int .i64 _, .int .i64 _, .int .i64 _]) rfl rfl rfl rfl rfl ?_
                  refine op_fn (caps := []) (vs := [.agg #[.int .i64 _, .int .i64 _, .int .i64 _, .int .i64 _, .int .i64 _, .slice _ _ _, .slice _ _ _, .slice _ _ _, .slice _ _ _], .agg #[.int .i64 _, .int .i64 _, .int .i64 _, .int .i64 _]]) rfl rfl rfl (checkLink_ok m m.links[i] AB AQ AL AW cB cQ cL cW h_i (by omega) (by omega)) ?_
                  rintro _ h1 E1 rfl
                  refine op_pure (pv_assign (v := .int .i64 _) rfl) ?_
                  refine xp_seq ?_
                  refine xp_region rfl ?_
                  refine op_pure (pv_move (v := .int .i64 _) rfl) ?_
                  refine op_pure (pv_of (v := .bool _) rfl) ?_
                  refine xp_cond rfl (fun hw => ?_) (fun hw => ?_)
                  · skip
                    have ew : checkLinkM m m.links[i] ≠ 0 := by simpa using hw
                    refine xp_seq ?_
                    refine xp_region rfl ?_
                    refine op_pure (pv_move (v := .int .i64 _) rfl) ?_
                    refine op_pure (pv_assign (v := .int .i64 _) rfl) ?_
                    refine xp_ret ?_
                    refine res_list (vs := [_]) Try.results38 ⟨resV_tmp rfl rfl, trivial⟩ fun V => ?_
                    refine ⟨(Ext.trans (Ext.trans (Ext.trans (Ext.trans (Ext.trans E_u E_k) E_j) E_i) E1) (ext_wl V)), intE ?_⟩
                    have ef := firstErr_stop hkl L2 ew
                    rw [C3, chk3, if_neg hl', if_pos (by rw [ef]; exact ew), ef]
                  · skip
                    have ew : checkLinkM m m.links[i] = 0 := by simpa using hw
                    refine xp_skip ?_
                    refine xp_region rfl ?_
                    refine op_pure (pv_arith rfl (by omega)) ?_
                    refine op_pure (pv_move (v := .int .i64 _) rfl) ?_
                    refine ⟨i + 1, ⟨rfl, trivial⟩, rfl, rfl, (Ext.trans E_i E1), fun h3 E3 => ⟨hkl, firstErr_go hkl L2 ew⟩, by first | omega | (dsimp only; omega), ?_⟩
                    repeat (first | exact off_base _ _ _ | refine off_upd (by decide) ?_ | refine off_updL rfl ?_ | refine off_mix rfl ?_)
                · skip
                  have hke : i = m.links.length := by have := geI hk3; omega
                  subst hke
                  rw [List.take_length] at L2
                  have C4 : chkM m = chk4 m := by rw [C3, chk3, if_neg hl', if_neg (by simp [L2])]
                  refine xp_exit ?_
                  refine xp_seq ?_
                  refine xp_seq ?_
                  refine xp_region rfl ?_
                  refine op_pure (pv_fieldAddr rfl rfl rfl rfl 8 rfl) ?_
                  refine op_loadP 0 (v := .slice _ _ _) rfl rfl rfl rfl ?_
                  refine op_pure (pv_len rfl rfl) ?_
                  refine op_pure (pv_fieldAddr rfl rfl rfl rfl 1 rfl) ?_
                  refine op_loadP 0 (v := .int .i64 _) rfl rfl rfl rfl ?_
                  refine op_pure (pv_of (v := .bool _) rfl) ?_
                  refine xp_cond rfl (fun hw => ?_) (fun hw => ?_)
                  · skip
                    refine xp_seq ?_
                    refine xp_region rfl ?_
                    refine op_pure (pv_assign (v := .int .i64 _) rfl) ?_
                    refine xp_ret ?_
                    refine res_list (vs := [_]) Try.results38 ⟨resV_tmp rfl rfl, trivial⟩ fun V => ?_
                    have hw' : ¬ (m.weights.length : Int) = m.levers := by simpa using hw
                    exact ⟨(Ext.trans (Ext.trans (Ext.trans (Ext.trans E_u E_k) E_j) E_i) (ext_wl V)), intE (by rw [C4, chk4, if_pos hw'])⟩
                  · skip
                    have hw' : (m.weights.length : Int) = m.levers := by simpa using hw
                    refine xp_skip ?_
                    refine xp_seq ?_
                    refine xp_seq ?_
                    refine xp_region rfl ?_
                    refine op_pure (pv_fieldAddr rfl rfl rfl rfl 8 rfl) ?_
                    refine op_loadP 0 (v := .slice _ _ _) rfl rfl rfl rfl ?_
                    refine op_pure (pv_len rfl rfl) ?_
                    refine op_pure (pv_move (v := .int .i64 _) rfl) ?_
                    refine xp_block ?_
                    refine xp_loopB [2, 11, 123, 124, 125, 126, 127, 128, 129, 130] 1 (α := Nat) (fun o => [(123, .int .i64 o)]) (fun o => _) (fun o h_o => o ≤ m.weights.length ∧ firstErr checkWeightM (m.weights.take o) = 0) (fun o => m.weights.length - o) (0) ⟨rfl, trivial⟩ (rfl) (⟨Nat.zero_le _, rfl⟩) ?_
                    rintro o T40 h_o E_o J_o
                    refine goes_norm [_] rfl ?_
                    obtain ⟨W1, W2⟩ := J_o
                    refine xp_seq ?_
                    refine xp_region rfl ?_
                    refine op_pure (pv_of (v := .bool _) rfl) ?_
                    refine xp_seq ?_
                    refine xp_cond rfl (fun hk4 => ?_) (fun hk4 => ?_)
                    · skip
                      have hkl : o < m.weights.length := ltI hk4
                      obtain ⟨g, off, hA, hc⟩ := (R.w.ext (Ext.trans (Ext.trans (Ext.trans (Ext.trans E_u E_k) E_j) E_i) E_o)).at (by omega) hkl
                      refine xp_skip ?_
                      refine xp_seq ?_
                      refine xp_block ?_
                      refine xp_seq ?_
                      refine xp_region rfl ?_
                      refine op_pure (pv_indexE rfl hA rfl rfl rfl (by omega) (by omega)) ?_
                      refine op_load (v := .int .i64 _) rfl rfl ((hc) 0 _ rfl) ?_
                      refine op_pure (pv_assign (v := .int .i64 _) rfl) ?_
                      refine xp_seq ?_
                      refine xp_region rfl ?_
                      refine op_pure (pv_move (v := .int .i64 _) rfl) ?_
                      refine op_fn (caps := []) (vs := [.int .i64 _, .int .i64 _, .int .i64 _]) rfl rfl rfl (within_ok _ _ _ h_o) ?_
                      rintro _ h1 E1 rfl
                      refine op_pure (pv_of (v := .bool _) rfl) ?_
                      refine xp_cond rfl (fun hz => ?_) (fun hz => ?_)
                      · skip
                        have ew : checkWeightM m.weights[o] = 1 := by rw [checkWeightM, if_pos hz]
                        refine xp_seq ?_
                        refine xp_region rfl ?_
                        refine op_pure (pv_assign (v := .int .i64 _) rfl) ?_
                        refine xp_ret ?_
                        refine res_list (vs := [_]) Try.results38 ⟨resV_tmp rfl rfl, trivial⟩ fun V => ?_
                        refine ⟨(Ext.trans (Ext.trans (Ext.trans (Ext.trans (Ext.trans (Ext.trans E_u E_k) E_j) E_i) E_o) E1) (ext_wl V)), intE ?_⟩
                        have ef := firstErr_stop hkl W2 (by rw [ew]; decide)
                        rw [ew] at ef
                        rw [C4, chk4, if_neg (by simpa using hw'), ef]
                      · skip
                        refine xp_skip ?_
                        refine xp_region rfl ?_
                        refine op_pure (pv_arith rfl (by omega)) ?_
                        refine op_pure (pv_move (v := .int .i64 _) rfl) ?_
                        refine ⟨o + 1, ⟨rfl, trivial⟩, rfl, rfl, (Ext.trans E_o E1), fun h3 E3 => ⟨hkl, firstErr_go hkl W2 (by rw [checkWeightM, if_neg (by simpa using hz)])⟩, by first | omega | (dsimp only; omega), ?_⟩
                        repeat (first | exact off_base _ _ _ | refine off_upd (by decide) ?_ | refine off_updL rfl ?_ | refine off_mix rfl ?_)
                    · skip
                      have hke : o = m.weights.length := by have := geI hk4; omega
                      subst hke
                      rw [List.take_length] at W2
                      refine xp_exit ?_
                      refine xp_seq ?_
                      refine xp_region rfl ?_
                      refine op_pure (pv_assign (v := .int .i64 _) rfl) ?_
                      refine xp_ret ?_
                      refine res_list (vs := [_]) Try.results38 ⟨resV_tmp rfl rfl, trivial⟩ fun V => ?_
                      exact ⟨(Ext.trans (Ext.trans (Ext.trans (Ext.trans (Ext.trans E_u E_k) E_j) E_i) E_o) (ext_wl V)), intE (by rw [C4, chk4, if_neg (by simpa using hw'), W2])⟩
end Go.Proofs.Ytlfbcimcehcomaa
/- Walks of package rod: how far levers are lifted, what sounds. Conditions: as each theorem states. -/
namespace Go.Proofs.Ytlfbcimcehcomaa
open Go Go.HL Go.Proofs Go.Wx Go.Rd
section
variable [Lvl]
set_option maxRecDepth 100000
theorem flat_intC : ∀ l : List Int, l.flatMap intC = tV l
  | [] => rfl
  | x :: l => by rw [List.flatMap_cons, flat_intC l]; rfl
theorem mk_zero (n : Nat) : ((List.range (n * 1)).map fun i => ([.int .i64 0] : List Value)[i % 1]!) = tV (List.replicate n 0) := by
  rw [Nat.mul_one]
  induction n with
  | zero => rfl
  | succ n ih => rw [List.range_succ, List.map_append, ih, List.replicate_succ']; simp [tV, Nat.mod_one]
/-- A list that stands in a private place. -/
theorem slr_own {h : AH} {L : Pv} {i b n c : Nat} {l : List Int} {e : TypeId} (V : Valid h L) (hi : L[i]? = some (some (b, .cells (tV l).toArray e (0, 0)))) (hn : l.length = n) : SlR (wl h L) 1 intC l (.slice (some ⟨b, 0, none⟩) n c) := by
  subst hn
  refine ⟨_, c, rfl, fun _ _ => rfl, ?_⟩
  rw [flat_intC]
  exact rdP V hi
/-- What a walk of how far levers are lifted wants. -/
structure PFit (m : MachP) : Prop where
  lv : 0 ≤ m.levers ∧ m.levers ≤ 6
  pl : m.pins.length ≤ 8
  pin : ∀ p ∈ m.pins, (0 ≤ p.rod ∧ p.rod < 6) ∧ (0 ≤ p.lever ∧ p.lever < m.levers) ∧ (0 ≤ p.lag ∧ p.lag ≤ 12)
theorem pfit_of {m : MachP} (M : MOK m) : PFit m := by
  have := M.levers
  have := M.rods
  have := M.travel
  exact ⟨by omega, M.pl, fun p hp => by have := M.pin p hp; omega⟩
theorem pins_take {t l0 : List Int} {ps : List PinP} {k : Nat} (hk : k < ps.length) : (ps.take (k + 1)).foldl (pinS t) l0 = pinS t ((ps.take k).foldl (pinS t) l0) ps[k] := by
  rw [List.take_add_one, List.getElem?_eq_getElem hk, Option.toList_some, List.foldl_append]
  rfl
theorem pins_len (t l0 : List Int) (ps : List PinP) : (ps.foldl (pinS t) l0).length = l0.length := (foldl_inc (pin_inc t) ps l0).1.symm
def Bd12 (l : List Int) : Prop := ∀ j, 0 ≤ l.getD j 0 ∧ l.getD j 0 ≤ 12
theorem lifted_ok (m : MachP) (F : PFit m) (t : List Int) (ht : t.length = 6) (hb : Bd12 t) (AB AQ AL AW : Option Addr) (cB cQ cL cW : Nat) (h : AH) (R : MachR h AB AQ AL AW m) :
    FnT Try.prog 60 #[machV AB AQ AL AW cB cQ cL cW m, turnsV t] h (fun v h' => SlR h' 1 intC (liftedM m t) v) := by
  have hlv := F.lv
  have hpl := F.pl
  have hT6 : (tV t).length = 6 := by rw [List.length_map, ht]
  have hle : m.levers = ((m.levers.toNat : Nat) : Int) := by omega
  refine call_body Try.func60 rfl Try.ntmps60 rfl ?_
  refine xp_seq ?_
  refine xp_region rfl ?_
  refine op_box (v := machV AB AQ AL AW cB cQ cL cW m) (cs := [_, _, _, _, _, _, _, _, _]) rfl rfl fun b2 hb2 => ?_
  refine wp_norm [_] rfl ?_
  refine op_box (v := turnsV t) (cs := tV t) rfl rfl fun b3 hb3 => ?_
  refine wp_norm [_, _] rfl ?_
  refine op_pure (pv_assign (v := .slice _ _ _) rfl) ?_
  refine xp_seq ?_
  refine xp_region rfl ?_
  refine op_pure (pv_fieldAddr rfl rfl rfl rfl 1 rfl) ?_
  refine op_loadP 0 (v := .int .i64 _) rfl rfl rfl rfl ?_
  refine op_makeSlice (len := m.levers.toNat) (cap := m.levers.toNat) (zc := [.int .i64 0]) rfl rfl hle hle rfl rfl rfl rfl rfl (by omega) (by omega) rfl fun bl hbl => ?_
  refine wp_norm [_, _, _] rfl ?_
  refine wp_norm [_, _, some (bl, .cells (tV (List.replicate m.levers.toNat 0)).toArray 3 (0, 0))] (by rw [← mk_zero]; rfl) ?_
  refine op_pure (pv_assign (v := .slice _ _ _) rfl) ?_
  refine xp_seq ?_
  refine xp_seq ?_
  refine xp_region rfl ?_
  refine op_pure (pv_fieldAddr rfl rfl rfl rfl 6 rfl) ?_
  refine op_loadP 0 (v := .slice _ _ _) rfl rfl rfl rfl ?_
  refine op_pure (pv_len rfl rfl) ?_
  refine op_pure (pv_move (v := .int .i64 _) rfl) ?_
  refine xp_block ?_
  refine xp_loopL [7, 14, 15, 16, 17, 18, 19, 20, 21, 22, 23, 24, 25, 26, 27, 28, 29, 30, 31, 32, 33, 34, 35] 3 (α := Nat) (fun k => [(14, .int .i64 k)]) (fun k L => L.set 2 (some (bl, .cells (tV ((m.pins.take k).foldl (pinS t) (List.replicate m.levers.toNat 0))).toArray 3 (0, 0)))) (fun k h_k => k ≤ m.pins.length) (fun k => m.pins.length - k) (0) ⟨rfl, trivial⟩ (rfl) (Nat.zero_le _) ?_
  rintro k T1 h_k E_k J_k
  refine goes_norm [_, _, _] rfl ?_
  refine xp_seq ?_
  refine xp_region rfl ?_
  refine op_pure (pv_of (v := .bool _) rfl) ?_
  refine xp_seq ?_
  refine xp_cond rfl (fun hk => ?_) (fun hk => ?_)
  · skip
    have hkl : k < m.pins.length := ltI hk
    obtain ⟨g, off, hA, hc⟩ := (R.q.ext E_k).at (by omega) hkl
    obtain ⟨⟨f0, f1⟩, ⟨t0, t1⟩, g0, g1⟩ := F.pin _ (List.getElem_mem hkl)
    obtain ⟨Z, hZ⟩ : ∃ Z, Z = (m.pins.take k).foldl (pinS t) (List.replicate m.levers.toNat 0) := ⟨_, rfl⟩
    have hZl : Z.length = m.levers.toNat := by rw [hZ, pins_len, List.length_replicate]
    have hZV : (tV Z).length = m.levers.toNat := by rw [List.length_map, hZl]
    have hNext := pins_take (t := t) (l0 := List.replicate m.levers.toNat 0) hkl
    have z1 := hb m.pins[k].rod.toNat
    rw [← hZ] at hNext ⊢
    refine xp_skip ?_
    refine xp_seq ?_
    refine xp_block ?_
    refine xp_seq ?_
    refine xp_region rfl ?_
    refine op_pure (pv_indexE rfl hA rfl rfl rfl (by omega) (by omega)) ?_
    refine op_loadA rfl rfl rfl rfl (hc) ?_
    refine op_alloc (cs := [_, _, _]) rfl rfl fun b7 hb7 => ?_
    refine wp_norm [_, _, _, _] rfl ?_
    refine op_storeP 3 (v := .agg #[.int .i64 _, .int .i64 _, .int .i64 _]) (vs := [_, _, _]) (c' := [_, _, _]) rfl rfl rfl rfl rfl rfl rfl rfl rfl ?_
    refine wp_norm [_, _, _, _] rfl ?_
    refine xp_dw [] rfl rfl rfl ?_
    refine dw_pure (i := 0) rfl (by decide +kernel) (pv_move (v := .slice _ _ _) rfl) ?_
    refine dw_pure (i := 1) rfl (by decide +kernel) (pv_fieldAddr rfl rfl rfl rfl 1 rfl) ?_
    refine dw_load (i := 2) rfl (by decide +kernel) ?_
    refine op_loadP 3 (v := .int .i64 _) rfl rfl rfl rfl ?_
    refine dw_pure (i := 3) rfl (by decide +kernel) (pv_move (v := .slice _ _ _) rfl) ?_
    refine dw_pure (i := 4) rfl (by decide +kernel) (pv_fieldAddr rfl rfl rfl rfl 1 rfl) ?_
    refine dw_load (i := 5) rfl (by decide +kernel) ?_
    refine op_loadP 3 (v := .int .i64 _) rfl rfl rfl rfl ?_
    refine dw_pure (i := 6) rfl (by decide +kernel) (pv_index (m := 1) rfl rfl rfl rfl (by omega) (by omega)) ?_
    refine dw_load (i := 7) rfl (by decide +kernel) ?_
    refine op_loadP 2 (v := .int .i64 (Z.getD m.pins[k].lever.toNat 0)) rfl rfl rfl (tV_at (by omega) (by omega)) ?_
    refine dw_pure (i := 8) rfl (by decide +kernel) (pv_fieldAddr rfl rfl rfl rfl 0 rfl) ?_
    refine dw_load (i := 9) rfl (by decide +kernel) ?_
    refine op_loadP 3 (v := .int .i64 _) rfl rfl rfl rfl ?_
    refine dw_pure (i := 10) rfl (by decide +kernel) (pv_indexA (m := 1) rfl rfl rfl rfl (by omega) (by omega)) ?_
    refine dw_load (i := 11) rfl (by decide +kernel) ?_
    refine op_loadP 1 (v := .int .i64 (t.getD m.pins[k].rod.toNat 0)) rfl rfl rfl (tV_at (by omega) (by omega)) ?_
    refine dw_pure (i := 12) rfl (by decide +kernel) (pv_fieldAddr rfl rfl rfl rfl 2 rfl) ?_
    refine dw_load (i := 13) rfl (by decide +kernel) ?_
    refine op_loadP 3 (v := .int .i64 _) rfl rfl rfl rfl ?_
    refine dw_pure (i := 14) rfl (by decide +kernel) (pv_arith rfl (by omega)) ?_
    refine dw_pure (i := 15) rfl (by decide +kernel) (pv_max rfl rfl) ?_
    refine dw_pure (i := 16) rfl (by decide +kernel) (pv_index (m := 1) rfl rfl rfl rfl (by omega) (by omega)) ?_
    refine dw_last (i := 17) rfl (by decide +kernel) (by decide +kernel) ?_
    refine op_storeP 2 (m := 1) (v := .int .i64 _) (vs := [.int .i64 (max (Z.getD m.pins[k].lever.toNat 0) (t.getD m.pins[k].rod.toNat 0 - m.pins[k].lag))]) (c' := tV ((m.pins.take (k + 1)).foldl (pinS t) (List.replicate m.levers.toNat 0))) rfl rfl rfl rfl rfl rfl (Nat.ble_eq_true_of_le (by rw [hZV]; omega)) rfl (by rw [hNext]; exact wrL_rise (by omega) rfl) ?_
    refine dw_norm [_, _, _, _] rfl ?_
    refine dw_end rfl ?_
    refine xp_region rfl ?_
    refine op_pure (pv_arith rfl (by omega)) ?_
    refine op_pure (pv_move (v := .int .i64 _) rfl) ?_
    refine ⟨k + 1, ⟨rfl, trivial⟩, rfl, rfl, E_k, fun h3 E3 => hkl, by first | omega | (dsimp only; omega), ?_⟩
    repeat (first | exact off_base _ _ _ | refine off_upd (by decide) ?_ | refine off_updL rfl ?_ | refine off_mix rfl ?_)
  · skip
    have hke : k = m.pins.length := by have := geI hk; omega
    subst hke
    rw [List.take_length]
    refine xp_exit ?_
    refine xp_seq ?_
    refine xp_region rfl ?_
    refine op_pure (pv_move (v := .slice _ _ _) rfl) ?_
    refine op_pure (pv_assign (v := .slice _ _ _) rfl) ?_
    refine xp_ret ?_
    refine res_list (vs := [_]) Try.results60 ⟨resV_tmp rfl rfl, trivial⟩ fun V => ?_
    exact ⟨(Ext.trans E_k (ext_wl V)), slr_own (l := liftedM m t) V (i := 2) rfl (lifted_len m t)⟩
theorem with_ok (m : Nat) (k' : Int) (k : Nat) (ek : k' = k) (hm : m < 2 ^ 60) (hk : k < 60) (h : AH) : FnT Try.prog 62 #[.int .i64 m, .int .i64 k'] h (fun v _ => v = .int .i64 (withM m k : Nat)) := by
  have h2 : 2 ^ k < 2 ^ 60 := Nat.pow_lt_pow_right (by omega) hk
  refine call_body Try.func62 rfl Try.ntmps62 rfl ?_
  refine xp_seq ?_
  refine xp_region rfl ?_
  refine op_pure (pv_assign (v := .int .i64 _) rfl) ?_
  refine xp_seq ?_
  refine xp_region rfl ?_
  refine op_pure (pv_move (v := .int .i64 _) rfl) ?_
  refine op_pure (pv_move (v := .int .i64 _) rfl) ?_
  refine op_pure (pv_shl 1 k (.inl rfl) rfl rfl rfl ek (by omega) (by omega)) ?_
  refine op_pure (pv_val (i64_or m (1 * 2 ^ k) (by omega) (by omega)) rfl) ?_
  refine op_pure (pv_assign (v := .int .i64 _) rfl) ?_
  refine xp_ret ?_
  refine res_list (vs := [_]) Try.results62 ⟨resV_tmp rfl rfl, trivial⟩ fun V => ?_
  refine ⟨(ext_wl V), ?_⟩
  show Value.int _ _ = _
  rw [withM, Nat.one_mul]
theorem has_ok (m : Nat) (k' : Int) (k : Nat) (ek : k' = k) (hm : m < 2 ^ 60) (hk : k < 60) (h : AH) : FnT Try.prog 63 #[.int .i64 m, .int .i64 k'] h (fun v _ => v = .bool (m.testBit k)) := by
  have h3 : m / 2 ^ k < 2 ^ 60 := Nat.lt_of_le_of_lt (Nat.div_le_self _ _) hm
  refine call_body Try.func63 rfl Try.ntmps63 rfl ?_
  refine xp_seq ?_
  refine xp_region rfl ?_
  refine op_pure (pv_assign (v := .bool _) rfl) ?_
  refine xp_seq ?_
  refine xp_region rfl ?_
  refine op_pure (pv_move (v := .int .i64 _) rfl) ?_
  refine op_pure (pv_move (v := .int .i64 _) rfl) ?_
  refine op_pure (pv_shr m k (.inl rfl) rfl rfl rfl ek (by omega)) ?_
  refine op_pure (pv_val (i64_and (m / 2 ^ k) 1 (by omega) (by omega)) rfl) ?_
  refine op_pure (pv_of (v := .bool _) rfl) ?_
  refine op_pure (pv_assign (v := .bool _) rfl) ?_
  refine xp_ret ?_
  refine res_list (vs := [_]) Try.results63 ⟨resV_tmp rfl rfl, trivial⟩ fun V => ?_
  refine ⟨(ext_wl V), boolE ?_⟩
  rw [testBit_div]
  cases m.testBit k <;> simp
theorem list_ok (m : Nat) (hm : m < 2 ^ 60) (h : AH) : FnT Try.prog 32 #[.int .i64 m] h (fun v h' => SlR h' 1 intC (listN m 6) v) := by
  refine call_body Try.func32 rfl Try.ntmps32 rfl ?_
  refine xp_seq ?_
  refine xp_region rfl ?_
  refine op_pure (pv_assign (v := .slice _ _ _) rfl) ?_
  refine xp_seq ?_
  refine xp_region rfl ?_
  refine op_pure (pv_assign (v := .slice _ _ _) rfl) ?_
  refine xp_seq ?_
  refine xp_seq ?_
  refine xp_region rfl ?_
  refine op_pure (pv_move (v := .int .i64 _) rfl) ?_
  refine xp_block ?_
  refine goes_more ?_
  refine goes_norm [_] rfl ?_
  refine xp_loopB [3, 4, 5, 6, 7, 8, 9, 10, 11, 12, 13, 14, 15] 1 (α := Nat × Acc) (fun ⟨k, a⟩ => [(5, .int .i64 k), (3, .slice a.A a.n a.c)]) (fun ⟨k, a⟩ => [a.p]) (fun ⟨k, a⟩ h_k => k ≤ 6 ∧ AccR 3 1 ((listN m k).flatMap intC) a) (fun ⟨k, a⟩ => 6 - k) ((0, acc0)) ⟨rfl, rfl, trivial⟩ (rfl) (⟨by omega, accR0⟩) ?_
  rintro ⟨k, a⟩ T1 h_k E_k J_k
  refine goes_norm [_] rfl ?_
  refine xp_seq ?_
  refine xp_region rfl ?_
  refine op_pure (pv_of (v := .bool _) rfl) ?_
  refine xp_seq ?_
  refine xp_cond rfl (fun ht => ?_) (fun ht => ?_)
  · skip
    have hlt : k < 6 := ltI (n := 6) ht
    refine xp_skip ?_
    refine xp_seq ?_
    refine xp_block ?_
    refine xp_seq ?_
    refine xp_region rfl ?_
    refine op_pure (pv_move (v := .int .i64 _) rfl) ?_
    refine op_pure (pv_assign (v := .int .i64 _) rfl) ?_
    refine xp_seq ?_
    refine xp_region rfl ?_
    refine op_pure (pv_move (v := .int .i64 _) rfl) ?_
    refine op_pure (pv_move (v := .int .i64 _) rfl) ?_
    refine op_fn (caps := []) (vs := [.int .i64 _, .int .i64 _]) rfl rfl rfl (has_ok m _ k rfl hm (by omega) h_k) ?_
    rintro _ h1 E1 rfl
    refine xp_cond rfl (fun hb => ?_) (fun hb => ?_)
    · skip
      refine xp_region rfl ?_
      refine op_pure (pv_move (v := .slice _ _ _) rfl) ?_
      refine op_pure (pv_move (v := .int .i64 _) rfl) ?_
      refine op_buildSlice (zc := [_]) (vs := [(0, .int .i64 _)]) (cs := [_]) rfl rfl rfl rfl rfl rfl rfl fun b13 hb13 => ?_
      refine wp_norm [_, _] rfl ?_
      refine op_appendR 0 J_k.2 rfl rfl rfl (fun V => rdP V (i := 1) rfl) rfl rfl rfl rfl rfl rfl rfl rfl rfl (by omega) rfl (by rw [flat_len (m := 1) (fun _ _ => rfl)]; have := listN_len m k; simp; omega) fun a2 h2a E2a ha2 => ?_
      refine wp_norm [_, _] rfl ?_
      refine op_pure (pv_assign (v := .slice _ _ _) rfl) ?_
      refine xp_region rfl ?_
      refine op_pure (pv_arith rfl (by omega)) ?_
      refine op_pure (pv_move (v := .int .i64 _) rfl) ?_
      refine ⟨(k + 1, a2), ⟨rfl, rfl, trivial⟩, rfl, rfl, (Ext.trans (Ext.trans E_k E1) E2a), fun h3 E3 => ⟨hlt, by rw [listN_succ, if_pos hb, List.flatMap_append]; exact ha2⟩, by first | omega | (dsimp only; omega), ?_⟩
      repeat (first | exact off_base _ _ _ | refine off_upd (by decide) ?_ | refine off_updL rfl ?_ | refine off_mix rfl ?_)
    · skip
      refine xp_skip ?_
      refine xp_region rfl ?_
      refine op_pure (pv_arith rfl (by omega)) ?_
      refine op_pure (pv_move (v := .int .i64 _) rfl) ?_
      refine ⟨(k + 1, a), ⟨rfl, rfl, trivial⟩, rfl, rfl, (Ext.trans E_k E1), fun h3 E3 => ⟨hlt, by rw [listN_succ, if_neg (by simp [hb])]; exact J_k.2⟩, by first | omega | (dsimp only; omega), ?_⟩
      repeat (first | exact off_base _ _ _ | refine off_upd (by decide) ?_ | refine off_updL rfl ?_ | refine off_mix rfl ?_)
  · skip
    have hk : k = 6 := by have := geI (n := 6) ht; omega
    subst hk
    refine xp_exit ?_
    refine xp_seq ?_
    refine xp_region rfl ?_
    refine op_pure (pv_move (v := .slice _ _ _) rfl) ?_
    refine op_pure (pv_assign (v := .slice _ _ _) rfl) ?_
    refine xp_ret ?_
    refine res_list (vs := [_]) Try.results32 ⟨resV_tmp rfl rfl, trivial⟩ fun V => ?_
    exact ⟨(Ext.trans E_k (ext_wl V)), AccP.row (i := 0) J_k.2 (by omega) (fun _ _ => rfl) V rfl⟩
/-- The closure that tells what sounds. -/
def SndV (h : AH) (m : MachP) (y : Value) : Prop :=
  ∃ b AB AQ AL AW cB cQ cL cW, y = .func (.func 59) #[] #[.pointer (some ⟨b, 0, none⟩)] ∧ Cells h b 0 [.int .i64 m.rods, .int .i64 m.levers, .int .i64 m.regs, .int .i64 m.travel, .int .i64 m.opn, .slice AB m.buttons.length cB, .slice AQ m.pins.length cQ, .slice AL m.links.length cL, .slice AW m.weights.length cW] ∧ MachR h AB AQ AL AW m
theorem SndV.ext {h h' : AH} {m : MachP} {y : Value} (r : SndV h m y) (e : Ext h h') : SndV h' m y := by
  obtain ⟨b, AB, AQ, AL, AW, cB, cQ, cL, cW, hy, c, R⟩ := r
  exact ⟨b, AB, AQ, AL, AW, cB, cQ, cL, cW, hy, c.ext e, R.ext e⟩
theorem sounding_ok (m : MachP) (AB AQ AL AW : Option Addr) (cB cQ cL cW : Nat) (h : AH) (R : MachR h AB AQ AL AW m) :
    FnT Try.prog 31 #[machV AB AQ AL AW cB cQ cL cW m] h (fun v h' => SndV h' m v) := by
  refine call_body Try.func31 rfl Try.ntmps31 rfl ?_
  refine xp_seq ?_
  refine xp_region rfl ?_
  refine op_box (v := .agg #[.int .i64 _, .int .i64 _, .int .i64 _, .int .i64 _, .int .i64 _, .slice _ _ _, .slice _ _ _, .slice _ _ _, .slice _ _ _]) (cs := [_, _, _, _, _, _, _, _, _]) rfl rfl fun b1 hb1 => ?_
  refine wp_norm [_] rfl ?_
  refine op_pure (pv_assign (v := _) rfl) ?_
  refine xp_seq ?_
  refine xp_region rfl ?_
  refine op_pure (pv_makeFunc (vs := []) (ws := [_]) rfl rfl) ?_
  refine op_pure (pv_assign (v := _) rfl) ?_
  refine xp_ret ?_
  refine res_list (vs := [_]) Try.results31 ⟨resV_tmp rfl rfl, trivial⟩ fun V => ?_
  exact ⟨(ext_wl V), b1, AB, AQ, AL, AW, cB, cQ, cL, cW, rfl, cellsB (wl_get V (i := 0) rfl), R.ext (ext_wl V)⟩
end
end Go.Proofs.Ytlfbcimcehcomaa
/- Walks of package rod: what sounds; Lifts, Sounds. Conditions: as each theorem states. -/
namespace Go.Proofs.Ytlfbcimcehcomaa
open Go Go.HL Go.Proofs Go.Wx Go.Rd
section
variable [Lvl]
set_option maxRecDepth 100000
theorem maskOf_small (p : Nat → Bool) {k : Nat} (hk : k ≤ 6) : maskOf p k < 2 ^ 60 := by
  have := maskOf_lt p k
  have : 2 ^ k ≤ 2 ^ 6 := Nat.pow_le_pow_right (by omega) hk
  omega
theorem bd12_of {D : Int} {t : List Int} (b : Bd D t) (h : D ≤ 12) : Bd12 t := fun j => by have := b j; omega
theorem snd_ok (hph : Lvl.ph = true) (m : MachP) (a : HandP) (F : Fit m a) (PF : PFit m) (depth : Int) (hd0 : 0 ≤ depth) (hd1 : depth ≤ 12) (b : Nat) (AB AQ AL AW HA OA : Option Addr) (cB cQ cL cW cH cO : Nat) (h : AH)
    (CM : Cells h b 0 [.int .i64 m.rods, .int .i64 m.levers, .int .i64 m.regs, .int .i64 m.travel, .int .i64 m.opn, .slice AB m.buttons.length cB, .slice AQ m.pins.length cQ, .slice AL m.links.length cL, .slice AW m.weights.length cW]) (RM : MachR h AB AQ AL AW m) (RH : HandR h HA OA a) :
    FnT Try.prog 59 #[handV HA OA cH cO a, .int .i64 depth, .pointer (some ⟨b, 0, none⟩)] h (fun v _ => v = .int .i64 (soundsM m a depth : Nat)) := by
  have hlv := PF.lv
  refine call_body Try.func59 rfl Try.ntmps59 rfl ?_
  refine xp_seq ?_
  refine xp_region rfl ?_
  refine op_box (v := .agg #[.slice _ _ _, .slice _ _ _]) (cs := [_, _]) rfl rfl fun b3 hb3 => ?_
  refine wp_norm [_] rfl ?_
  refine op_pure (pv_assign (v := .int .i64 _) rfl) ?_
  refine xp_seq ?_
  refine xp_region rfl ?_
  refine op_pure (pv_assign (v := .int .i64 _) rfl) ?_
  refine xp_seq ?_
  refine xp_seq ?_
  refine xp_dw [] rfl rfl rfl ?_
  refine dw_load (i := 0) rfl (by decide +kernel) ?_
  refine op_loadA rfl rfl rfl rfl (CM.ext (Ext.refl _)) ?_
  refine dw_load (i := 1) rfl (by decide +kernel) ?_
  refine op_loadA rfl rfl rfl rfl (CM.ext (Ext.refl _)) ?_
  refine dw_load (i := 2) rfl (by decide +kernel) ?_
  refine op_loadPA 0 (vs := [.slice _ _ _, .slice _ _ _]) rfl rfl rfl rfl rfl ?_
  refine dw_pure (i := 3) rfl (by decide +kernel) (pv_move (v := .int .i64 _) rfl) ?_
  refine dw_pure (i := 7) rfl (by decide +kernel) (pv_move (v := .int .i64 _) rfl) ?_
  refine dw_eff (i := 4) rfl (by decide +kernel) ?_
  refine op_fn (caps := []) (vs := [.agg #[.int .i64 _, .int .i64 _, .int .i64 _, .int .i64 _, .int .i64 _, .slice _ _ _, .slice _ _ _, .slice _ _ _, .slice _ _ _], .agg #[.slice _ _ _, .slice _ _ _], .int .i64 _]) rfl rfl rfl (turned_ok hph F hd0 hd1 h (RH.ext (Ext.refl _)) (RM.ext (Ext.refl _)) (cB := cB) (cQ := cQ) (cL := cL) (cW := cW) (cH := cH) (cO := cO)) ?_
  rintro _ h1 E1 rfl
  refine ⟨ext_wlm E1 _, ?_⟩
  refine dw_last (i := 5) rfl (by decide +kernel) (by decide +kernel) ?_
  refine op_fn (caps := []) (vs := [machV AB AQ AL AW cB cQ cL cW m, turnsV (turnedM m a depth)]) rfl rfl rfl (lifted_ok m PF (turnedM m a depth) (turned_len m a depth) (bd12_of (turned_bd F hd0) hd1) AB AQ AL AW cB cQ cL cW h1 (RM.ext E1)) ?_
  rintro _ h2 E2 ⟨Al, cl, rfl, Rl⟩
  refine dw_pure (i := 6) rfl (by decide +kernel) (pv_len rfl rfl) ?_
  refine dw_end rfl ?_
  refine xp_block ?_
  obtain ⟨l, hl⟩ : ∃ l, l = liftedM m (turnedM m a depth) := ⟨_, rfl⟩
  have hll : l.length = m.levers.toNat := by rw [hl, lifted_len]
  rw [← hl] at Rl ⊢
  refine xp_loopB [6, 7, 8, 16, 17, 18, 19, 20, 21, 22, 23, 24, 25, 26, 27, 28] 1 (α := Nat) (fun k => [(6, .int .i64 (maskOf (fun v => decide (m.opn ≤ l.getD v 0)) k : Nat)), (16, .int .i64 k)]) (fun k => _) (fun k h_k => k ≤ l.length) (fun k => l.length - k) (0) ⟨rfl, rfl, trivial⟩ (rfl) (Nat.zero_le _) ?_
  rintro k T1 h_k E_k J_k
  refine goes_norm [_] rfl ?_
  refine xp_seq ?_
  refine xp_region rfl ?_
  refine op_pure (pv_of (v := .bool _) rfl) ?_
  refine xp_seq ?_
  refine xp_cond rfl (fun hk => ?_) (fun hk => ?_)
  · skip
    have hkl : k < l.length := ltI hk
    obtain ⟨g, off, hA, hc⟩ := (Rl.ext E_k).at (by omega) hkl
    refine xp_skip ?_
    refine xp_seq ?_
    refine xp_block ?_
    refine xp_seq ?_
    refine xp_region rfl ?_
    refine op_pure (pv_move (v := .int .i64 _) rfl) ?_
    refine op_pure (pv_indexE rfl hA rfl rfl rfl (by omega) (by omega)) ?_
    refine op_load (v := .int .i64 _) rfl rfl ((hc) 0 _ rfl) ?_
    refine op_pure (pv_assign (v := .int .i64 _) rfl) ?_
    refine op_pure (pv_assign (v := .int .i64 _) rfl) ?_
    refine xp_seq ?_
    refine xp_region rfl ?_
    refine op_pure (pv_move (v := .int .i64 _) rfl) ?_
    refine op_pure (pv_fieldAddr rfl rfl rfl rfl _ rfl) ?_
    refine op_load (v := .int .i64 m.opn) rfl rfl ((CM.ext (Ext.trans (Ext.trans E1 E2) E_k)) 4 _ rfl) ?_
    refine op_pure (pv_of (v := .bool _) rfl) ?_
    refine xp_cond rfl (fun hb => ?_) (fun hb => ?_)
    · skip
      refine xp_region rfl ?_
      refine op_pure (pv_move (v := .int .i64 _) rfl) ?_
      refine op_pure (pv_move (v := .int .i64 _) rfl) ?_
      refine op_fn (caps := []) (vs := [.int .i64 _, .int .i64 _]) rfl rfl rfl (with_ok _ k k rfl (maskOf_small _ (by omega)) (by omega) h_k) ?_
      rintro _ h3 E3 rfl
      refine op_pure (pv_assign (v := .int .i64 _) rfl) ?_
      refine xp_region rfl ?_
      refine op_pure (pv_arith rfl (by omega)) ?_
      refine op_pure (pv_move (v := .int .i64 _) rfl) ?_
      refine ⟨k + 1, ⟨(by rw [maskOf, if_pos (by rw [getD_get hkl]; simpa using hb)]; rfl), rfl, trivial⟩, rfl, rfl, (Ext.trans E_k E3), fun h3 E3 => hkl, by first | omega | (dsimp only; omega), ?_⟩
      repeat (first | exact off_base _ _ _ | refine off_upd (by decide) ?_ | refine off_updL rfl ?_ | refine off_mix rfl ?_)
    · skip
      refine xp_skip ?_
      refine xp_region rfl ?_
      refine op_pure (pv_arith rfl (by omega)) ?_
      refine op_pure (pv_move (v := .int .i64 _) rfl) ?_
      refine ⟨k + 1, ⟨(by rw [maskOf, if_neg (by rw [getD_get hkl]; simpa using hb)]; rfl), rfl, trivial⟩, rfl, rfl, E_k, fun h3 E3 => hkl, by first | omega | (dsimp only; omega), ?_⟩
      repeat (first | exact off_base _ _ _ | refine off_upd (by decide) ?_ | refine off_updL rfl ?_ | refine off_mix rfl ?_)
  · skip
    have hke : k = l.length := by have := geI hk; omega
    subst hke
    refine xp_exit ?_
    refine xp_seq ?_
    refine xp_region rfl ?_
    refine op_pure (pv_move (v := .int .i64 _) rfl) ?_
    refine op_pure (pv_assign (v := .int .i64 _) rfl) ?_
    refine xp_ret ?_
    refine res_list (vs := [_]) Try.results59 ⟨resV_tmp rfl rfl, trivial⟩ fun V => ?_
    refine ⟨(Ext.trans (Ext.trans (Ext.trans E1 E2) E_k) (ext_wl V)), intE ?_⟩
    rw [soundsM, ← hl, hll]
theorem sounds_small {m : MachP} (M : PFit m) (a : HandP) (depth : Int) : soundsM m a depth < 2 ^ 60 := by
  have := M.lv
  exact maskOf_small _ (by omega)
end
end Go.Proofs.Ytlfbcimcehcomaa
/- Walks of package rod: Force, Chart. Conditions: as each theorem states. -/
namespace Go.Proofs.Ytlfbcimcehcomaa
open Go Go.HL Go.Proofs Go.Wx Go.Rd
section
variable [Lvl]
set_option maxRecDepth 100000
end
end Go.Proofs.Ytlfbcimcehcomaa
/- Walks of package rod: Chart. Conditions: as each theorem states. -/
namespace Go.Proofs.Ytlfbcimcehcomaa
open Go Go.HL Go.Proofs Go.Wx Go.Rd
section
variable [Lvl]
set_option maxRecDepth 100000
theorem one_len {cs : List (List Value)} {c : List Value} (h : ∀ x ∈ cs, x.length = 1) (hc : c.length = 1) : ∀ x ∈ cs ++ [c], x.length = 1 := fun x hx => by
  rcases List.mem_append.1 hx with hx | hx
  · exact h x hx
  · simp at hx; subst hx; exact hc
end
end Go.Proofs.Ytlfbcimcehcomaa
/- The own logic, part GK: iterators that may be stopped; blocks laid open at once; loops over functions within rounds. Conditions: none. -/
namespace Go.HL
open Go
variable [Lvl]
/-- What a body of a loop over a function owes that may stop it (F: what holds then). -/
def YieldsS {α : Type} (P : Program) (y : Value) (all : List α) (T : AH → α → Value → Prop) (I : Nat → AH → Pv → Prop) (F : AH → Pv → Prop) : Prop :=
  ∀ (k : Nat) (x : α) (v : Value) (h : AH) (M : Pv), all[k]? = some x → T h x v → I k h M → FnM P y [v] h M (fun r h' M' => (r = .bool true ∧ I (k + 1) h' M') ∨ (r = .bool false ∧ F h' M'))
/-- What such an iterator owes. -/
def IterS {α : Type} (P : Program) (f : Value) (h0 : AH) (all : List α) (T : AH → α → Value → Prop) : Prop :=
  ∀ (fn : Fn) (fs cs : Array Value) (I : Nat → AH → Pv → Prop) (F : AH → Pv → Prop), (∀ k h h' M, Ext h h' → I k h M → I k h' M) → (∀ h h' M, Ext h h' → F h M → F h' M) → YieldsS P (.func fn fs cs) all T I F →
    ∀ h M, Ext h0 h → I 0 h M → FnM P f [.func fn fs cs] h M (fun _ h' M' => I all.length h' M' ∨ F h' M')
theorem IterS.ext {α : Type} {P : Program} {f : Value} {h h' : AH} {all : List α} {T : AH → α → Value → Prop} (i : IterS P f h all T) (E : Ext h h') : IterS P f h' all T :=
  fun fn fs cs I F hI hF Y h1 M E1 => i fn fs cs I F hI hF Y h1 M (E.trans E1)
section
variable {P : Program} {n : Nat} {ops : Array Oper} {os : List Oper} {K : Sl → Pv → AH → Prop} {E : Value → Sl → Pv → AH → Prop} {S : Sl} {L : Pv} {h : AH} {d : Option Tmp} {op : Op} {ty : TypeId} {ps : String} {af : Array Edge}
end
end Go.HL
/- The own logic, part GL: a lookup in a map; counting in a map; loops over functions that may stop. Conditions: none. -/
namespace Go.HL
open Go
variable [Lvl]
section
variable {P : Program} {n : Nat} {ops : Array Oper} {os : List Oper} {K : Sl → Pv → AH → Prop} {E : Value → Sl → Pv → AH → Prop} {S : Sl} {L : Pv} {h : AH} {d : Option Tmp} {ty : TypeId} {ps : String} {af : Array Edge}
variable {α : Type} [DecidableEq α] {kt : TypeId} {enc : α → Value}
end
end Go.HL
/- The own logic, part GM: a loop over a function within a round. Conditions: none. -/
namespace Go.HL
open Go
variable [Lvl]
section
variable {P : Program} {n : Nat} {K : Post} {S : Sl} {D : Df} {L : Pv} {h : AH}
end
end Go.HL
/- The own logic, part GN: loops over functions whose object stands in a place of its own. Conditions: none. -/
namespace Go.HL
open Go
variable [Lvl]
section
variable {P : Program} {n : Nat} {K : Post} {S : Sl} {D : Df} {L : Pv} {h : AH}
end
end Go.HL
/- The own logic, part GO: parts of slices; capacities. Conditions: none. -/
namespace Go.HL
open Go
variable [Lvl]
section
variable {P : Program} {n : Nat} {d : Option Tmp} {ty : TypeId} {ps : String} {af : Array Edge} {S : Sl}
theorem pv_sliceS {x lo hi : Operand} {t e : TypeId} {m len cap : Nat} {A : Option Addr} (i j : Nat) {k k2 : IntKind} {i' j' : Int} (hx : ev n S x = .slice A len cap) (hl : ev n S lo = .int k i') (hh : ev n S hi = .int k2 j') (ei : i' = i) (ej : j' = j) (ht : pev P (underlying t) = some (.slice e)) (hs : pev P (sizeOf e) = some m) (hij : i ≤ j) (hjc : j ≤ cap) {A' : Option Addr} {l' c' : Nat} (eA : (if cap = i then A else A.map (·.add (i * m))) = A') (el : j - i = l') (ec : cap - i = c') :
    pev P (execOp (ev n S) ⟨d, .slice t x (some lo) (some hi) none, ty, ps, af, none⟩) = some (.value (.slice A' l' c')) := by
  subst ei ej eA el ec
  simp only [execOp, hx, hl, hh, Option.map]
  refine (pev_bind (a := .slice (if cap = i then A else A.map (·.add (i * m))) (j - i) (cap - i)) ?_).trans rfl
  unfold Instr.sliceAt
  refine (pev_mbind ht).trans ?_
  simp only
  unfold Instr.slice
  refine (pev_mbind ht).trans ?_
  simp only
  have hb : pev P (Instr.sliceBounds true len cap (some (.int k (i : Int))) (some (.int k2 (j : Int))) none) = some (i, j, cap) := by
    unfold Instr.sliceBounds
    refine (pev_mbind (a := cap) rfl).trans ?_
    have h1 : pev P (Instr.sliceBound (.int k2 (j : Int)) cap .sliceAcap) = some j := by
      unfold Instr.sliceBound
      refine (pev_mbind (a := (k2, (j : Int))) rfl).trans ?_
      simp only
      rw [if_pos ⟨by omega, by omega⟩]
      rfl
    have h2 : pev P (Instr.sliceBound (.int k (i : Int)) j .sliceB) = some i := by
      unfold Instr.sliceBound
      refine (pev_mbind (a := (k, (i : Int))) rfl).trans ?_
      simp only
      rw [if_pos ⟨by omega, by omega⟩]
      rfl
    refine (pev_mbind h1).trans ?_
    refine (pev_mbind h2).trans ?_
    rfl
  refine (pev_mbind hb).trans ?_
  simp only
  refine (pev_mbind hs).trans ?_
  rfl
end
/-- A slice's capacity is no less than its length. -/
def CapOK : Value → Prop
  | .slice _ n c => n ≤ c
  | _ => True
theorem AccP.cap {e : TypeId} {m : Nat} {cs : List Value} {p : Option (Nat × Obj)} {v : Value} (a : AccP e m cs p v) (hm : 0 < m) : CapOK v := by
  rcases a with ⟨_, _, A, rfl⟩ | ⟨b, len, cap, junk, h1, rfl, _, h2⟩
  · exact Nat.le_refl 0
  · show len ≤ cap
    rw [List.length_append, h1] at h2
    exact Nat.le_of_mul_le_mul_right (by omega) hm
end Go.HL
/- Walks of package rod: all faults; copies. Conditions: as each theorem states. -/
namespace Go.Proofs.Ytlfbcimcehcomaa
open Go Go.HL Go.Proofs Go.Wx Go.Rd
section
variable [Lvl]
set_option maxRecDepth 100000
theorem accR_new {e : TypeId} {m : Nat} {b : Nat} : AccR e m [] ⟨some (b, .cells ([] : List Value).toArray e (0, 0)), some ⟨b, 0, none⟩, 0, 0⟩ := accp_new
end
end Go.Proofs.Ytlfbcimcehcomaa
/- Walks of package rod: a machine with faults. Conditions: as each theorem states. -/
namespace Go.Proofs.Ytlfbcimcehcomaa
open Go Go.HL Go.Proofs Go.Wx Go.Rd
section
variable [Lvl]
set_option maxRecDepth 100000
/-- What the closure of a machine with faults reads. -/
def BrkP (h : AH) (m : MachP) (l : List FaultP) (b1 b2 b3 b4 : Nat) : Prop :=
  ∃ ys, cellA h ⟨b1, 0, none⟩ = some ys ∧ SndV h (brkM m l) ys ∧ cellA h ⟨b2, 3, none⟩ = some (.int .i64 m.travel) ∧ cellA h ⟨b3, 0, none⟩ = some (.int .i64 ((brkF m l).stay : Nat)) ∧ cellA h ⟨b4, 0, none⟩ = some (.int .i64 ((brkF m l).dumb : Nat))
theorem BrkP.ext {h h' : AH} {m : MachP} {l : List FaultP} {b1 b2 b3 b4 : Nat} (r : BrkP h m l b1 b2 b3 b4) (e : Ext h h') : BrkP h' m l b1 b2 b3 b4 := by
  obtain ⟨ys, c1, s, c2, c3, c4⟩ := r
  exact ⟨ys, e.cell c1, s.ext e, e.cell c2, e.cell c3, e.cell c4⟩
/-- The closure of a machine with faults. -/
abbrev brkY (b1 b2 b3 b4 : Nat) : Value := .func (.func 77) #[] #[.pointer (some ⟨b1, 0, none⟩), .pointer (some ⟨b2, 0, none⟩), .pointer (some ⟨b3, 0, none⟩), .pointer (some ⟨b4, 0, none⟩)]
def BrkV (h : AH) (m : MachP) (l : List FaultP) (y : Value) : Prop := ∃ b1 b2 b3 b4, y = brkY b1 b2 b3 b4 ∧ BrkP h m l b1 b2 b3 b4
theorem BrkV.ext {h h' : AH} {m : MachP} {l : List FaultP} {y : Value} (r : BrkV h m l y) (e : Ext h h') : BrkV h' m l y := by
  obtain ⟨b1, b2, b3, b4, hy, p⟩ := r
  exact ⟨b1, b2, b3, b4, hy, p.ext e⟩
theorem AccR.parts {e : TypeId} {m : Nat} {cs : List Value} {a : Acc} (r : AccR e m cs a) (hc : cs ≠ []) : ∃ b len cap junk, a = ⟨some (b, .cells (cs ++ junk).toArray e (0, 0)), some ⟨b, 0, none⟩, len, cap⟩ ∧ cs.length = len * m ∧ ∀ cs' : List Value, cs'.length = cs.length → AccR e m cs' ⟨some (b, .cells (cs' ++ junk).toArray e (0, 0)), some ⟨b, 0, none⟩, len, cap⟩ := by
  obtain ⟨p, A, n, c⟩ := a
  rcases r with ⟨_, h, _⟩ | ⟨b, len, cap, junk, hl, ev, hpp, hx⟩
  · exact absurd h hc
  · injection ev with e1 e2 e3
    dsimp only at e1 e2 e3 hpp
    subst e1 e2 e3 hpp
    exact ⟨b, n, c, junk, rfl, hl, fun cs' h' => .inr ⟨b, n, c, junk, by rw [h', hl], rfl, rfl, by rw [List.length_append, h', ← List.length_append]; exact hx⟩⟩
end
end Go.Proofs.Ytlfbcimcehcomaa
/- Walks of package rod: what explains what was heard. Conditions: as each theorem states. -/
namespace Go.Proofs.Ytlfbcimcehcomaa
open Go Go.HL Go.Proofs Go.Wx Go.Rd
section
variable [Lvl]
set_option maxRecDepth 100000
/-- What was heard of a machine, in order. -/
structure HeardOK (m : MachP) (x : HeardP) : Prop where
  h : HOK m x.hand
  s : SetOK x.sounds m.levers
end
end Go.Proofs.Ytlfbcimcehcomaa
/- Walks of package rod: suspects. Conditions: as each theorem states. -/
namespace Go.Proofs.Ytlfbcimcehcomaa
open Go Go.HL Go.Proofs Go.Wx Go.Rd
section
variable [Lvl]
set_option maxRecDepth 100000
end
end Go.Proofs.Ytlfbcimcehcomaa
/- Walks of package rod: all sets of numbers, handed out. Conditions: as each theorem states. -/
namespace Go.Proofs.Ytlfbcimcehcomaa
open Go Go.HL Go.Proofs Go.Wx Go.Rd
section
variable [Lvl]
set_option maxRecDepth 100000
theorem intP2 (x : Int) : (intC x).all plainB = true := rfl
theorem cloneIntF (l : List Int) (A : Option Addr) (c : Nat) (h : AH) (R : Row h 1 intC A l) (hl : l.length < 2 ^ 20) :
    FnM Try.prog (.func (.func 73) #[] ([] : List Value).toArray) [.slice A l.length c] h [] (fun v h' M' => ∃ p, M' = [p] ∧ ∃ a : Acc, p = a.p ∧ v = .slice a.A a.n a.c ∧ AccR 3 1 (l.flatMap intC) a) := by
  cases A with
  | none =>
    have h0 := R.none_nil (by omega)
    subst h0
    refine fnM_body rfl rfl Try.func73 rfl Try.ntmps73 rfl ?_
    refine xp_seq ?_
    refine xp_region rfl ?_
    refine op_pure (pv_assign (v := .slice _ _ _) rfl) ?_
    refine xp_seq ?_
    refine xp_seq ?_
    refine xp_region rfl ?_
    refine op_pure (pv_move (v := .slice _ _ _) rfl) ?_
    refine op_pure (pv_of (v := .bool _) rfl) ?_
    refine xp_cond rfl (fun ht => ?_) (fun ht => ?_)
    · skip
      refine xp_seq ?_
      refine xp_region rfl ?_
      refine op_pure (pv_assign (v := .slice _ _ _) rfl) ?_
      refine xp_ret ?_
      refine res_list (vs := [_]) Try.results73 ⟨resV_tmp rfl rfl, trivial⟩ fun V => ?_
      exact ⟨_, [none], rfl, V, (Ext.refl _), none, rfl, acc0, rfl, rfl, accR0⟩
    · cases ht
  | some a =>
    refine fnM_body rfl rfl Try.func73 rfl Try.ntmps73 rfl ?_
    refine xp_seq ?_
    refine xp_region rfl ?_
    refine op_pure (pv_assign (v := .slice _ _ _) rfl) ?_
    refine xp_seq ?_
    refine xp_seq ?_
    refine xp_region rfl ?_
    refine op_pure (pv_move (v := .slice _ _ _) rfl) ?_
    refine op_pure (pv_of (v := .bool _) rfl) ?_
    refine xp_cond rfl (fun ht => ?_) (fun ht => ?_)
    · cases ht
    · skip
      refine xp_skip ?_
      refine xp_seq ?_
      refine xp_region rfl ?_
      refine op_buildSlice (zc := [_]) (vs := []) (cs := []) rfl rfl rfl rfl rfl rfl rfl fun b5 hb5 => ?_
      refine wp_norm [_] rfl ?_
      refine op_pure (pv_move (v := .slice _ _ _) rfl) ?_
      refine op_appendR 0 accR_new rfl rfl rfl (fun V => R.2.ext (ext_wl V)) (flat_len R.1) (flat_plain intP2 l) rfl rfl rfl rfl rfl rfl rfl (by omega) rfl (by rw [flat_len R.1, List.length_nil]; omega) fun a2 h1a E1a ha2 => ?_
      refine wp_norm [_] rfl ?_
      refine op_pure (pv_assign (v := .slice _ _ _) rfl) ?_
      refine xp_ret ?_
      refine res_list (vs := [_]) Try.results73 ⟨resV_tmp rfl rfl, trivial⟩ fun V => ?_
      exact ⟨_, [_], rfl, V, E1a, _, rfl, a2, rfl, rfl, ha2⟩
end
end Go.Proofs.Ytlfbcimcehcomaa
/- The own logic, part BB: words whose value does not matter. Conditions: none. -/
namespace Go.HL
open Go
variable [Lvl]
section
variable {P : Program} {n : Nat} {ops : Array Oper} {d : Option Tmp} {op : Op} {ty : TypeId} {ps : String} {af : Array Edge} {os : List Oper} {K : Sl → Pv → AH → Prop} {E : Value → Sl → Pv → AH → Prop} {S : Sl} {L : Pv} {h : AH}
theorem wrap_u64 (z : Int) : ∃ r : Nat, r < 2 ^ 64 ∧ IntKind.wrap .u64 z = (r : Int) := by
  have e : IntKind.wrap .u64 z = z % 2 ^ 64 := by simp [IntKind.wrap, IntKind.bits, IntKind.signed]
  have h1 : 0 ≤ z % 2 ^ 64 := Int.emod_nonneg _ (by decide)
  have h2 : z % 2 ^ 64 < 2 ^ 64 := Int.emod_lt_of_pos _ (by decide)
  exact ⟨(z % 2 ^ 64).toNat, by omega, by rw [e]; omega⟩
theorem op_some {z : Int} (hv : pev P (execOp (ev n S) ⟨d, op, ty, ps, af, none⟩) = some (.value (.int .u64 (IntKind.wrap .u64 z))))
    (k : ∀ r : Nat, r < 2 ^ 64 → wpL P n ops os K E (put S d (.int .u64 (r : Int))) L h) : wpL P n ops (⟨d, op, ty, ps, af, none⟩ :: os) K E S L h := by
  obtain ⟨r, hr, e⟩ := wrap_u64 z
  rw [e] at hv
  exact op_pure hv (k r hr)
theorem dw_some {mask : List Bool} {X : Sl → AH → Prop} {dn ac : List Nat} {i : Nat} {z : Int} (hoi : ops[i]? = some ⟨d, op, ty, ps, af, none⟩) (hok : okS ops dn ac i = true) (hv : pev P (execOp (ev n S) ⟨d, op, ty, ps, af, none⟩) = some (.value (.int .u64 (IntKind.wrap .u64 z))))
    (k : ∀ r : Nat, r < 2 ^ 64 → Dw P n ops mask X (i :: dn) ac (put S d (.int .u64 (r : Int))) L h) : Dw P n ops mask X dn ac S L h := by
  obtain ⟨r, hr, e⟩ := wrap_u64 z
  rw [e] at hv
  exact dw_pure hoi hok hv (k r hr)
theorem pv_rem {t u : TypeId} {x y : Operand} {a b : Nat} {b' : Int} (hx : ev n S x = .int .u64 (a : Int)) (hy : ev n S y = .int .u64 b') (eb : b' = b) (hb : 0 < b) :
    pev P (execOp (ev n S) ⟨d, .binOp .rem t x y u, ty, ps, af, none⟩) = some (.value (.int .u64 ((a % b : Nat) : Int))) := by
  subst eb
  have h0 : ¬ ((b : Nat) : Int) = 0 := by omega
  simp only [execOp, hx, hy, binOp, Op.intDiv, if_neg h0]
  rfl
end
end Go.HL
/- Walks: the pot of numbers, lists. Conditions: as each theorem states. -/
namespace Go.Proofs.Ytlfbcimcehcomaa
open Go Go.HL Go.Proofs Go.Wx Go.Rd
section
variable [Lvl]
set_option maxRecDepth 100000
theorem step_ok (b x : Nat) (h : AH) : FnM Try.prog (.func (.func 47) #[] ([] : List Value).toArray) [.pointer (some ⟨b, 0, none⟩)] h [some (b, .cells #[.int .u64 (x : Int)] 76 (0, 0))]
    (fun v h' M' => ∃ x' r : Nat, M' = [some (b, .cells #[.int .u64 (x' : Int)] 76 (0, 0))] ∧ v = .int .u64 (r : Int)) := by
  refine fnM_body rfl rfl Try.func47 rfl Try.ntmps47 rfl ?_
  refine xp_seq ?_
  refine xp_region rfl ?_
  refine op_pure (pv_assign (v := .int .u64 _) rfl) ?_
  refine xp_seq ?_
  refine xp_region rfl ?_
  refine op_pure (pv_move (v := .pointer (some ⟨b, 0, none⟩)) rfl) ?_
  refine op_pure (pv_move (v := .pointer (some ⟨b, 0, none⟩)) rfl) ?_
  refine op_pure (pv_of (v := .pointer (some ⟨b, 0, none⟩)) rfl) ?_
  refine op_pure (pv_fieldAddr rfl rfl rfl rfl 0 rfl) ?_
  refine op_loadP 0 (v := .int .u64 _) rfl rfl rfl rfl ?_
  refine op_some rfl fun r1 hr1 => ?_
  refine op_some rfl fun r2 hr2 => ?_
  refine op_pure (pv_of (v := .pointer (some ⟨b, 0, none⟩)) rfl) ?_
  refine op_pure (pv_fieldAddr rfl rfl rfl rfl 0 rfl) ?_
  refine op_storeP 0 (v := .int .u64 _) (vs := [_]) (c' := [_]) rfl rfl rfl rfl rfl rfl rfl rfl rfl ?_
  refine wp_norm [_] rfl ?_
  refine xp_seq ?_
  refine xp_region rfl ?_
  refine op_pure (pv_move (v := .pointer (some ⟨b, 0, none⟩)) rfl) ?_
  refine op_pure (pv_of (v := .pointer (some ⟨b, 0, none⟩)) rfl) ?_
  refine op_pure (pv_fieldAddr rfl rfl rfl rfl 0 rfl) ?_
  refine op_loadP 0 (v := .int .u64 _) rfl rfl rfl rfl ?_
  refine op_pure (pv_assign (v := .int .u64 _) rfl) ?_
  refine xp_seq ?_
  refine xp_region rfl ?_
  refine op_pure (pv_move (v := .int .u64 _) rfl) ?_
  refine op_pure (pv_move (v := .int .u64 _) rfl) ?_
  refine op_pure (pv_shr _ 33 (.inr rfl) rfl rfl rfl rfl (by omega)) ?_
  refine op_some rfl fun r3 hr3 => ?_
  refine op_some rfl fun r4 hr4 => ?_
  refine op_pure (pv_assign (v := .int .u64 _) rfl) ?_
  refine xp_seq ?_
  refine xp_region rfl ?_
  refine op_pure (pv_move (v := .int .u64 _) rfl) ?_
  refine op_pure (pv_move (v := .int .u64 _) rfl) ?_
  refine op_pure (pv_shr _ 33 (.inr rfl) rfl rfl rfl rfl (by omega)) ?_
  refine op_some rfl fun r5 hr5 => ?_
  refine op_some rfl fun r6 hr6 => ?_
  refine op_pure (pv_assign (v := .int .u64 _) rfl) ?_
  refine xp_seq ?_
  refine xp_region rfl ?_
  refine op_pure (pv_move (v := .int .u64 _) rfl) ?_
  refine op_pure (pv_move (v := .int .u64 _) rfl) ?_
  refine op_pure (pv_shr _ 33 (.inr rfl) rfl rfl rfl rfl (by omega)) ?_
  refine op_some rfl fun r7 hr7 => ?_
  refine op_pure (pv_assign (v := .int .u64 _) rfl) ?_
  refine xp_ret ?_
  refine res_list (vs := [_]) Try.results47 ⟨resV_tmp rfl rfl, trivial⟩ fun V => ?_
  exact ⟨_, [_], rfl, V, (Ext.refl _), r2, r7, rfl, rfl⟩
theorem Upto_ok (b x : Nat) (n : Int) (hn : n < 2 ^ 40) (h : AH) : FnM Try.prog (.func (.func 20) #[] ([] : List Value).toArray) [.pointer (some ⟨b, 0, none⟩), .int .i64 n] h [some (b, .cells #[.int .u64 (x : Int)] 76 (0, 0))]
    (fun v h' M' => ∃ (x' : Nat) (k : Int), M' = [some (b, .cells #[.int .u64 (x' : Int)] 76 (0, 0))] ∧ v = .int .i64 k ∧ 0 ≤ k ∧ k ≤ max n 0) := by
  refine fnM_body rfl rfl Try.func20 rfl Try.ntmps20 rfl ?_
  refine xp_seq ?_
  refine xp_region rfl ?_
  refine op_pure (pv_assign (v := .int .i64 _) rfl) ?_
  refine xp_seq ?_
  refine xp_seq ?_
  refine xp_region rfl ?_
  refine op_pure (pv_move (v := .int .i64 _) rfl) ?_
  refine op_pure (pv_of (v := .bool _) rfl) ?_
  refine xp_cond rfl (fun ht => ?_) (fun ht => ?_)
  · skip
    refine xp_seq ?_
    refine xp_region rfl ?_
    refine op_pure (pv_assign (v := .int .i64 _) rfl) ?_
    refine xp_ret ?_
    refine res_list (vs := [_]) Try.results20 ⟨resV_tmp rfl rfl, trivial⟩ fun V => ?_
    exact ⟨_, [_], rfl, V, (Ext.refl _), x, 0, rfl, rfl, by omega, by omega⟩
  · skip
    have h1 : 1 ≤ n := by simpa using ht
    refine xp_skip ?_
    refine xp_seq ?_
    refine xp_region rfl ?_
    refine op_pure (pv_move (v := .pointer (some ⟨b, 0, none⟩)) rfl) ?_
    refine op_fnMM [] [_] [] (vs := _) rfl rfl rfl ((step_ok b x h)) ?_
    rintro _ h2 _ E2 ⟨x2, r, rfl, rfl⟩
    refine wp_norm [_] rfl ?_
    refine op_pure (pv_shr _ 11 (.inr rfl) rfl rfl rfl rfl (by omega)) ?_
    refine op_pure (pv_move (v := .int .i64 _) rfl) ?_
    refine op_pure (pv_arith rfl (by omega)) ?_
    refine op_pure (pv_val (intE (show IntKind.wrap .u64 (n + 1) = (((n + 1).toNat : Nat) : Int) by rw [IntWalk.u64_in _ (by omega)]; omega)) rfl) ?_
    refine op_pure (pv_rem (b := (n + 1).toNat) rfl rfl rfl (by omega)) ?_
    have hm : r / 2 ^ 11 % (n + 1).toNat < (n + 1).toNat := Nat.mod_lt _ (by omega)
    refine op_pure (pv_val (intE (show IntKind.wrap .i64 ((r / 2 ^ 11 % (n + 1).toNat : Nat) : Int) = ((r / 2 ^ 11 % (n + 1).toNat : Nat) : Int) by rw [IntWalk.i64_in _ (by omega)])) rfl) ?_
    refine op_pure (pv_assign (v := .int .i64 _) rfl) ?_
    refine xp_ret ?_
    refine res_list (vs := [_]) Try.results20 ⟨resV_tmp rfl rfl, trivial⟩ fun V => ?_
    exact ⟨_, [_], rfl, V, E2, x2, _, rfl, rfl, by omega, by omega⟩
theorem Within_ok (b x : Nat) (lo hi : Int) (h1 : -2 ^ 30 ≤ lo) (h2 : lo ≤ hi) (h3 : hi ≤ 2 ^ 30) (h : AH) : FnM Try.prog (.func (.func 19) #[] ([] : List Value).toArray) [.pointer (some ⟨b, 0, none⟩), .int .i64 lo, .int .i64 hi] h [some (b, .cells #[.int .u64 (x : Int)] 76 (0, 0))]
    (fun v h' M' => ∃ (x' : Nat) (k : Int), M' = [some (b, .cells #[.int .u64 (x' : Int)] 76 (0, 0))] ∧ v = .int .i64 k ∧ lo ≤ k ∧ k ≤ hi) := by
  refine fnM_body rfl rfl Try.func19 rfl Try.ntmps19 rfl ?_
  refine xp_seq ?_
  refine xp_region rfl ?_
  refine op_pure (pv_assign (v := .int .i64 _) rfl) ?_
  refine xp_seq ?_
  refine xp_region rfl ?_
  refine op_pure (pv_move (v := .int .i64 _) rfl) ?_
  refine op_pure (pv_move (v := .pointer (some ⟨b, 0, none⟩)) rfl) ?_
  refine op_pure (pv_move (v := .int .i64 _) rfl) ?_
  refine op_pure (pv_move (v := .int .i64 _) rfl) ?_
  refine op_pure (pv_arith rfl (by omega)) ?_
  refine op_fnMM [] [_] [] (vs := [.pointer _, .int .i64 _]) rfl rfl rfl ((Upto_ok b x (hi - lo) (by omega) h)) ?_
  rintro _ h2 _ E2 ⟨x2, k, rfl, rfl, k1, k2⟩
  refine wp_norm [_] rfl ?_
  refine op_pure (pv_arith rfl (by omega)) ?_
  refine op_pure (pv_assign (v := .int .i64 _) rfl) ?_
  refine xp_ret ?_
  refine res_list (vs := [_]) Try.results19 ⟨resV_tmp rfl rfl, trivial⟩ fun V => ?_
  exact ⟨_, [_], rfl, V, E2, x2, lo + k, rfl, rfl, by omega, by omega⟩
theorem NewPot_ok (l : List Int) (hl : l.length < 2 ^ 63) (A : Option Addr) (c : Nat) (h : AH) (R : Row h 1 intC A l) : FnM Try.prog (.func (.func 5) #[] ([] : List Value).toArray) [.slice A l.length c] h []
    (fun v h' M' => ∃ b x : Nat, M' = [some (b, .cells #[.int .u64 (x : Int)] 76 (0, 0))] ∧ v = .pointer (some ⟨b, 0, none⟩)) := by
  refine fnM_body rfl rfl Try.func5 rfl Try.ntmps5 rfl ?_
  refine xp_seq ?_
  refine xp_region rfl ?_
  refine op_pure (pv_assign (v := .pointer _) rfl) ?_
  refine xp_seq ?_
  refine xp_region rfl ?_
  refine op_pure (pv_build (zc := [_]) (vs := [(0, .int .u64 _)]) (cs := [_]) rfl rfl rfl rfl rfl rfl) ?_
  refine op_box (v := .agg #[.int .u64 _]) (cs := [_]) rfl rfl fun b6 hb6 => ?_
  refine wp_norm [_] rfl ?_
  refine op_pure (pv_assign (v := .pointer (some ⟨b6, 0, none⟩)) rfl) ?_
  refine xp_seq ?_
  refine xp_seq ?_
  refine xp_region rfl ?_
  refine op_pure (pv_assign (v := .int .i64 _) rfl) ?_
  refine xp_block ?_
  refine xp_loopL [4, 7, 8, 9, 10, 11, 12, 13, 14, 15, 16, 17, 18, 19, 20, 21, 22, 23, 24, 25, 26, 27, 28, 29, 30, 31, 32, 33, 34, 35, 36, 37, 38, 39] 1 (α := Nat × Nat) (fun ⟨k, x⟩ => [(4, .int .i64 k)]) (fun ⟨k, x⟩ L => L.set 0 (some (b6, .cells #[.int .u64 (x : Int)] 76 (0, 0)))) (fun ⟨k, x⟩ h_k => k ≤ l.length) (fun ⟨k, x⟩ => l.length - k) ((0, 2611923443488327891)) ⟨rfl, trivial⟩ (rfl) (Nat.zero_le _) ?_
  rintro ⟨k, x⟩ T1 h_k E_k J_k
  refine goes_norm [_] rfl ?_
  refine xp_seq ?_
  refine xp_seq ?_
  refine xp_region rfl ?_
  refine op_pure (pv_move (v := .int .i64 _) rfl) ?_
  refine op_pure (pv_move (v := .slice _ _ _) rfl) ?_
  refine op_pure (pv_len rfl rfl) ?_
  refine op_pure (pv_of (v := .bool _) rfl) ?_
  refine xp_cond rfl (fun ht => ?_) (fun ht => ?_)
  · skip
    have hlt := ltI ht
    obtain ⟨g, off, hA, hc⟩ := (R.ext E_k).at (by omega) hlt
    refine xp_skip ?_
    refine xp_seq ?_
    refine xp_block ?_
    refine xp_seq ?_
    refine xp_dw [] rfl rfl rfl ?_
    refine dw_pure (i := 0) rfl (by decide +kernel) (pv_move (v := .pointer (some ⟨b6, 0, none⟩)) rfl) ?_
    refine dw_pure (i := 1) rfl (by decide +kernel) (pv_move (v := .pointer (some ⟨b6, 0, none⟩)) rfl) ?_
    refine dw_pure (i := 2) rfl (by decide +kernel) (pv_of (v := .pointer (some ⟨b6, 0, none⟩)) rfl) ?_
    refine dw_pure (i := 3) rfl (by decide +kernel) (pv_fieldAddr rfl rfl rfl rfl 0 rfl) ?_
    refine dw_load (i := 4) rfl (by decide +kernel) ?_
    refine op_loadP 0 (v := .int .u64 _) rfl rfl rfl rfl ?_
    refine dw_pure (i := 5) rfl (by decide +kernel) (pv_move (v := .slice _ _ _) rfl) ?_
    refine dw_pure (i := 6) rfl (by decide +kernel) (pv_move (v := .int .i64 _) rfl) ?_
    refine dw_pure (i := 7) rfl (by decide +kernel) (pv_indexE rfl hA rfl rfl rfl (by omega) (by omega)) ?_
    refine dw_load (i := 8) rfl (by decide +kernel) ?_
    refine op_load (v := .int .i64 _) rfl rfl ((hc) 0 _ rfl) ?_
    refine dw_some (i := 9) rfl (by decide +kernel) rfl fun r1 hr1 => ?_
    refine dw_some (i := 10) rfl (by decide +kernel) rfl fun r2 hr2 => ?_
    refine dw_some (i := 11) rfl (by decide +kernel) rfl fun r3 hr3 => ?_
    refine dw_pure (i := 12) rfl (by decide +kernel) (pv_of (v := .pointer (some ⟨b6, 0, none⟩)) rfl) ?_
    refine dw_pure (i := 13) rfl (by decide +kernel) (pv_fieldAddr rfl rfl rfl rfl 0 rfl) ?_
    refine dw_last (i := 14) rfl (by decide +kernel) (by decide +kernel) ?_
    refine op_storeP 0 (v := .int .u64 _) (vs := [_]) (c' := [_]) rfl rfl rfl rfl rfl rfl rfl rfl rfl ?_
    refine dw_norm [_] rfl ?_
    refine dw_end rfl ?_
    refine xp_dw [] rfl rfl rfl ?_
    refine dw_pure (i := 0) rfl (by decide +kernel) (pv_move (v := .pointer (some ⟨b6, 0, none⟩)) rfl) ?_
    refine dw_pure (i := 1) rfl (by decide +kernel) (pv_move (v := .pointer (some ⟨b6, 0, none⟩)) rfl) ?_
    refine dw_pure (i := 2) rfl (by decide +kernel) (pv_of (v := .pointer (some ⟨b6, 0, none⟩)) rfl) ?_
    refine dw_pure (i := 3) rfl (by decide +kernel) (pv_fieldAddr rfl rfl rfl rfl 0 rfl) ?_
    refine dw_load (i := 4) rfl (by decide +kernel) ?_
    refine op_loadP 0 (v := .int .u64 _) rfl rfl rfl rfl ?_
    refine dw_pure (i := 5) rfl (by decide +kernel) (pv_move (v := .pointer (some ⟨b6, 0, none⟩)) rfl) ?_
    refine dw_pure (i := 6) rfl (by decide +kernel) (pv_of (v := .pointer (some ⟨b6, 0, none⟩)) rfl) ?_
    refine dw_pure (i := 7) rfl (by decide +kernel) (pv_fieldAddr rfl rfl rfl rfl 0 rfl) ?_
    refine dw_load (i := 8) rfl (by decide +kernel) ?_
    refine op_loadP 0 (v := .int .u64 _) rfl rfl rfl rfl ?_
    refine dw_pure (i := 9) rfl (by decide +kernel) (pv_shr _ 32 (.inr rfl) rfl rfl rfl rfl (by omega)) ?_
    refine dw_some (i := 10) rfl (by decide +kernel) rfl fun r4 hr4 => ?_
    refine dw_pure (i := 11) rfl (by decide +kernel) (pv_of (v := .pointer (some ⟨b6, 0, none⟩)) rfl) ?_
    refine dw_pure (i := 12) rfl (by decide +kernel) (pv_fieldAddr rfl rfl rfl rfl 0 rfl) ?_
    refine dw_last (i := 13) rfl (by decide +kernel) (by decide +kernel) ?_
    refine op_storeP 0 (v := .int .u64 _) (vs := [_]) (c' := [_]) rfl rfl rfl rfl rfl rfl rfl rfl rfl ?_
    refine dw_norm [_] rfl ?_
    refine dw_end rfl ?_
    refine xp_region rfl ?_
    refine op_pure (pv_move (v := .int .i64 _) rfl) ?_
    refine op_pure (pv_arith rfl (by omega)) ?_
    refine op_pure (pv_assign (v := .int .i64 _) rfl) ?_
    refine ⟨(k + 1, r4), ⟨rfl, trivial⟩, rfl, rfl, E_k, fun h3 E3 => hlt, by first | omega | (dsimp only; omega), ?_⟩
    repeat (first | exact off_base _ _ _ | refine off_upd (by decide) ?_ | refine off_updL rfl ?_ | refine off_mix rfl ?_)
  · skip
    refine xp_exit ?_
    refine xp_seq ?_
    refine xp_region rfl ?_
    refine op_pure (pv_move (v := .pointer (some ⟨b6, 0, none⟩)) rfl) ?_
    refine op_pure (pv_assign (v := .pointer (some ⟨b6, 0, none⟩)) rfl) ?_
    refine xp_ret ?_
    refine res_list (vs := [_]) Try.results5 ⟨resV_tmp rfl rfl, trivial⟩ fun V => ?_
    exact ⟨_, [_], rfl, V, E_k, b6, x, rfl, rfl⟩
theorem Odds_ok (b x : Nat) (n m : Int) (hm : -2 ^ 30 ≤ m ∧ m ≤ 2 ^ 30) (h : AH) : FnM Try.prog (.func (.func 21) #[] ([] : List Value).toArray) [.pointer (some ⟨b, 0, none⟩), .int .i64 n, .int .i64 m] h [some (b, .cells #[.int .u64 (x : Int)] 76 (0, 0))]
    (fun v h' M' => ∃ (x' : Nat) (u : Bool), M' = [some (b, .cells #[.int .u64 (x' : Int)] 76 (0, 0))] ∧ v = .bool u) := by
  refine fnM_body rfl rfl Try.func21 rfl Try.ntmps21 rfl ?_
  refine xp_seq ?_
  refine xp_region rfl ?_
  refine op_pure (pv_assign (v := .bool _) rfl) ?_
  refine xp_seq ?_
  refine xp_region rfl ?_
  refine op_pure (pv_move (v := .pointer (some ⟨b, 0, none⟩)) rfl) ?_
  refine op_pure (pv_move (v := .int .i64 _) rfl) ?_
  refine op_pure (pv_arith rfl (by omega)) ?_
  refine op_fnMM [] [_] [] (vs := [.pointer _, .int .i64 _]) rfl rfl rfl ((Upto_ok b x (m - 1) (by omega) h)) ?_
  rintro _ h2 _ E2 ⟨x2, k, rfl, rfl, k1, k2⟩
  refine wp_norm [_] rfl ?_
  refine op_pure (pv_move (v := .int .i64 _) rfl) ?_
  refine op_pure (pv_of (v := .bool _) rfl) ?_
  refine op_pure (pv_assign (v := .bool _) rfl) ?_
  refine xp_ret ?_
  refine res_list (vs := [_]) Try.results21 ⟨resV_tmp rfl rfl, trivial⟩ fun V => ?_
  exact ⟨_, [_], rfl, V, E2, x2, _, rfl, rfl⟩
theorem boolI {p q : Bool} (e : p = true ↔ q = true) : Value.bool p = Value.bool q := by rw [Bool.eq_iff_iff.2 e]
theorem sameInts_ok (a b : List Int) (A B : Option Addr) (ca cb : Nat) (h : AH) (Ra : Row h 1 intC A a) (Rb : Row h 1 intC B b) (ha : a.length < 2 ^ 40) :
    FnT Try.prog 14 #[.slice A a.length ca, .slice B b.length cb] h (fun v _ => v = .bool (decide (a = b))) := by
  refine call_body Try.func14 rfl Try.ntmps14 rfl ?_
  refine xp_seq ?_
  refine xp_region rfl ?_
  refine op_pure (pv_assign (v := .bool _) rfl) ?_
  refine xp_seq ?_
  refine xp_region rfl ?_
  refine op_pure (pv_move (v := .slice _ _ _) rfl) ?_
  refine op_pure (pv_len rfl rfl) ?_
  refine op_pure (pv_move (v := .slice _ _ _) rfl) ?_
  refine op_pure (pv_len rfl rfl) ?_
  refine op_pure (pv_of (v := .bool _) rfl) ?_
  refine op_pure (pv_assign (v := .bool _) rfl) ?_
  refine xp_seq ?_
  refine xp_seq ?_
  refine xp_region rfl ?_
  refine op_pure (pv_assign (v := .int .i64 _) rfl) ?_
  refine xp_block ?_
  refine xp_loopM [5, 6, 12, 13, 14, 15, 16, 17, 18, 19, 20, 21, 22, 23, 24, 25, 26, 27, 28, 29] 0 (fun k : Nat => [(5, .bool (decide (a.length = b.length ∧ a.take k = b.take k))), (6, .int .i64 k)]) (fun k D L h' => D = [] ∧ k ≤ a.length ∧ Ext h h' ∧ L = []) (fun k => a.length - k) 0 ⟨by refine boolI ?_; simp; omega, rfl, trivial⟩ ⟨rfl, Nat.zero_le _, Ext.refl h, rfl⟩ ?_
  rintro k T D' L' h' ⟨rfl, hk, E, rfl⟩
  refine xp_seq ?_
  refine xp_seq ?_
  refine xp_region rfl ?_
  refine op_pure (pv_move (v := .bool _) rfl) ?_
  refine op_pure (pv_move (v := .bool _) rfl) ?_
  by_cases hp : a.length = b.length ∧ a.take k = b.take k
  · have hb : decide (a.length = b.length ∧ a.take k = b.take k) = true := by simpa using hp
    refine guard_yes rfl hb ?_
    refine op_pure (pv_move (v := .int .i64 _) rfl) ?_
    refine guard_yes rfl hb ?_
    refine op_pure (pv_move (v := .slice _ _ _) rfl) ?_
    refine guard_yes rfl hb ?_
    refine op_pure (pv_len rfl rfl) ?_
    refine guard_yes rfl hb ?_
    refine op_pure (pv_of (v := .bool _) rfl) ?_
    refine op_pure (pv_pickT rfl hb (v := .bool _) rfl) ?_
    refine xp_cond rfl (fun ht => ?_) (fun ht => ?_)
    · skip
      have hlt : k < a.length := by simpa using ht
      have hlt2 : k < b.length := by omega
      obtain ⟨g, off, rfl, hc⟩ := (Ra.ext E).at (by omega) hlt
      obtain ⟨g2, off2, rfl, hc2⟩ := (Rb.ext E).at (by omega) hlt2
      refine xp_skip ?_
      refine xp_seq ?_
      refine xp_block ?_
      refine xp_dw [] rfl rfl rfl ?_
      refine dw_pure (i := 0) rfl (by decide +kernel) (pv_move (v := .slice _ _ _) rfl) ?_
      refine dw_pure (i := 1) rfl (by decide +kernel) (pv_move (v := .int .i64 _) rfl) ?_
      refine dw_pure (i := 2) rfl (by decide +kernel) (pv_index rfl rfl rfl rfl (by omega) (by omega)) ?_
      refine dw_load (i := 3) rfl (by decide +kernel) ?_
      refine op_load rfl rfl (hc 0 (.int .i64 a[k]) rfl) ?_
      refine dw_pure (i := 4) rfl (by decide +kernel) (pv_move (v := .slice _ _ _) rfl) ?_
      refine dw_pure (i := 5) rfl (by decide +kernel) (pv_move (v := .int .i64 _) rfl) ?_
      refine dw_pure (i := 6) rfl (by decide +kernel) (pv_index rfl rfl rfl rfl (by omega) (by omega)) ?_
      refine dw_load (i := 7) rfl (by decide +kernel) ?_
      refine op_load rfl rfl (hc2 0 (.int .i64 b[k]) rfl) ?_
      refine dw_pure (i := 8) rfl (by decide +kernel) (pv_of (v := .bool _) rfl) ?_
      refine dw_pure (i := 9) rfl (by decide +kernel) (pv_assign (v := .bool _) rfl) ?_
      refine dw_end rfl ?_
      refine xp_region rfl ?_
      refine op_pure (pv_move (v := .int .i64 _) rfl) ?_
      refine op_pure (pv_arith rfl (by omega)) ?_
      refine op_pure (pv_assign (v := .int .i64 _) rfl) ?_
      refine ⟨k + 1, ⟨?_, rfl, trivial⟩, fun h3 E3 => ⟨rfl, by omega, E.trans E3, rfl⟩, by omega, ?_⟩
      · refine boolI ?_
        have e1 := List.take_succ_eq_append_getElem hlt
        have e2 := List.take_succ_eq_append_getElem hlt2
        have e3 : (a.length = b.length ∧ b.take k ++ [a[k]] = b.take k ++ [b[k]]) ↔ a[k] = b[k] := ⟨fun e => by have := List.append_cancel_left e.2; injection this, fun e => ⟨hp.1, by rw [e]⟩⟩
        rw [e1, e2, hp.2, decide_eq_true_iff, e3]
        simp
      · repeat (first | exact off_base _ _ _ | refine off_upd (by decide) ?_ | refine off_updL rfl ?_ | refine off_mix rfl ?_)
    · skip
      refine xp_exit ?_
      refine xp_seq ?_
      refine xp_region rfl ?_
      refine op_pure (pv_move (v := .bool _) rfl) ?_
      refine op_pure (pv_assign (v := .bool _) rfl) ?_
      refine xp_ret ?_
      refine res_list (vs := [_]) Try.results14 ⟨resV_tmp rfl rfl, trivial⟩ fun V => ?_
      refine ⟨E.trans (ext_wl V), boolI ?_⟩
      have : k = a.length := by simp at ht; omega
      subst this
      have h2 := hp.2
      rw [hp.1, List.take_length, ← hp.1, List.take_length] at h2
      simp [h2]
  · have hb : decide (a.length = b.length ∧ a.take k = b.take k) = false := by simpa using hp
    refine guard_no rfl hb ?_
    refine guard_no rfl hb ?_
    refine guard_no rfl hb ?_
    refine guard_no rfl hb ?_
    refine op_pure (pv_pickF rfl hb (v := .bool _) rfl) ?_
    refine xp_cond rfl (fun ht => ?_) (fun ht => ?_)
    · cases ht
    · skip
      refine xp_exit ?_
      refine xp_seq ?_
      refine xp_region rfl ?_
      refine op_pure (pv_move (v := .bool _) rfl) ?_
      refine op_pure (pv_assign (v := .bool _) rfl) ?_
      refine xp_ret ?_
      refine res_list (vs := [_]) Try.results14 ⟨resV_tmp rfl rfl, trivial⟩ fun V => ?_
      refine ⟨E.trans (ext_wl V), boolI ?_⟩
      have : a ≠ b := fun e => hp (by rw [e]; exact ⟨rfl, rfl⟩)
      simp [this]
      exact fun x y => hp ⟨x, y⟩
end
end Go.Proofs.Ytlfbcimcehcomaa
/- Walks of package rod: all hands of a machine. Conditions: as each theorem states. -/
namespace Go.Proofs.Ytlfbcimcehcomaa
open Go Go.HL Go.Proofs Go.Wx Go.Rd
section
variable [Lvl]
set_option maxRecDepth 100000
def pairsM (ls bs : List (List Int)) : List HandP := ls.flatMap fun b => bs.map fun o => ⟨b, o⟩
/-- All hands of a machine, in order. -/
def handsM (m : MachP) : List HandP := pairsM (setsM m.buttons.length) (setsM m.regs.toNat)
/-- A hand, as a value. -/
def TA (h : AH) (a : HandP) (v : Value) : Prop := HandV h a v
end
end Go.Proofs.Ytlfbcimcehcomaa
/- Walks of package rod: the next test. Conditions: as each theorem states. -/
namespace Go.Proofs.Ytlfbcimcehcomaa
open Go Go.HL Go.Proofs Go.Wx Go.Rd
section
variable [Lvl]
set_option maxRecDepth 100000
def sndL (m : MachP) (ms : List (List FaultP)) (a : HandP) : List Nat := ms.map fun l => soundsB m l a
/-- The most that sound alike, of the first k. -/
def worstN (ss : List Nat) : Nat → Nat
  | 0 => 0
  | k + 1 => max (worstN ss k) ((ss.take (k + 1)).reverse.count (ss.getD k 0))
def bestS (m : MachP) (ms : List (List FaultP)) (q : HandP × Nat) (a : HandP) : HandP × Nat := if worstN (sndL m ms a) ms.length < q.2 then (a, worstN (sndL m ms a) ms.length) else q
def bestN (m : MachP) (ms : List (List FaultP)) (k : Nat) : HandP × Nat := ((handsM m).take k).foldl (bestS m ms) (⟨[], []⟩, ms.length)
/-- Machines with faults, as elements. -/
def TB (m : MachP) (h : AH) (l : List FaultP) (c : List Value) : Prop := ∃ y, c = [y] ∧ BrkV h m l y
theorem TB.mono (m : MachP) : Mono (TB m) := fun h h' l c e ⟨y, hc, r⟩ => ⟨y, hc, r.ext e⟩
/-- What holds between the hands. -/
def TestI (m : MachP) (ms : List (List FaultP)) (p2 p10 : Nat × Obj) (b4 b5 l : Nat) (r : Loop) (h0 : AH) (k : Nat) (h : AH) (M : Pv) : Prop :=
  Ext h0 h ∧ ∃ (HA OA : Option Addr) (cH cO : Nat), HandR h HA OA (bestN m ms k).1 ∧
    M = [some p2, some (b4, .cells #[.slice HA (bestN m ms k).1.buttons.length cH, .slice OA (bestN m ms k).1.on.length cO] 37 (0, 0)), some (b5, .cells #[.int .i64 ((bestN m ms k).2 : Nat)] 3 (0, 0)), some p10, none, some (l, obL r .ready none)]
theorem TestI.ext {m : MachP} {ms : List (List FaultP)} {p2 p10 : Nat × Obj} {b4 b5 l : Nat} {r : Loop} {h0 : AH} {k : Nat} {h h' : AH} {M : Pv} (I : TestI m ms p2 p10 b4 b5 l r h0 k h M) (E : Ext h h') : TestI m ms p2 p10 b4 b5 l r h0 k h' M := by
  obtain ⟨E0, HA, OA, cH, cO, RH, e⟩ := I
  exact ⟨E0.trans E, HA, OA, cH, cO, RH.ext E, e⟩
end
end Go.Proofs.Ytlfbcimcehcomaa
/- Walks of the laws of rod: the chapter's machine; equal lists and hands. Conditions: as each theorem states. -/
namespace Go.Proofs.Ytlfbcimcehcomaa
open Go Go.HL Go.Proofs Go.Wx Go.Rd
section
variable [Lvl]
set_option maxRecDepth 100000
theorem take_eq {α : Type} {a b : List α} {k : Nat} (ha : k < a.length) (hb : k < b.length) (hl : a.length = b.length) (h : a.take k = b.take k) : (a.length = b.length ∧ a.take (k + 1) = b.take (k + 1)) ↔ a[k] = b[k] := by
  rw [List.take_succ_eq_append_getElem ha, List.take_succ_eq_append_getElem hb, h]
  exact ⟨fun e => by have := List.append_cancel_left e.2; injection this, fun e => ⟨hl, by rw [e]⟩⟩
theorem sameLists_ok (a b : List (List Int)) (A B : Option Addr) (ca cb : Nat) (cs ds : List (List Value)) (h : AH) (Ra : Row h 1 id A cs) (Ea : Els h TL a cs) (Rb : Row h 1 id B ds) (Eb : Els h TL b ds) (ha : a.length < 2 ^ 40) (hx : ∀ x ∈ a, x.length < 2 ^ 40) :
    FnT Try.prog 55 #[.slice A a.length ca, .slice B b.length cb] h (fun v _ => v = .bool (decide (a = b))) := by
  refine call_body Try.func55 rfl Try.ntmps55 rfl ?_
  refine xp_seq ?_
  refine xp_region rfl ?_
  refine op_pure (pv_assign (v := .bool _) rfl) ?_
  refine xp_seq ?_
  refine xp_region rfl ?_
  refine op_pure (pv_move (v := .slice _ _ _) rfl) ?_
  refine op_pure (pv_len rfl rfl) ?_
  refine op_pure (pv_move (v := .slice _ _ _) rfl) ?_
  refine op_pure (pv_len rfl rfl) ?_
  refine op_pure (pv_of (v := .bool _) rfl) ?_
  refine op_pure (pv_assign (v := .bool _) rfl) ?_
  refine xp_seq ?_
  refine xp_seq ?_
  refine xp_region rfl ?_
  refine op_pure (pv_assign (v := .int .i64 _) rfl) ?_
  refine xp_block ?_
  refine xp_loopB [5, 6, 12, 13, 14, 15, 16, 17, 18, 19, 20, 21, 22, 23, 24, 25, 26, 27, 28, 29] 0 (α := Nat) (fun k => [(5, .bool (decide (a.length = b.length ∧ a.take k = b.take k))), (6, .int .i64 k)]) (fun k => _) (fun k h_k => k ≤ a.length) (fun k => a.length - k) (0) ⟨by refine boolI ?_; simp; omega, rfl, trivial⟩ (rfl) (Nat.zero_le _) ?_
  rintro k T1 h_k E_k J_k
  refine goes_norm [] rfl ?_
  refine xp_seq ?_
  refine xp_seq ?_
  refine xp_region rfl ?_
  refine op_pure (pv_move (v := .bool _) rfl) ?_
  refine op_pure (pv_move (v := .bool _) rfl) ?_
  by_cases hp : a.length = b.length ∧ a.take k = b.take k
  · have hb : decide (a.length = b.length ∧ a.take k = b.take k) = true := by simpa using hp
    refine guard_yes rfl hb ?_
    refine op_pure (pv_move (v := .int .i64 _) rfl) ?_
    refine guard_yes rfl hb ?_
    refine op_pure (pv_move (v := .slice _ _ _) rfl) ?_
    refine guard_yes rfl hb ?_
    refine op_pure (pv_len rfl rfl) ?_
    refine guard_yes rfl hb ?_
    refine op_pure (pv_of (v := .bool _) rfl) ?_
    refine op_pure (pv_pickT rfl hb (v := .bool _) rfl) ?_
    refine xp_cond rfl (fun ht => ?_) (fun ht => ?_)
    · skip
      have hlt : k < a.length := by simpa using ht
      have hlt2 : k < b.length := by omega
      obtain ⟨hka, v1, e1, ⟨X1, c1, rfl, r1⟩⟩ := (Ea.ext TL.mono E_k).at hlt
      obtain ⟨hkb, v2, e2, ⟨X2, c2, rfl, r2⟩⟩ := (Eb.ext TL.mono E_k).at hlt2
      obtain ⟨g, off, hA, hc⟩ := (Ra.ext E_k).at (by omega) hka
      obtain ⟨g2, off2, hB, hd⟩ := (Rb.ext E_k).at (by omega) hkb
      have hc : Cells h_k g (off + k * 1) [.slice X1 a[k].length c1] := by rw [← e1]; exact hc
      have hd : Cells h_k g2 (off2 + k * 1) [.slice X2 b[k].length c2] := by rw [← e2]; exact hd
      refine xp_skip ?_
      refine xp_seq ?_
      refine xp_block ?_
      refine xp_dw [] rfl rfl rfl ?_
      refine dw_pure (i := 0) rfl (by decide +kernel) (pv_move (v := .slice _ _ _) rfl) ?_
      refine dw_pure (i := 1) rfl (by decide +kernel) (pv_move (v := .int .i64 _) rfl) ?_
      refine dw_pure (i := 2) rfl (by decide +kernel) (pv_indexE rfl hA rfl rfl rfl (by omega) (by omega)) ?_
      refine dw_load (i := 3) rfl (by decide +kernel) ?_
      refine op_load (v := .slice _ _ _) rfl rfl ((hc) 0 _ rfl) ?_
      refine dw_pure (i := 4) rfl (by decide +kernel) (pv_move (v := .slice _ _ _) rfl) ?_
      refine dw_pure (i := 5) rfl (by decide +kernel) (pv_move (v := .int .i64 _) rfl) ?_
      refine dw_pure (i := 6) rfl (by decide +kernel) (pv_indexE rfl hB rfl rfl rfl (by omega) (by omega)) ?_
      refine dw_load (i := 7) rfl (by decide +kernel) ?_
      refine op_load (v := .slice _ _ _) rfl rfl ((hd) 0 _ rfl) ?_
      refine dw_last (i := 8) rfl (by decide +kernel) (by decide +kernel) ?_
      refine op_fn (caps := []) (vs := [.slice _ _ _, .slice _ _ _]) rfl rfl rfl (sameInts_ok a[k] b[k] _ _ _ _ h_k r1 r2 (hx _ (List.getElem_mem hlt))) ?_
      rintro _ h4 E4 rfl
      refine dw_pure (i := 9) rfl (by decide +kernel) (pv_assign (v := .bool _) rfl) ?_
      refine dw_end rfl ?_
      refine xp_region rfl ?_
      refine op_pure (pv_move (v := .int .i64 _) rfl) ?_
      refine op_pure (pv_arith rfl (by omega)) ?_
      refine op_pure (pv_assign (v := .int .i64 _) rfl) ?_
      refine ⟨k + 1, ⟨boolI (by rw [decide_eq_true_iff, decide_eq_true_iff, take_eq hlt hlt2 hp.1 hp.2]), rfl, trivial⟩, rfl, rfl, (Ext.trans E_k E4), fun h3 E3 => hlt, by first | omega | (dsimp only; omega), ?_⟩
      repeat (first | exact off_base _ _ _ | refine off_upd (by decide) ?_ | refine off_updL rfl ?_ | refine off_mix rfl ?_)
    · skip
      refine xp_exit ?_
      refine xp_seq ?_
      refine xp_region rfl ?_
      refine op_pure (pv_move (v := .bool _) rfl) ?_
      refine op_pure (pv_assign (v := .bool _) rfl) ?_
      refine xp_ret ?_
      refine res_list (vs := [_]) Try.results55 ⟨resV_tmp rfl rfl, trivial⟩ fun V => ?_
      refine ⟨(Ext.trans E_k (ext_wl V)), boolI ?_⟩
      have : k = a.length := by simp at ht; omega
      subst this
      have h2 := hp.2
      rw [hp.1, List.take_length, ← hp.1, List.take_length] at h2
      simp [h2]
  · have hb : decide (a.length = b.length ∧ a.take k = b.take k) = false := by simpa using hp
    refine guard_no rfl hb ?_
    refine guard_no rfl hb ?_
    refine guard_no rfl hb ?_
    refine guard_no rfl hb ?_
    refine op_pure (pv_pickF rfl hb (v := .bool _) rfl) ?_
    refine xp_cond rfl (fun ht => ?_) (fun ht => ?_)
    · cases ht
    · skip
      refine xp_exit ?_
      refine xp_seq ?_
      refine xp_region rfl ?_
      refine op_pure (pv_move (v := .bool _) rfl) ?_
      refine op_pure (pv_assign (v := .bool _) rfl) ?_
      refine xp_ret ?_
      refine res_list (vs := [_]) Try.results55 ⟨resV_tmp rfl rfl, trivial⟩ fun V => ?_
      refine ⟨(Ext.trans E_k (ext_wl V)), boolI ?_⟩
      have : a ≠ b := fun e => hp (by rw [e]; exact ⟨rfl, rfl⟩)
      simp [this]
      exact fun x y => hp ⟨x, y⟩
end
end Go.Proofs.Ytlfbcimcehcomaa
/- The own logic, part CC: guarded operations that turn memory, amid drawn regions. Conditions: none. -/
namespace Go.HL
open Go
variable [Lvl]
variable {P : Program} {n : Nat} {ops : Array Oper} {i : Nat} {d : Option Tmp} {op : Op} {ty : TypeId} {ps : String} {af : Array Edge} {S : Sl} {L : Pv} {h : AH} {mask : List Bool} {X : Sl → AH → Prop} {dn ac : List Nat}
end Go.HL
/- The own logic, part GP: drawn regions where guarded operations that only make a block may come in any order. Conditions: none. -/
namespace Go.HL
open Go
variable [Lvl]
section
variable {P : Program} {n : Nat} {ops : Array Oper}
end
section
variable {P : Program} {n : Nat} {ops : Array Oper} {i : Nat} {d : Option Tmp} {op : Op} {ty : TypeId} {ps : String} {af : Array Edge} {S : Sl} {L : Pv} {h : AH} {mask : List Bool} {X : Sl → AH → Prop} {dn ac : List Nat}
end
end Go.HL
/- Walks of the laws of rod: the chapter's examples hold. Conditions: as each theorem states. -/
namespace Go.Proofs.Ytlfbcimcehcomaa
open Go Go.HL Go.Proofs Go.Wx Go.Rd
section
variable [Lvl]
set_option maxRecDepth 100000
end
end Go.Proofs.Ytlfbcimcehcomaa
/- Plain: other numbers of rods and levers, another order of pins. Conditions: none. -/
namespace Go.Rd
open Go Go.HL Go.Wx
variable [Lvl]
/-- Rods renamed by s. -/
def renL (s : Int → Int) (l : LinkP) : LinkP := ⟨s l.frm, s l.to, l.reg, l.lag⟩
structure RenR (s : Int → Int) (m m' : MachP) : Prop where
  rods : m'.rods = m.rods
  bd : ∀ r, 0 ≤ r → r < m.rods → 0 ≤ s r ∧ s r < m.rods
  btn : m'.buttons = m.buttons.map s
  links : m'.links = m.links.map (renL s)
/-- Renamed, and back. -/
structure Inv (s t : Int → Int) (n : Int) : Prop where
  sb : ∀ r, 0 ≤ r → r < n → 0 ≤ s r ∧ s r < n
  tb : ∀ r, 0 ≤ r → r < n → 0 ≤ t r ∧ t r < n
  ts : ∀ r, 0 ≤ r → r < n → t (s r) = r
  st : ∀ r, 0 ≤ r → r < n → s (t r) = r
end Go.Rd
/- Plain: sums in any order; rods that nothing turns. Conditions: none. -/
namespace Go.Rd
open Go Go.HL Go.Wx
variable [Lvl]
end Go.Rd
/- Plain: buttons that are pressed down less deep. Conditions: none. -/
namespace Go.Rd
open Go Go.HL Go.Wx
variable [Lvl]
end Go.Rd
/- Walks: machines and hands that are made of numbers, copies. Conditions: as each theorem states. -/
namespace Go.Proofs.Ytlfbcimcehcomaa
open Go Go.HL Go.Proofs Go.Wx Go.Rd
section
variable [Lvl]
set_option maxRecDepth 100000
theorem tmod_gt (x : Int) {n : Int} (hn : 0 < n) : -n < x.tmod n := by
  by_cases h : 0 ≤ x
  · have := Int.tmod_nonneg n h; omega
  · obtain ⟨y, rfl⟩ : ∃ y, x = -y := ⟨-x, by omega⟩
    rw [Int.neg_tmod]
    have := Int.tmod_lt_of_pos y hn
    omega
def turnI (x n : Int) : Int := if n < 2 then 0 else (x.tmod n + n).tmod n
theorem turnI_bd (x n : Int) : 0 ≤ turnI x n ∧ (1 ≤ n → turnI x n < n) := by
  unfold turnI
  split
  · omega
  · rename_i h
    have h1 : -n < x.tmod n := tmod_gt x (by omega)
    have h2 : 0 ≤ x.tmod n + n := by omega
    exact ⟨Int.tmod_nonneg n h2, fun _ => Int.tmod_lt_of_pos _ (by omega)⟩
theorem turnI_ne {f d n : Int} (hn : 2 ≤ n) (h0 : 0 ≤ f ∧ f < n) (hd : 1 ≤ d ∧ d < n) : turnI (f + d) n ≠ f := by
  unfold turnI
  rw [if_neg (by omega)]
  rw [Int.tmod_eq_emod_of_nonneg (by omega : 0 ≤ f + d), Int.tmod_eq_emod_of_nonneg (by have := Int.emod_nonneg (f + d) (by omega : n ≠ 0); omega)]
  rw [Int.add_emod_right, Int.emod_emod]
  intro e
  by_cases h : f + d < n
  · rw [Int.emod_eq_of_lt (by omega) h] at e; omega
  · have : (f + d) % n = f + d - n := by
      rw [← Int.sub_emod_right (f + d) n, Int.emod_eq_of_lt (by omega) (by omega)]
    omega
theorem Turn_ok (x n : Int) (hn : n ≤ 2 ^ 40) (h : AH) : FnT Try.prog 26 #[.int .i64 x, .int .i64 n] h (fun v _ => v = .int .i64 (turnI x n)) := by
  refine call_body Try.func26 rfl Try.ntmps26 rfl ?_
  refine xp_seq ?_
  refine xp_region rfl ?_
  refine op_pure (pv_assign (v := .int .i64 _) rfl) ?_
  refine xp_seq ?_
  refine xp_seq ?_
  refine xp_region rfl ?_
  refine op_pure (pv_move (v := .int .i64 _) rfl) ?_
  refine op_pure (pv_of (v := .bool _) rfl) ?_
  refine xp_cond rfl (fun ht => ?_) (fun ht => ?_)
  · skip
    have ht' : n < 2 := of_decide_eq_true ht
    refine xp_seq ?_
    refine xp_region rfl ?_
    refine op_pure (pv_assign (v := .int .i64 _) rfl) ?_
    refine xp_ret ?_
    refine res_list (vs := [_]) Try.results26 ⟨resV_tmp rfl rfl, trivial⟩ fun V => ?_
    exact ⟨(ext_wl V), intE (by rw [turnI, if_pos ht'])⟩
  · skip
    have ht' : ¬ n < 2 := of_decide_eq_false ht
    have h1 : -n < x.tmod n := tmod_gt x (by omega)
    have h2 : x.tmod n < n := Int.tmod_lt_of_pos _ (by omega)
    refine xp_skip ?_
    refine xp_seq ?_
    refine xp_region rfl ?_
    refine op_pure (pv_move (v := .int .i64 _) rfl) ?_
    refine op_pure (pv_move (v := .int .i64 _) rfl) ?_
    refine op_pure (pv_remT rfl rfl (by omega)) ?_
    refine op_pure (pv_move (v := .int .i64 _) rfl) ?_
    refine op_pure (pv_arith rfl (by omega)) ?_
    refine op_pure (pv_move (v := .int .i64 _) rfl) ?_
    refine op_pure (pv_remT rfl rfl (by omega)) ?_
    refine op_pure (pv_assign (v := .int .i64 _) rfl) ?_
    refine xp_ret ?_
    refine res_list (vs := [_]) Try.results26 ⟨resV_tmp rfl rfl, trivial⟩ fun V => ?_
    exact ⟨(ext_wl V), intE (by rw [turnI, if_neg ht'])⟩
/-- A machine that is made of numbers. -/
structure Made (size pins links : Int) (m : MachP) : Prop where
  ok : MOK m
  rs : m.rods ≤ size
  ls : m.levers ≤ size
  bl : m.buttons.length ≤ 3
  pl : (m.pins.length : Int) ≤ pins
  ll : (m.links.length : Int) ≤ links
theorem mem_one {α : Type} {P : α → Prop} {l : List α} {z : α} (h : ∀ x ∈ l, P x) (hz : P z) : ∀ x ∈ l ++ [z], P x := fun x hx => by
  rcases List.mem_append.1 hx with hx | hx
  · exact h x hx
  · simp at hx; subst hx; exact hz
/-- A machine's pins and links have room. -/
def CapM (v : Value) : Prop := ∀ AB AQ AL AW cB cQ cL cW m, v = machV AB AQ AL AW cB cQ cL cW m → m.pins.length ≤ cQ ∧ m.links.length ≤ cL
theorem capM_of {z1 z2 z3 z4 z5 zB zW : Value} {A A' : Option Addr} {n n' c c' : Nat} (h : n ≤ c) (h' : n' ≤ c') : CapM (.agg #[z1, z2, z3, z4, z5, zB, .slice A n c, .slice A' n' c', zW]) := by
  intro AB AQ AL AW cB cQ cL cW m e
  simp only [machV, Value.agg.injEq, Array.mk.injEq, List.cons.injEq, Value.slice.injEq] at e
  obtain ⟨_, _, _, _, _, _, ⟨_, e1, e2⟩, ⟨_, e3, e4⟩, _⟩ := e
  omega
set_option maxHeartbeats 8000000 in
theorem MachineOf_okC (b x : Nat) (size pins links : Int) (hs : 1 ≤ size ∧ size ≤ 6) (hp : 0 ≤ pins ∧ pins ≤ 8) (hl : 0 ≤ links ∧ links ≤ 4) (h : AH) :
    FnM Try.prog (.func (.func 6) #[] ([] : List Value).toArray) [.pointer (some ⟨b, 0, none⟩), .int .i64 size, .int .i64 pins, .int .i64 links] h [some (b, .cells #[.int .u64 (x : Int)] 76 (0, 0))]
    (fun v h' M' => ∃ (x' : Nat) (m : MachP), M' = [some (b, .cells #[.int .u64 (x' : Int)] 76 (0, 0))] ∧ MachV h' m v ∧ Made size pins links m ∧ CapM v) := by
  refine fnM_body rfl rfl Try.func6 rfl Try.ntmps6 rfl ?_
  refine xp_seq ?_
  refine xp_region rfl ?_
  refine op_alloc (cs := [_, _, _, _, _, _, _, _, _]) rfl rfl fun b8 hb8 => ?_
  refine wp_norm [_, _] rfl ?_
  refine xp_seq ?_
  refine xp_region rfl ?_
  refine op_pure (pv_move (v := .pointer (some ⟨b, 0, none⟩)) rfl) ?_
  refine op_pure (pv_move (v := .int .i64 _) rfl) ?_
  refine op_pure (pv_min rfl rfl) ?_
  refine op_fnMM [] [_] [_] (vs := [.pointer _, .int .i64 _, .int .i64 _]) rfl rfl rfl ((Within_ok b x 1 (min size 6) (by omega) (by omega) (by omega) h)) ?_
  rintro _ h1 _ E1 ⟨x1, r, rfl, rfl, r1, r2⟩
  refine wp_norm [_, _] rfl ?_
  refine op_pure (pv_move (v := .pointer (some ⟨b, 0, none⟩)) rfl) ?_
  refine op_pure (pv_move (v := .int .i64 _) rfl) ?_
  refine op_pure (pv_min rfl rfl) ?_
  refine op_fnMM [] [_] [_] (vs := [.pointer _, .int .i64 _, .int .i64 _]) rfl rfl rfl ((Within_ok b x1 1 (min size 6) (by omega) (by omega) (by omega) h1)) ?_
  rintro _ h2 _ E2 ⟨x2, v, rfl, rfl, v1, v2⟩
  refine wp_norm [_, _] rfl ?_
  refine op_pure (pv_move (v := .pointer (some ⟨b, 0, none⟩)) rfl) ?_
  refine op_fnMM [] [_] [_] (vs := [.pointer _, .int .i64 _]) rfl rfl rfl ((Upto_ok b x2 2 (by omega) h2)) ?_
  rintro _ h3 _ E3 ⟨x3, g, rfl, rfl, g1, g2⟩
  refine wp_norm [_, _] rfl ?_
  refine op_pure (pv_move (v := .pointer (some ⟨b, 0, none⟩)) rfl) ?_
  refine op_fnMM [] [_] [_] (vs := [.pointer _, .int .i64 _, .int .i64 _]) rfl rfl rfl ((Within_ok b x3 2 12 (by omega) (by omega) (by omega) h3)) ?_
  rintro _ h4 _ E4 ⟨x4, t, rfl, rfl, t1, t2⟩
  refine wp_norm [_, _] rfl ?_
  refine op_pure (pv_build (zc := [_, _, _, _, _, _, _, _, _]) (vs := [(0, .int .i64 _), (1, .int .i64 _), (2, .int .i64 _), (3, .int .i64 _)]) (cs := [_, _, _, _, _, _, _, _, _]) rfl rfl rfl rfl rfl rfl) ?_
  refine op_alloc (cs := [_, _, _, _, _, _, _, _, _]) rfl rfl fun b9 hb9 => ?_
  refine wp_norm [_, _, _] rfl ?_
  refine op_storeP 2 (v := .agg #[.int .i64 _, .int .i64 _, .int .i64 _, .int .i64 _, .int .i64 _, .slice _ _ _, .slice _ _ _, .slice _ _ _, .slice _ _ _]) (vs := [_, _, _, _, _, _, _, _, _]) (c' := [_, _, _, _, _, _, _, _, _]) rfl rfl rfl rfl rfl rfl rfl rfl rfl ?_
  refine wp_norm [_, _, _] rfl ?_
  refine xp_seq ?_
  refine xp_region rfl ?_
  refine op_pure (pv_move (v := .pointer (some ⟨b, 0, none⟩)) rfl) ?_
  refine op_pure (pv_fieldAddr rfl rfl rfl rfl 3 rfl) ?_
  refine op_loadP 2 (v := .int .i64 _) rfl rfl rfl rfl ?_
  refine op_pure (pv_quoT (c := t / 3) rfl rfl (by omega) (Int.tdiv_eq_ediv_of_nonneg (by omega)) (by omega)) ?_
  refine op_pure (pv_max rfl rfl) ?_
  refine op_fnMM [] [_] [_, _] (vs := [.pointer _, .int .i64 _, .int .i64 _]) rfl rfl rfl ((Within_ok b x4 1 (max 1 (t / 3)) (by omega) (by omega) (by omega) h4)) ?_
  rintro _ h5 _ E5 ⟨x5, o, rfl, rfl, o1, o2⟩
  refine wp_norm [_, _, _] rfl ?_
  refine op_pure (pv_fieldAddr rfl rfl rfl rfl 4 rfl) ?_
  refine op_storeP 2 (v := .int .i64 _) (vs := [_]) (c' := [_, _, _, _, _, _, _, _, _]) rfl rfl rfl rfl rfl rfl rfl rfl rfl ?_
  refine wp_norm [_, _, _] rfl ?_
  refine goes_more ?_
  refine goes_norm [_, _, _, _] rfl ?_
  refine goes_more ?_
  refine goes_norm [_, _, _, _, _] rfl ?_
  refine goes_more ?_
  refine goes_norm [_, _, _, _, _, _] rfl ?_
  refine goes_more ?_
  refine goes_norm [_, _, _, _, _, _, _] rfl ?_
  refine xp_seq ?_
  refine xp_seq ?_
  refine xp_region rfl ?_
  refine op_pure (pv_move (v := .pointer (some ⟨b, 0, none⟩)) rfl) ?_
  refine op_fnMM [] [_] [_, _, _, _, _, _] (vs := [.pointer _, .int .i64 _]) rfl rfl rfl ((Upto_ok b x5 3 (by omega) h5)) ?_
  rintro _ h6 _ E6 ⟨x6, i0, rfl, rfl, i01, i02⟩
  refine wp_norm [_, _, _, _, _, _, _] rfl ?_
  refine op_pure (pv_assign (v := .int .i64 _) rfl) ?_
  refine xp_block ?_
  refine xp_loopL [10, 37, 38, 39, 40, 41, 42, 43, 44, 45, 46, 47, 48, 49, 50] 7 (α := Int × Nat × List Int × Acc) (fun ⟨i, y, bs, a⟩ => [(10, .int .i64 i)]) (fun ⟨i, y, bs, a⟩ L => ((L.set 0 (some (b, .cells #[.int .u64 (y : Int)] 76 (0, 0)))).set 2 (some (b9, .cells #[.int .i64 r, .int .i64 v, .int .i64 g, .int .i64 t, .int .i64 o, .slice a.A a.n a.c, .slice none 0 0, .slice none 0 0, .slice none 0 0] 28 (0, 0)))).set 3 (a.p)) (fun ⟨i, y, bs, a⟩ h_i => (0 ≤ i ∧ i + bs.length ≤ 3) ∧ (∀ z ∈ bs, 0 ≤ z ∧ z < r) ∧ AccR 3 1 (bs.flatMap intC) a) (fun ⟨i, y, bs, a⟩ => i.toNat) ((i0, x6, [], acc0)) ⟨rfl, trivial⟩ (rfl) (⟨⟨by omega, by simp; omega⟩, fun _ hz => absurd hz List.not_mem_nil, accR0⟩) ?_
  rintro ⟨i, y, bs, a⟩ T1 h_i E_i J_i
  refine goes_norm [_, _, _, _, _, _, _] rfl ?_
  obtain ⟨⟨K1, K2⟩, K3, KA⟩ := J_i
  refine xp_seq ?_
  refine xp_seq ?_
  refine xp_region rfl ?_
  refine op_pure (pv_move (v := .int .i64 _) rfl) ?_
  refine op_pure (pv_of (v := .bool _) rfl) ?_
  refine xp_cond rfl (fun ht => ?_) (fun ht => ?_)
  · skip
    have hi : 0 < i := of_decide_eq_true ht
    refine xp_skip ?_
    refine xp_seq ?_
    refine xp_block ?_
    refine xp_dw [true, false, false, false, false, false, false] rfl rfl rfl ?_
    refine dw_pure (i := 0) rfl (by decide +kernel) (pv_fieldAddr rfl rfl rfl rfl 5 rfl) ?_
    refine dw_load (i := 1) rfl (by decide +kernel) ?_
    refine op_loadP 2 (v := .slice _ _ _) rfl rfl rfl rfl ?_
    refine dw_pure (i := 2) rfl (by decide +kernel) (pv_move (v := .pointer (some ⟨b, 0, none⟩)) rfl) ?_
    refine dw_pure (i := 3) rfl (by decide +kernel) (pv_fieldAddr rfl rfl rfl rfl 0 rfl) ?_
    refine dw_load (i := 4) rfl (by decide +kernel) ?_
    refine op_loadP 2 (v := .int .i64 _) rfl rfl rfl rfl ?_
    refine dw_pure (i := 5) rfl (by decide +kernel) (pv_arith rfl (by omega)) ?_
    refine dw_eff (i := 6) rfl (by decide +kernel) ?_
    refine op_fnMM [] [_] [_, _, _, _, _, _] (vs := [.pointer _, .int .i64 _]) rfl rfl rfl ((Upto_ok b y (r - 1) (by omega) h_i)) ?_
    rintro _ h7 _ E7 ⟨y2, z, rfl, rfl, z1, z2⟩
    refine ⟨ext_wlm E7 _, ?_⟩
    refine dw_norm [_, _, _, _, _, _, _] rfl ?_
    refine dw_eff (i := 7) rfl (by decide +kernel) ?_
    refine op_buildSlice (zc := [_]) (vs := [(0, .int .i64 _)]) (cs := [_]) rfl rfl rfl rfl rfl rfl rfl fun b48 hb48 => ?_
    refine ⟨ext_newM hb48 _, ?_⟩
    refine dw_norm [_, _, _, _, _, _, _, _] rfl ?_
    refine dw_last (i := 8) rfl (by decide +kernel) (by decide +kernel) ?_
    refine op_appendR 3 KA rfl rfl rfl (fun V => rdP V (i := 7) rfl) rfl rfl rfl rfl rfl rfl rfl rfl rfl (by omega) rfl (by rw [flat_len (m := 1) (fun _ _ => rfl)]; simp; omega) fun a2 h2a E2a ha2 => ?_
    refine dw_norm [_, _, _, _, _, _, _, _] rfl ?_
    refine dw_pure (i := 9) rfl (by decide +kernel) (pv_fieldAddr rfl rfl rfl rfl 5 rfl) ?_
    refine dw_last (i := 10) rfl (by decide +kernel) (by decide +kernel) ?_
    refine op_storeP 2 (v := .slice _ _ _) (vs := [_]) (c' := [_, _, _, _, _, _, _, _, _]) rfl rfl rfl rfl rfl rfl rfl rfl rfl ?_
    refine dw_norm [_, _, _, _, _, _, _, _] rfl ?_
    refine dw_end rfl ?_
    refine xp_region rfl ?_
    refine op_pure (pv_move (v := .int .i64 _) rfl) ?_
    refine op_pure (pv_arith rfl (by omega)) ?_
    refine op_pure (pv_assign (v := .int .i64 _) rfl) ?_
    refine ⟨(i - 1, y2, bs ++ [z], a2), ⟨rfl, trivial⟩, rfl, rfl, (Ext.trans (Ext.trans E_i E7) E2a), fun h3 E3 => ⟨⟨by omega, by simp; omega⟩, mem_one K3 ⟨z1, by omega⟩, by rw [List.flatMap_append]; exact ha2⟩, by first | omega | (dsimp only; omega), ?_⟩
    repeat (first | exact off_base _ _ _ | refine off_upd (by decide) ?_ | refine off_updL rfl ?_ | refine off_mix rfl ?_)
  · skip
    have hi0 : i = 0 := by have := of_decide_eq_false ht; omega
    obtain ⟨pB, AB, nB, cB⟩ := a
    obtain rfl : nB = bs.length := by have := AccR.len KA; rw [flat_len (m := 1) (fun _ _ => rfl)] at this; dsimp only at this; omega
    dsimp only at *
    refine goes_pubO 3 rfl ?_
    intro gB GB PB
    refine goes_norm [_, _, _, _, _, _, _] rfl ?_
    have RB : Row gB 1 intC AB bs := ⟨fun _ _ => rfl, AccR.rd KA PB⟩
    refine xp_exit ?_
    refine xp_seq ?_
    refine xp_seq ?_
    refine xp_region rfl ?_
    refine op_pure (pv_move (v := .pointer (some ⟨b, 0, none⟩)) rfl) ?_
    refine op_pure (pv_move (v := .int .i64 _) rfl) ?_
    refine op_fnMM [] [_] [_, _, _, _, _, _] (vs := [.pointer _, .int .i64 _]) rfl rfl rfl ((Upto_ok b y pins (by omega) gB)) ?_
    rintro _ h8 _ E8 ⟨x8, j0, rfl, rfl, j01, j02⟩
    refine wp_norm [_, _, _, _, _, _, _] rfl ?_
    refine op_pure (pv_assign (v := .int .i64 _) rfl) ?_
    refine xp_block ?_
    refine xp_loopL [11, 54, 55, 56, 57, 58, 59, 60, 61, 62, 63, 64, 65, 66, 67, 68, 69, 70, 71, 72, 73, 74, 75, 76, 77, 78] 7 (α := Int × Nat × List PinP × Acc) (fun ⟨j, y, qs, a⟩ => [(11, .int .i64 j)]) (fun ⟨j, y, qs, a⟩ L => ((L.set 0 (some (b, .cells #[.int .u64 (y : Int)] 76 (0, 0)))).set 2 (some (b9, .cells #[.int .i64 r, .int .i64 v, .int .i64 g, .int .i64 t, .int .i64 o, .slice AB bs.length cB, .slice a.A a.n a.c, .slice none 0 0, .slice none 0 0] 28 (0, 0)))).set 4 (a.p)) (fun ⟨j, y, qs, a⟩ h_j => (0 ≤ j ∧ j + qs.length ≤ pins) ∧ (∀ p ∈ qs, (0 ≤ p.rod ∧ p.rod < r) ∧ (0 ≤ p.lever ∧ p.lever < v) ∧ (0 ≤ p.lag ∧ p.lag ≤ t)) ∧ AccR 79 3 (qs.flatMap pinC) a) (fun ⟨j, y, qs, a⟩ => j.toNat) ((j0, x8, [], acc0)) ⟨rfl, trivial⟩ (rfl) (⟨⟨by omega, by simp; omega⟩, fun _ hz => absurd hz List.not_mem_nil, accR0⟩) ?_
    rintro ⟨j, y, qs, a⟩ T3 h_j E_j J_j
    refine goes_norm [_, _, _, _, _, _, _] rfl ?_
    obtain ⟨⟨L1, L2⟩, L3, KA⟩ := J_j
    refine xp_seq ?_
    refine xp_seq ?_
    refine xp_region rfl ?_
    refine op_pure (pv_move (v := .int .i64 _) rfl) ?_
    refine op_pure (pv_of (v := .bool _) rfl) ?_
    refine xp_cond rfl (fun hu => ?_) (fun hu => ?_)
    · skip
      have hj : 0 < j := of_decide_eq_true hu
      refine xp_skip ?_
      refine xp_seq ?_
      refine xp_block ?_
      refine xp_dw [true, false, false, false, false, false, false] rfl rfl rfl ?_
      refine dw_pure (i := 0) rfl (by decide +kernel) (pv_fieldAddr rfl rfl rfl rfl 6 rfl) ?_
      refine dw_load (i := 1) rfl (by decide +kernel) ?_
      refine op_loadP 2 (v := .slice _ _ _) rfl rfl rfl rfl ?_
      refine dw_pure (i := 2) rfl (by decide +kernel) (pv_move (v := .pointer (some ⟨b, 0, none⟩)) rfl) ?_
      refine dw_pure (i := 3) rfl (by decide +kernel) (pv_fieldAddr rfl rfl rfl rfl 0 rfl) ?_
      refine dw_load (i := 4) rfl (by decide +kernel) ?_
      refine op_loadP 2 (v := .int .i64 _) rfl rfl rfl rfl ?_
      refine dw_pure (i := 5) rfl (by decide +kernel) (pv_arith rfl (by omega)) ?_
      refine dw_pure (i := 7) rfl (by decide +kernel) (pv_move (v := .pointer (some ⟨b, 0, none⟩)) rfl) ?_
      refine dw_pure (i := 8) rfl (by decide +kernel) (pv_fieldAddr rfl rfl rfl rfl 1 rfl) ?_
      refine dw_load (i := 9) rfl (by decide +kernel) ?_
      refine op_loadP 2 (v := .int .i64 _) rfl rfl rfl rfl ?_
      refine dw_pure (i := 10) rfl (by decide +kernel) (pv_arith rfl (by omega)) ?_
      refine dw_pure (i := 12) rfl (by decide +kernel) (pv_move (v := .pointer (some ⟨b, 0, none⟩)) rfl) ?_
      refine dw_pure (i := 13) rfl (by decide +kernel) (pv_fieldAddr rfl rfl rfl rfl 3 rfl) ?_
      refine dw_load (i := 14) rfl (by decide +kernel) ?_
      refine op_loadP 2 (v := .int .i64 _) rfl rfl rfl rfl ?_
      refine dw_pure (i := 15) rfl (by decide +kernel) (pv_quoT (c := t / 2) rfl rfl (by omega) (Int.tdiv_eq_ediv_of_nonneg (by omega)) (by omega)) ?_
      refine dw_eff (i := 6) rfl (by decide +kernel) ?_
      refine op_fnMM [] [_] [_, _, _, _, _, _] (vs := [.pointer _, .int .i64 _]) rfl rfl rfl ((Upto_ok b y (r - 1) (by omega) h_j)) ?_
      rintro _ h9 _ E9 ⟨y2, z, rfl, rfl, z1, z2⟩
      refine ⟨ext_wlm E9 _, ?_⟩
      refine dw_norm [_, _, _, _, _, _, _] rfl ?_
      refine dw_eff (i := 11) rfl (by decide +kernel) ?_
      refine op_fnMM [] [_] [_, _, _, _, _, _] (vs := [.pointer _, .int .i64 _]) rfl rfl rfl ((Upto_ok b y2 (v - 1) (by omega) h9)) ?_
      rintro _ h10 _ E10 ⟨y3, w, rfl, rfl, w1, w2⟩
      refine ⟨ext_wlm E10 _, ?_⟩
      refine dw_norm [_, _, _, _, _, _, _] rfl ?_
      refine dw_eff (i := 16) rfl (by decide +kernel) ?_
      refine op_fnMM [] [_] [_, _, _, _, _, _] (vs := [.pointer _, .int .i64 _]) rfl rfl rfl ((Upto_ok b y3 (t / 2) (by omega) h10)) ?_
      rintro _ h11 _ E11 ⟨y4, e, rfl, rfl, e1, e2⟩
      refine ⟨ext_wlm E11 _, ?_⟩
      refine dw_norm [_, _, _, _, _, _, _] rfl ?_
      refine dw_pure (i := 17) rfl (by decide +kernel) (pv_build (zc := [_, _, _]) (vs := [(0, .int .i64 _), (1, .int .i64 _), (2, .int .i64 _)]) (cs := [_, _, _]) rfl rfl rfl rfl rfl rfl) ?_
      refine dw_eff (i := 18) rfl (by decide +kernel) ?_
      refine op_buildSlice (zc := [_, _, _]) (vs := [(0, .agg #[.int .i64 _, .int .i64 _, .int .i64 _])]) (cs := [_, _, _]) rfl rfl rfl rfl rfl rfl rfl fun b76 hb76 => ?_
      refine ⟨ext_newM hb76 _, ?_⟩
      refine dw_norm [_, _, _, _, _, _, _, _] rfl ?_
      refine dw_last (i := 19) rfl (by decide +kernel) (by decide +kernel) ?_
      refine op_appendR 4 KA rfl rfl rfl (fun V => rdP V (i := 7) rfl) rfl rfl rfl rfl rfl rfl rfl rfl rfl (by omega) rfl (by rw [flat_len (m := 3) (fun _ _ => rfl)]; simp; omega) fun a2 h4a E4a ha2 => ?_
      refine dw_norm [_, _, _, _, _, _, _, _] rfl ?_
      refine dw_pure (i := 20) rfl (by decide +kernel) (pv_fieldAddr rfl rfl rfl rfl 6 rfl) ?_
      refine dw_last (i := 21) rfl (by decide +kernel) (by decide +kernel) ?_
      refine op_storeP 2 (v := .slice _ _ _) (vs := [_]) (c' := [_, _, _, _, _, _, _, _, _]) rfl rfl rfl rfl rfl rfl rfl rfl rfl ?_
      refine dw_norm [_, _, _, _, _, _, _, _] rfl ?_
      refine dw_end rfl ?_
      refine xp_region rfl ?_
      refine op_pure (pv_move (v := .int .i64 _) rfl) ?_
      refine op_pure (pv_arith rfl (by omega)) ?_
      refine op_pure (pv_assign (v := .int .i64 _) rfl) ?_
      refine ⟨(j - 1, y4, qs ++ [⟨z, w, e⟩], a2), ⟨rfl, trivial⟩, rfl, rfl, (Ext.trans (Ext.trans (Ext.trans (Ext.trans E_j E9) E10) E11) E4a), fun h3 E3 => ⟨⟨by omega, by simp; omega⟩, mem_one L3 ⟨⟨z1, by show z < r; omega⟩, ⟨w1, by show w < v; omega⟩, ⟨e1, by show e ≤ t; omega⟩⟩, by rw [List.flatMap_append]; exact ha2⟩, by first | omega | (dsimp only; omega), ?_⟩
      repeat (first | exact off_base _ _ _ | refine off_upd (by decide) ?_ | refine off_updL rfl ?_ | refine off_mix rfl ?_)
    · skip
      have hj0 : j = 0 := by have := of_decide_eq_false hu; omega
      obtain ⟨pP, AQ, nP, cQ⟩ := a
      obtain rfl : nP = qs.length := by have := AccR.len KA; rw [flat_len (m := 3) (fun _ _ => rfl)] at this; dsimp only at this; omega
      dsimp only at *
      have hcQ : qs.length ≤ cQ := AccP.cap KA (by omega)
      refine goes_pubO 4 rfl ?_
      intro gP GP PP
      refine goes_norm [_, _, _, _, _, _, _] rfl ?_
      have RP : Row gP 3 pinC AQ qs := ⟨fun _ _ => rfl, AccR.rd KA PP⟩
      refine xp_exit ?_
      refine xp_cutB [12, 13, 79, 80, 81, 82, 83, 84, 85, 86, 87, 88, 89, 90, 91, 92, 93, 94, 95, 96, 97, 98, 99, 100, 101, 102, 103, 104, 105, 106, 107, 108, 109, 110, 111, 112, 113, 114, 115, 116, 117, 118, 119, 120, 121, 122, 123, 124, 125] 7 (α := Nat × List LinkP × Acc) (fun ⟨y, ls, a⟩ => []) (fun ⟨y, ls, a⟩ L => ((L.set 0 (some (b, .cells #[.int .u64 (y : Int)] 76 (0, 0)))).set 2 (some (b9, .cells #[.int .i64 r, .int .i64 v, .int .i64 g, .int .i64 t, .int .i64 o, .slice AB bs.length cB, .slice AQ qs.length cQ, .slice a.A a.n a.c, .slice none 0 0] 28 (0, 0)))).set 5 (a.p)) (fun ⟨y, ls, a⟩ h_y => (ls.length : Int) ≤ links ∧ (∀ p ∈ ls, (0 ≤ p.frm ∧ p.frm < r) ∧ (0 ≤ p.to ∧ p.to < r) ∧ p.frm ≠ p.to ∧ (-1 ≤ p.reg ∧ p.reg < g) ∧ (1 ≤ p.lag ∧ p.lag ≤ t)) ∧ AccR 81 4 (ls.flatMap linkC) a) ?_ ?_
      · skip
        refine xp_seq ?_
        refine xp_region rfl ?_
        refine op_pure (pv_move (v := .pointer (some ⟨b, 0, none⟩)) rfl) ?_
        refine op_pure (pv_move (v := .int .i64 _) rfl) ?_
        refine op_fnMM [] [_] [_, _, _, _, _, _] (vs := [.pointer _, .int .i64 _]) rfl rfl rfl ((Upto_ok b y links (by omega) gP)) ?_
        rintro _ h12 _ E12 ⟨x12, k0, rfl, rfl, k01, k02⟩
        refine wp_norm [_, _, _, _, _, _, _] rfl ?_
        refine op_pure (pv_assign (v := .int .i64 _) rfl) ?_
        refine xp_block ?_
        refine xp_loopL [12, 13, 82, 83, 84, 85, 86, 87, 88, 89, 90, 91, 92, 93, 94, 95, 96, 97, 98, 99, 100, 101, 102, 103, 104, 105, 106, 107, 108, 109, 110, 111, 112, 113, 114, 115, 116, 117, 118, 119, 120, 121, 122, 123, 124, 125] 7 (α := Int × Nat × List LinkP × Acc) (fun ⟨k, y, ls, a⟩ => [(12, .int .i64 k)]) (fun ⟨k, y, ls, a⟩ L => ((L.set 0 (some (b, .cells #[.int .u64 (y : Int)] 76 (0, 0)))).set 2 (some (b9, .cells #[.int .i64 r, .int .i64 v, .int .i64 g, .int .i64 t, .int .i64 o, .slice AB bs.length cB, .slice AQ qs.length cQ, .slice a.A a.n a.c, .slice none 0 0] 28 (0, 0)))).set 5 (a.p)) (fun ⟨k, y, ls, a⟩ h_k => (0 ≤ k ∧ k + ls.length ≤ links) ∧ (∀ p ∈ ls, (0 ≤ p.frm ∧ p.frm < r) ∧ (0 ≤ p.to ∧ p.to < r) ∧ p.frm ≠ p.to ∧ (-1 ≤ p.reg ∧ p.reg < g) ∧ (1 ≤ p.lag ∧ p.lag ≤ t)) ∧ AccR 81 4 (ls.flatMap linkC) a) (fun ⟨k, y, ls, a⟩ => k.toNat) ((k0, x12, [], acc0)) ⟨rfl, trivial⟩ (rfl) (⟨⟨by omega, by simp; omega⟩, fun _ hz => absurd hz List.not_mem_nil, accR0⟩) ?_
        rintro ⟨k, y, ls, a⟩ T6 h_k E_k J_k
        refine goes_norm [_, _, _, _, _, _, _] rfl ?_
        obtain ⟨⟨N1, N2⟩, N3, KA⟩ := J_k
        refine xp_seq ?_
        refine xp_seq ?_
        refine xp_region rfl ?_
        refine op_pure (pv_move (v := .int .i64 _) rfl) ?_
        refine op_pure (pv_of (v := .bool _) rfl) ?_
        refine op_pure (pv_move (v := .bool _) rfl) ?_
        rcases Bool.eq_false_or_eq_true (decide (k > 0)) with hk | hk
        · skip
          have hk0 : k > 0 := of_decide_eq_true hk
          refine guard_yes rfl hk ?_
          refine op_pure (pv_fieldAddr rfl rfl rfl rfl 0 rfl) ?_
          refine guard_yes rfl hk ?_
          refine op_loadP 2 (v := .int .i64 _) rfl rfl rfl rfl ?_
          refine guard_yes rfl hk ?_
          refine op_pure (pv_of (v := .bool _) rfl) ?_
          refine op_pure (pv_pickT rfl hk (v := .bool _) rfl) ?_
          refine xp_cond rfl (fun hr => ?_) (fun hr => ?_)
          · skip
            have hr1 : r > 1 := of_decide_eq_true hr
            refine xp_skip ?_
            refine xp_seq ?_
            refine xp_block ?_
            refine xp_seq ?_
            refine xp_dw [true, false, false, false, false, false, false] rfl rfl rfl ?_
            refine dw_pure (i := 0) rfl (by decide +kernel) (pv_move (v := .pointer (some ⟨b, 0, none⟩)) rfl) ?_
            refine dw_pure (i := 1) rfl (by decide +kernel) (pv_fieldAddr rfl rfl rfl rfl 0 rfl) ?_
            refine dw_load (i := 2) rfl (by decide +kernel) ?_
            refine op_loadP 2 (v := .int .i64 _) rfl rfl rfl rfl ?_
            refine dw_pure (i := 3) rfl (by decide +kernel) (pv_arith rfl (by omega)) ?_
            refine dw_pure (i := 5) rfl (by decide +kernel) (pv_move (v := .pointer (some ⟨b, 0, none⟩)) rfl) ?_
            refine dw_pure (i := 6) rfl (by decide +kernel) (pv_fieldAddr rfl rfl rfl rfl 2 rfl) ?_
            refine dw_load (i := 7) rfl (by decide +kernel) ?_
            refine op_loadP 2 (v := .int .i64 _) rfl rfl rfl rfl ?_
            refine dw_pure (i := 8) rfl (by decide +kernel) (pv_arith rfl (by omega)) ?_
            refine dw_pure (i := 10) rfl (by decide +kernel) (pv_move (v := .pointer (some ⟨b, 0, none⟩)) rfl) ?_
            refine dw_pure (i := 11) rfl (by decide +kernel) (pv_fieldAddr rfl rfl rfl rfl 3 rfl) ?_
            refine dw_load (i := 12) rfl (by decide +kernel) ?_
            refine op_loadP 2 (v := .int .i64 _) rfl rfl rfl rfl ?_
            refine dw_pure (i := 13) rfl (by decide +kernel) (pv_quoT (c := t / 3) rfl rfl (by omega) (Int.tdiv_eq_ediv_of_nonneg (by omega)) (by omega)) ?_
            refine dw_pure (i := 14) rfl (by decide +kernel) (pv_max rfl rfl) ?_
            refine dw_eff (i := 4) rfl (by decide +kernel) ?_
            refine op_fnMM [] [_] [_, _, _, _, _, _] (vs := [.pointer _, .int .i64 _]) rfl rfl rfl ((Upto_ok b y (r - 1) (by omega) h_k)) ?_
            rintro _ h13 _ E13 ⟨y2, z, rfl, rfl, z1, z2⟩
            refine ⟨ext_wlm E13 _, ?_⟩
            refine dw_norm [_, _, _, _, _, _, _] rfl ?_
            refine dw_eff (i := 9) rfl (by decide +kernel) ?_
            refine op_fnMM [] [_] [_, _, _, _, _, _] (vs := [.pointer _, .int .i64 _, .int .i64 _]) rfl rfl rfl ((Within_ok b y2 (-1) (g - 1) (by omega) (by omega) (by omega) h13)) ?_
            rintro _ h14 _ E14 ⟨y3, e, rfl, rfl, e1, e2⟩
            refine ⟨ext_wlm E14 _, ?_⟩
            refine dw_norm [_, _, _, _, _, _, _] rfl ?_
            refine dw_last (i := 15) rfl (by decide +kernel) (by decide +kernel) ?_
            refine op_fnMM [] [_] [_, _, _, _, _, _] (vs := [.pointer _, .int .i64 _, .int .i64 _]) rfl rfl rfl ((Within_ok b y3 1 (max 1 (t / 3)) (by omega) (by omega) (by omega) h14)) ?_
            rintro _ h15 _ E15 ⟨y4, w, rfl, rfl, w1, w2⟩
            refine dw_norm [_, _, _, _, _, _, _] rfl ?_
            refine dw_pure (i := 16) rfl (by decide +kernel) (pv_build (zc := [_, _, _, _]) (vs := [(0, .int .i64 _), (2, .int .i64 _), (3, .int .i64 _)]) (cs := [_, _, _, _]) rfl rfl rfl rfl rfl rfl) ?_
            refine dw_eff (i := 17) rfl (by decide +kernel) ?_
            refine op_alloc (cs := [_, _, _, _]) rfl rfl fun b13 hb13 => ?_
            refine ⟨ext_newM hb13 _, ?_⟩
            refine dw_norm [_, _, _, _, _, _, _, _] rfl ?_
            refine dw_last (i := 18) rfl (by decide +kernel) (by decide +kernel) ?_
            refine op_storeP 7 (v := .agg #[.int .i64 _, .int .i64 _, .int .i64 _, .int .i64 _]) (vs := [_, _, _, _]) (c' := [_, _, _, _]) rfl rfl rfl rfl rfl rfl rfl rfl rfl ?_
            refine dw_norm [_, _, _, _, _, _, _, _] rfl ?_
            refine dw_end rfl ?_
            refine xp_seq ?_
            refine xp_dw [true, false, false, false, false, false, false, false] rfl rfl rfl ?_
            refine dw_pure (i := 0) rfl (by decide +kernel) (pv_fieldAddr rfl rfl rfl rfl 0 rfl) ?_
            refine dw_load (i := 1) rfl (by decide +kernel) ?_
            refine op_loadP 7 (v := .int .i64 _) rfl rfl rfl rfl ?_
            refine dw_pure (i := 2) rfl (by decide +kernel) (pv_move (v := .pointer (some ⟨b, 0, none⟩)) rfl) ?_
            refine dw_pure (i := 3) rfl (by decide +kernel) (pv_fieldAddr rfl rfl rfl rfl 0 rfl) ?_
            refine dw_load (i := 4) rfl (by decide +kernel) ?_
            refine op_loadP 2 (v := .int .i64 _) rfl rfl rfl rfl ?_
            refine dw_pure (i := 5) rfl (by decide +kernel) (pv_arith rfl (by omega)) ?_
            refine dw_pure (i := 8) rfl (by decide +kernel) (pv_fieldAddr rfl rfl rfl rfl 0 rfl) ?_
            refine dw_load (i := 9) rfl (by decide +kernel) ?_
            refine op_loadP 2 (v := .int .i64 _) rfl rfl rfl rfl ?_
            refine dw_eff (i := 6) rfl (by decide +kernel) ?_
            refine op_fnMM [] [_] [_, _, _, _, _, _, _] (vs := [.pointer _, .int .i64 _, .int .i64 _]) rfl rfl rfl ((Within_ok b y4 1 (r - 1) (by omega) (by omega) (by omega) h15)) ?_
            rintro _ h16 _ E16 ⟨y5, d, rfl, rfl, d1, d2⟩
            refine ⟨ext_wlm E16 _, ?_⟩
            refine dw_norm [_, _, _, _, _, _, _, _] rfl ?_
            refine dw_pure (i := 7) rfl (by decide +kernel) (pv_arith rfl (by omega)) ?_
            refine dw_last (i := 10) rfl (by decide +kernel) (by decide +kernel) ?_
            refine op_fn (caps := []) (vs := [.int .i64 _, .int .i64 _]) rfl rfl rfl (Turn_ok (z + d) r (by omega) h16) ?_
            rintro _ h17 E17 rfl
            have tb := turnI_bd (z + d) r
            have tn := turnI_ne (f := z) (d := d) (n := r) (by omega) ⟨z1, by omega⟩ ⟨d1, by omega⟩
            refine dw_pure (i := 11) rfl (by decide +kernel) (pv_fieldAddr rfl rfl rfl rfl 1 rfl) ?_
            refine dw_last (i := 12) rfl (by decide +kernel) (by decide +kernel) ?_
            refine op_storeP 7 (v := .int .i64 _) (vs := [_]) (c' := [_, _, _, _]) rfl rfl rfl rfl rfl rfl rfl rfl rfl ?_
            refine dw_norm [_, _, _, _, _, _, _, _] rfl ?_
            refine dw_end rfl ?_
            refine xp_region rfl ?_
            refine op_pure (pv_fieldAddr rfl rfl rfl rfl 7 rfl) ?_
            refine op_loadP 2 (v := .slice _ _ _) rfl rfl rfl rfl ?_
            refine op_loadPA 7 (vs := [.int .i64 _, .int .i64 _, .int .i64 _, .int .i64 _]) rfl rfl rfl rfl rfl ?_
            refine op_buildSlice (zc := [_, _, _, _]) (vs := [(0, .agg #[.int .i64 _, .int .i64 _, .int .i64 _, .int .i64 _])]) (cs := [_, _, _, _]) rfl rfl rfl rfl rfl rfl rfl fun b123 hb123 => ?_
            refine wp_norm [_, _, _, _, _, _, _, _, _] rfl ?_
            refine op_appendR 5 KA rfl rfl rfl (fun V => rdP V (i := 8) rfl) rfl rfl rfl rfl rfl rfl rfl rfl rfl (by omega) rfl (by rw [flat_len (m := 4) (fun _ _ => rfl)]; simp; omega) fun a2 h7a E7a ha2 => ?_
            refine wp_norm [_, _, _, _, _, _, _, _, _] rfl ?_
            refine op_pure (pv_fieldAddr rfl rfl rfl rfl 7 rfl) ?_
            refine op_storeP 2 (v := .slice _ _ _) (vs := [_]) (c' := [_, _, _, _, _, _, _, _, _]) rfl rfl rfl rfl rfl rfl rfl rfl rfl ?_
            refine wp_norm [_, _, _, _, _, _, _, _, _] rfl ?_
            refine xp_region rfl ?_
            refine op_pure (pv_move (v := .int .i64 _) rfl) ?_
            refine op_pure (pv_arith rfl (by omega)) ?_
            refine op_pure (pv_assign (v := .int .i64 _) rfl) ?_
            refine ⟨(k - 1, y5, ls ++ [⟨z, turnI (z + d) r, e, w⟩], a2), ⟨rfl, trivial⟩, rfl, rfl, (Ext.trans (Ext.trans (Ext.trans (Ext.trans (Ext.trans (Ext.trans E_k E13) E14) E15) E16) E17) E7a), fun h3 E3 => ⟨⟨by omega, by simp; omega⟩, mem_one N3 ⟨⟨z1, by show z < r; omega⟩, ⟨tb.1, tb.2 (by omega)⟩, fun he => tn he.symm, ⟨e1, by show e < g; omega⟩, ⟨w1, by show w ≤ t; omega⟩⟩, by rw [List.flatMap_append]; exact ha2⟩, by first | omega | (dsimp only; omega), ?_⟩
            repeat (first | exact off_base _ _ _ | refine off_upd (by decide) ?_ | refine off_updL rfl ?_ | refine off_mix rfl ?_)
          · skip
            refine xp_exit ?_
            refine ⟨(y, ls, a), trivial, rfl, rfl, (Ext.trans E12 E_k), fun h3 E3 => ⟨by omega, N3, KA⟩, ?_⟩
            repeat (first | exact off_refl _ _ | exact off_base _ _ _ | refine off_upd (by decide) ?_ | refine off_updL rfl ?_ | refine off_mix rfl ?_)
        · skip
          have hk0 : k = 0 := by have := of_decide_eq_false hk; omega
          refine guard_no rfl hk ?_
          refine guard_no rfl hk ?_
          refine guard_no rfl hk ?_
          refine op_pure (pv_pickF rfl hk (v := .bool _) rfl) ?_
          refine xp_condF rfl (rfl) ?_
          refine xp_exit ?_
          refine ⟨(y, ls, a), trivial, rfl, rfl, (Ext.trans E12 E_k), fun h3 E3 => ⟨by omega, N3, KA⟩, ?_⟩
          repeat (first | exact off_refl _ _ | exact off_base _ _ _ | refine off_upd (by decide) ?_ | refine off_updL rfl ?_ | refine off_mix rfl ?_)
      · rintro ⟨y, ls, a⟩ T5 h_y E_y J_y
        refine goes_norm [_, _, _, _, _, _, _] rfl ?_
        obtain ⟨N1, N3, KA⟩ := J_y
        obtain ⟨pL, AL, nL, cL⟩ := a
        obtain rfl : nL = ls.length := by have := AccR.len KA; rw [flat_len (m := 4) (fun _ _ => rfl)] at this; dsimp only at this; omega
        dsimp only at *
        have hcL : ls.length ≤ cL := AccP.cap KA (by omega)
        refine goes_pubO 5 rfl ?_
        intro gL GL PL
        refine goes_norm [_, _, _, _, _, _, _] rfl ?_
        have RL : Row gL 4 linkC AL ls := ⟨fun _ _ => rfl, AccR.rd KA PL⟩
        refine xp_seq ?_
        refine xp_seq ?_
        refine xp_region rfl ?_
        refine op_pure (pv_assign (v := .int .i64 _) rfl) ?_
        refine xp_block ?_
        refine xp_loopL [14, 126, 127, 128, 129, 130, 131, 132, 133, 134, 135, 136, 137, 138] 7 (α := Nat × Nat × List Int × Acc) (fun ⟨k, y, ws, a⟩ => [(14, .int .i64 k)]) (fun ⟨k, y, ws, a⟩ L => ((L.set 0 (some (b, .cells #[.int .u64 (y : Int)] 76 (0, 0)))).set 2 (some (b9, .cells #[.int .i64 r, .int .i64 v, .int .i64 g, .int .i64 t, .int .i64 o, .slice AB bs.length cB, .slice AQ qs.length cQ, .slice AL ls.length cL, .slice a.A a.n a.c] 28 (0, 0)))).set 6 (a.p)) (fun ⟨k, y, ws, a⟩ h_k => (k ≤ v.toNat ∧ ws.length = k) ∧ (∀ z ∈ ws, 0 ≤ z ∧ z ≤ 50) ∧ AccR 3 1 (ws.flatMap intC) a) (fun ⟨k, y, ws, a⟩ => v.toNat - k) ((0, y, [], acc0)) ⟨rfl, trivial⟩ (rfl) (⟨⟨by omega, rfl⟩, fun _ hz => absurd hz List.not_mem_nil, accR0⟩) ?_
        rintro ⟨k, y, ws, a⟩ T8 h_k E_k J_k
        refine goes_norm [_, _, _, _, _, _, _] rfl ?_
        obtain ⟨⟨M1, M2⟩, M3, KA⟩ := J_k
        refine xp_seq ?_
        refine xp_seq ?_
        refine xp_region rfl ?_
        refine op_pure (pv_move (v := .int .i64 _) rfl) ?_
        refine op_pure (pv_fieldAddr rfl rfl rfl rfl 1 rfl) ?_
        refine op_loadP 2 (v := .int .i64 _) rfl rfl rfl rfl ?_
        refine op_pure (pv_of (v := .bool _) rfl) ?_
        refine xp_cond rfl (fun hw => ?_) (fun hw => ?_)
        · skip
          have hkv : (k : Int) < v := of_decide_eq_true hw
          refine xp_skip ?_
          refine xp_seq ?_
          refine xp_block ?_
          refine xp_dw [true, false, false, false, false, false, false] rfl rfl rfl ?_
          refine dw_pure (i := 0) rfl (by decide +kernel) (pv_fieldAddr rfl rfl rfl rfl 8 rfl) ?_
          refine dw_load (i := 1) rfl (by decide +kernel) ?_
          refine op_loadP 2 (v := .slice _ _ _) rfl rfl rfl rfl ?_
          refine dw_pure (i := 2) rfl (by decide +kernel) (pv_move (v := .pointer (some ⟨b, 0, none⟩)) rfl) ?_
          refine dw_eff (i := 3) rfl (by decide +kernel) ?_
          refine op_fnMM [] [_] [_, _, _, _, _, _] (vs := [.pointer _, .int .i64 _]) rfl rfl rfl ((Upto_ok b y 9 (by omega) h_k)) ?_
          rintro _ h18 _ E18 ⟨y2, z, rfl, rfl, z1, z2⟩
          refine ⟨ext_wlm E18 _, ?_⟩
          refine dw_norm [_, _, _, _, _, _, _] rfl ?_
          refine dw_eff (i := 4) rfl (by decide +kernel) ?_
          refine op_buildSlice (zc := [_]) (vs := [(0, .int .i64 _)]) (cs := [_]) rfl rfl rfl rfl rfl rfl rfl fun b136 hb136 => ?_
          refine ⟨ext_newM hb136 _, ?_⟩
          refine dw_norm [_, _, _, _, _, _, _, _] rfl ?_
          refine dw_last (i := 5) rfl (by decide +kernel) (by decide +kernel) ?_
          refine op_appendR 6 KA rfl rfl rfl (fun V => rdP V (i := 7) rfl) rfl rfl rfl rfl rfl rfl rfl rfl rfl (by omega) rfl (by rw [flat_len (m := 1) (fun _ _ => rfl)]; simp; omega) fun a2 h9a E9a ha2 => ?_
          refine dw_norm [_, _, _, _, _, _, _, _] rfl ?_
          refine dw_pure (i := 6) rfl (by decide +kernel) (pv_fieldAddr rfl rfl rfl rfl 8 rfl) ?_
          refine dw_last (i := 7) rfl (by decide +kernel) (by decide +kernel) ?_
          refine op_storeP 2 (v := .slice _ _ _) (vs := [_]) (c' := [_, _, _, _, _, _, _, _, _]) rfl rfl rfl rfl rfl rfl rfl rfl rfl ?_
          refine dw_norm [_, _, _, _, _, _, _, _] rfl ?_
          refine dw_end rfl ?_
          refine xp_region rfl ?_
          refine op_pure (pv_move (v := .int .i64 _) rfl) ?_
          refine op_pure (pv_arith rfl (by omega)) ?_
          refine op_pure (pv_assign (v := .int .i64 _) rfl) ?_
          refine ⟨(k + 1, y2, ws ++ [z], a2), ⟨rfl, trivial⟩, rfl, rfl, (Ext.trans (Ext.trans E_k E18) E9a), fun h3 E3 => ⟨⟨by omega, by simp; omega⟩, mem_one M3 ⟨z1, by omega⟩, by rw [List.flatMap_append]; exact ha2⟩, by first | omega | (dsimp only; omega), ?_⟩
          repeat (first | exact off_base _ _ _ | refine off_upd (by decide) ?_ | refine off_updL rfl ?_ | refine off_mix rfl ?_)
        · skip
          have hkv : (k : Int) = v := by have := of_decide_eq_false hw; omega
          obtain ⟨pW, AW, nW, cW⟩ := a
          obtain rfl : nW = ws.length := by have := AccR.len KA; rw [flat_len (m := 1) (fun _ _ => rfl)] at this; dsimp only at this; omega
          dsimp only at *
          refine goes_pubO 6 rfl ?_
          intro gW GW PW
          refine goes_norm [_, _, _, _, _, _, _] rfl ?_
          have RW : Row gW 1 intC AW ws := ⟨fun _ _ => rfl, AccR.rd KA PW⟩
          refine xp_exit ?_
          refine xp_seq ?_
          refine xp_region rfl ?_
          refine op_loadPA 2 (vs := [.int .i64 _, .int .i64 _, .int .i64 _, .int .i64 _, .int .i64 _, .slice _ _ _, .slice _ _ _, .slice _ _ _, .slice _ _ _]) rfl rfl rfl rfl rfl ?_
          refine op_storeP 1 (v := .agg #[.int .i64 _, .int .i64 _, .int .i64 _, .int .i64 _, .int .i64 _, .slice _ _ _, .slice _ _ _, .slice _ _ _, .slice _ _ _]) (vs := [_, _, _, _, _, _, _, _, _]) (c' := [_, _, _, _, _, _, _, _, _]) rfl rfl rfl rfl rfl rfl rfl rfl rfl ?_
          refine wp_norm [_, _, _, _, _, _, _] rfl ?_
          refine xp_ret ?_
          refine res_list (vs := [_]) Try.results6 ⟨resV_agg 1 rfl rfl rfl rfl rfl (vs := [.int .i64 _, .int .i64 _, .int .i64 _, .int .i64 _, .int .i64 _, .slice _ _ _, .slice _ _ _, .slice _ _ _, .slice _ _ _]) rfl, trivial⟩ fun V => ?_
          obtain ⟨h9, E9, e9, V9⟩ := wl_drop [_, _, _, _, _, _] [_] V
          have RB9 := (RB.ext (Ext.trans (Ext.trans (Ext.trans (Ext.trans (Ext.trans (Ext.trans E8 E_j) GP) E_y) GL) E_k) GW)).ext E9
          refine ⟨h9, _, e9, V9, Ext.trans (Ext.trans (Ext.trans (Ext.trans (Ext.trans (Ext.trans (Ext.trans (Ext.trans (Ext.trans (Ext.trans (Ext.trans (Ext.trans (Ext.trans (Ext.trans (Ext.trans E1 E2) E3) E4) E5) E6) E_i) GB) E8) E_j) GP) E_y) GL) E_k) GW) E9, y, ⟨r, v, g, t, o, bs, qs, ls, ws⟩, rfl, ⟨.slice AB bs.length cB, .slice AQ qs.length cQ, .slice AL ls.length cL, .slice AW ws.length cW, rfl, ⟨AB, cB, rfl, RB9⟩, ⟨AQ, cQ, rfl, (RP.ext (Ext.trans (Ext.trans (Ext.trans E_y GL) E_k) GW)).ext E9⟩, ⟨AL, cL, rfl, (RL.ext (Ext.trans E_k GW)).ext E9⟩, ⟨AW, cW, rfl, RW.ext E9⟩⟩, ?_⟩
          exact ⟨⟨⟨⟨r1, by show r ≤ 6; omega⟩, ⟨v1, by show v ≤ 6; omega⟩, ⟨g1, by show g ≤ 2; omega⟩, ⟨by show 1 ≤ t; omega, t2⟩, ⟨o1, by show o ≤ t; omega⟩, by show bs.length ≤ 4; omega, K3, by show qs.length ≤ 8; omega, L3, by show ls.length ≤ 4; omega, N3, by show (ws.length : Int) = v; omega, M3⟩, by show r ≤ size; omega, by show v ≤ size; omega, by show bs.length ≤ 3; omega, by show (qs.length : Int) ≤ pins; omega, N1⟩, capM_of hcQ hcL⟩
theorem MachineOf_ok (b x : Nat) (size pins links : Int) (hs : 1 ≤ size ∧ size ≤ 6) (hp : 0 ≤ pins ∧ pins ≤ 8) (hl : 0 ≤ links ∧ links ≤ 4) (h : AH) :
    FnM Try.prog (.func (.func 6) #[] ([] : List Value).toArray) [.pointer (some ⟨b, 0, none⟩), .int .i64 size, .int .i64 pins, .int .i64 links] h [some (b, .cells #[.int .u64 (x : Int)] 76 (0, 0))]
    (fun v h' M' => ∃ (x' : Nat) (m : MachP), M' = [some (b, .cells #[.int .u64 (x' : Int)] 76 (0, 0))] ∧ MachV h' m v ∧ Made size pins links m) :=
  (MachineOf_okC b x size pins links hs hp hl h).mono fun _ _ _ _ ⟨x', m, e, V, D, _⟩ => ⟨x', m, e, V, D⟩
end
end Go.Proofs.Ytlfbcimcehcomaa
/- Walks: hands that are made of numbers, copies. Conditions: as each theorem states. -/
namespace Go.Proofs.Ytlfbcimcehcomaa
open Go Go.HL Go.Proofs Go.Wx Go.Rd
section
variable [Lvl]
set_option maxRecDepth 100000
end
end Go.Proofs.Ytlfbcimcehcomaa
/- The own logic, part U: from a walk to the row of a law. Conditions: none. -/
namespace Go.HL
open Go Go.Wx Go.RowKit
/-- What is asked at the end of a law. -/
def lawK (t : Nat) (h0 : AH) : Post
  | .normal, S, D, L, h => D = [] ∧ (Valid h L → Ext h0 (wl h L)) ∧ S t = .bool true
  | .ret, S, D, L, h => D = [] ∧ (Valid h L → Ext h0 (wl h L)) ∧ S t = .bool true
  | _, _, _, _, _ => False
theorem below_of {w w' : World} (se : SameEnv w w') (e : Ext (absH w.heap) (absH w'.heap)) : Below w.heap.size w w' := by
  have hb : ∀ k, k < w.heap.size → w'.heap[k]? = w.heap[k]? := by
    intro k hk
    have h1 : absH w.heap k = some w.heap[k] := Array.getElem?_eq_getElem hk
    have h2 : w'.heap[k]? = some w.heap[k] := e k _ h1
    rw [h2]
    exact (Array.getElem?_eq_getElem hk).symm
  refine ⟨se.os, se.tape, se.output, ?_, hb⟩
  rcases Nat.lt_or_ge w'.heap.size w.heap.size with h1 | h1
  · have h2 := hb w'.heap.size h1
    rw [Array.getElem?_eq_getElem h1] at h2
    simp at h2
  · exact h1
variable [Lvl]
/-- A slice of ints that came in. -/
theorem row_of {w : World} {a : Option Addr} {len cap : Nat} {zs : List Int} (h : (a = none ∧ len = 0 ∧ cap = 0 ∧ zs = []) ∨
    ∃ x, a = some x ∧ len ≤ cap ∧ cap ≤ maxLen ∧ zs.length = cap ∧ (∀ i, i < zs.length → w.cell? (x.add i) = some (.int .i64 (zs.getD i 0))) ∧ ∀ n ∈ zs, (Lit.int .i64 n).wf = true) :
    ∃ l : List Int, l.length = len ∧ Row (absH w.heap) 1 intC a l ∧ len ≤ maxLen ∧ ∀ n ∈ l, (Lit.int .i64 n).wf = true := by
  rcases h with ⟨rfl, rfl, rfl, rfl⟩ | ⟨x, rfl, hl, hm, hz, hc, hw⟩
  · exact ⟨[], rfl, ⟨fun _ h => (by cases h), Rd.nil _ _⟩, Nat.zero_le _, fun _ h => (by cases h)⟩
  · refine ⟨zs.take len, by rw [List.length_take]; omega, ⟨fun _ _ => rfl, ?_⟩, by omega, fun n hn => hw n (List.mem_of_mem_take hn)⟩
    have hflat : ∀ l : List Int, l.flatMap intC = l.map (Value.int .i64) := by
      intro l
      induction l with
      | nil => rfl
      | cons a l ih => simp [List.flatMap_cons, ih, intC]
    rw [hflat]
    intro hne
    have hpos : 0 < zs.length := by
      rcases Nat.eq_zero_or_pos zs.length with h0 | h0
      · rw [List.eq_nil_of_length_eq_zero h0] at hne; simp at hne
      · exact h0
    obtain ⟨g, off, sp⟩ := x
    have h0 := hc 0 hpos
    have hsp : sp = none := by
      cases sp with
      | none => rfl
      | some s =>
        exfalso
        have : w.cell? ((⟨g, off, some s⟩ : Addr).add 0) = none := by
          simp only [Addr.add]
          rw [cell_abs]
          unfold cellA
          split <;> simp
        rw [this] at h0
        cases h0
    subst hsp
    refine ⟨g, off, rfl, fun j u hu => ?_⟩
    have hj : j < zs.length := by
      have := (List.getElem?_eq_some_iff.1 hu).1
      rw [List.length_map, List.length_take] at this
      omega
    have h1 := hc j hj
    rw [cell_abs, add_none] at h1
    rw [h1]
    rw [List.getElem?_map, List.getElem?_take] at hu
    split at hu
    · rw [List.getElem?_eq_getElem hj] at hu
      simp only [Option.map_some, Option.some.injEq] at hu
      rw [← hu]
      simp [List.getD_eq_getElem?_getD, hj]
    · cases hu
end Go.HL
/- The own logic, part Uc: from a walk to the run of a law that starts goroutines. Conditions: none. -/
namespace Go.HL
open Go Go.Wx Go.RowKit Go.Conc Go.ConcN
/-- The run of a law: it ends, true, and leaves what was there. -/
def RunsTrue (P : Program) (f : FuncId) (args : Array Value) (w : World) : Prop :=
  ∃ M last o w' t', runNT P (M + 1) (solo (G (Frame.enter P f args .normal) []) w) #[] = (.ended o w', t') ∧ runN P M (solo (G (Frame.enter P f args .normal) []) w) = .next last ∧ step P last = .ended o w' ∧
    Go.Conc.Good P (fun v W' => v = .bool true ∧ Below w.heap.size w W') last o w' t'
theorem runs_body {P : Program} {f : FuncId} {fn : Func} {c : Code} {args : Array Value} {n t : Nat} {w : World} (hf : P.funcs[f]? = some fn) (hb : fn.body = some c) (hn : fn.ntmps = n) (ha : Nat.ble args.size n = true) (hr : fn.results = #[.tmp t]) (ht : Nat.blt t n = true) (hi : P.inits.idxOf? f = none)
    (x : ∀ h, h = absH w.heap → @xp ⟨true, none, none⟩ P n none c (lawK t h) (argS args) [] [] h) :
    RunsTrue P f args w := by
  letI : Lvl := ⟨true, none, none⟩
  have he : Frame.enter P f args .normal = mk { (default : Frame) with fn := f, kind := .normal, roundOf := none } n (argS args) [] [.code c] := by
    simp [Frame.enter, mk, hf, hb, hn, enter_tmps n args (Nat.le_of_ble_eq_true ha)]
  have hres : ∀ (S : Sl) (w' : World), S t = .bool true → results fn (arr n S) = .pure (.bool true) := by
    intro S w' hs
    unfold results
    rw [hr, List.mapM_toArray]
    have e1 : (arr n S).getD t undef = .bool true := by rw [arr_getD, if_pos (Nat.lt_of_lt_of_le (Nat.lt_succ_self t) (Nat.le_of_ble_eq_true ht)), hs]
    show Sem.pure ((arr n S).getD t undef) = _
    rw [e1]
  have x1 := x _ rfl (absH w.heap) (by have := Fits.nil (valid_nil (Fin.abs w.heap)); rw [wl_nil] at this; exact this) { (default : Frame) with fn := f, kind := .normal, roundOf := none } rfl [] []
  have x2 : Rch P (fun fr cs' H => cs' = [] ∧ fr.mode = .returning ∧ fr.defers = [] ∧ fr.kind = .normal ∧ fr.fn = f ∧ (∃ S, fr.tmps = arr n S ∧ S t = .bool true) ∧ Ext (absH w.heap) H) (mk { (default : Frame) with fn := f, kind := .normal, roundOf := none } n (argS args) [] [.code c]) [] (absH w.heap) := by
    refine x1.bind ?_
    rintro fr cs' H ⟨rfl, e, S', D', L', h', V', kk, a⟩
    cases e with
    | normal =>
      obtain ⟨rfl, ex, hs⟩ := kk
      have a' : fr = mk { (default : Frame) with fn := f, kind := .normal, roundOf := none } n S' [] [] := a
      subst a'
      have hH : H = wl h' L' := by rw [V'.eq]; exact hun_nil _
      subst hH
      refine .ctl (fr' := { mk { (default : Frame) with fn := f, kind := .normal, roundOf := none } n S' [] [] with mode := .returning }) (cs' := []) (fun w => by simp [stepG, stepG.exec, mk]) (.done ⟨rfl, rfl, rfl, rfl, rfl, ⟨S', rfl, hs⟩, ex V'.valid⟩)
    | ret =>
      obtain ⟨rfl, ex, hs⟩ := kk
      obtain ⟨todo, rfl⟩ := a.1 rfl
      have hH : H = wl h' L' := by rw [V'.eq]; exact hun_nil _
      subst hH
      exact .done ⟨rfl, rfl, rfl, rfl, rfl, ⟨S', rfl, hs⟩, ex V'.valid⟩
    | _ => exact kk.elim
  unfold RunsTrue
  rw [he]
  refine x2.ends rfl rfl ?_
  rintro fr cs h w' ⟨rfl, hm, hd, hk, hfn, ⟨S, htm, hs⟩, ex⟩ se rfl
  have hr1 := hres S w' hs
  have hru : (results fn fr.tmps).runT P w' #[] = (.ok (.bool true) w', #[]) := by rw [htm, hr1]; rfl
  have hf' : P.funcs[fr.fn]? = some fn := by rw [hfn]; exact hf
  have hi' : P.inits.idxOf? fr.fn = none := by rw [hfn]; exact hi
  have h1 : stepG P true (G fr []) w' = unwind P true fr [] none w' := by
    simp [stepG, stepG.exec, hm]
  have h2 : unwind P true fr [] none w' = GStep.after (seen P fr.fn #[]) (.ended (.done (.bool true)) w') := by
    unfold unwind
    rw [hd]
    simp only [hm, hf', hru]
    unfold doReturn
    simp only [hk, hi']
    rfl
  refine ⟨rfl, .bool true, seen P fr.fn #[], ?_, fun e he => ?_, rfl, below_of se ex⟩
  · rw [h1, h2]
    simp [GStep.after]
  · simp [seen] at he
end Go.HL
/- Plain: machines that pass the check; what levers do. Conditions: none. -/
namespace Go.Rd
open Go Go.HL Go.Wx
variable [Lvl]
theorem chk_of {m : MachP} (M : MOK m) : chkM m = 0 := by
  unfold chkM
  have h := M.rods; have h2 := M.levers; have h3 := M.regs; have h4 := M.travel; have h5 := M.opn
  rw [if_neg (by simp [inM]; omega), if_neg (by simp [inM]; omega), if_neg (by simp [inM]; omega), if_neg (by simp [inM]; omega), if_neg (by simp [inM]; omega)]
  have b1 : firstErr (checkButtonM m) m.buttons = 0 := firstErr_iff.2 fun b hb => by
    have := M.btn b hb
    unfold checkButtonM
    rw [if_neg (by simp [inM]; omega)]
  have b2 : firstErr (checkPinM m) m.pins = 0 := firstErr_iff.2 fun p hp => by
    obtain ⟨a, b, c⟩ := M.pin p hp
    unfold checkPinM
    rw [if_neg (by simp [inM]; omega), if_neg (by simp [inM]; omega), if_neg (by simp [inM]; omega)]
  have b3 : firstErr (checkLinkM m) m.links = 0 := firstErr_iff.2 fun l hl => by
    obtain ⟨a, b, c, d, e⟩ := M.link l hl
    unfold checkLinkM
    rw [if_neg (by simp [inM]; omega), if_neg (by simp [inM]; omega), if_neg c, if_neg (by simp [inM]; omega), if_neg (by simp [inM]; omega)]
  have b4 : firstErr checkWeightM m.weights = 0 := firstErr_iff.2 fun w hw => by
    have := M.wt w hw
    unfold checkWeightM
    rw [if_neg (by simp [inM]; omega)]
  rw [if_neg (by have := M.bl; omega), b1, if_neg (by decide), if_neg (by have := M.pl; omega), b2, if_neg (by decide), if_neg (by have := M.ll; omega), b3, if_neg (by decide), if_neg (by have := M.wl; omega), b4]
theorem MOK.pins {m : MachP} (M : MOK m) : ∀ p ∈ m.pins, 0 ≤ p.lever ∧ 0 ≤ p.rod := fun p hp => ⟨(M.pin p hp).2.1.1, (M.pin p hp).1.1⟩
theorem MOK.cap {m : MachP} (M : MOK m) {ps : List PinP} {ls : List LinkP} (hp : ps.length ≤ 8) (hl : ls.length ≤ 4)
    (h1 : ∀ p ∈ ps, (0 ≤ p.rod ∧ p.rod < m.rods) ∧ (0 ≤ p.lever ∧ p.lever < m.levers) ∧ (0 ≤ p.lag ∧ p.lag ≤ m.travel))
    (h2 : ∀ l ∈ ls, (0 ≤ l.frm ∧ l.frm < m.rods) ∧ (0 ≤ l.to ∧ l.to < m.rods) ∧ l.frm ≠ l.to ∧ (-1 ≤ l.reg ∧ l.reg < m.regs) ∧ (1 ≤ l.lag ∧ l.lag ≤ m.travel)) : MOK { m with pins := ps, links := ls } :=
  ⟨M.rods, M.levers, M.regs, M.travel, M.opn, M.bl, M.btn, hp, h1, hl, h2, M.wl, M.wt⟩
end Go.Rd
/- The own logic, part GS: a part of an array as a slice. Conditions: none. -/
namespace Go.HL
open Go
variable [Lvl]
section
variable {P : Program} {n : Nat} {d : Option Tmp} {ty : TypeId} {ps : String} {af : Array Edge} {S : Sl}
end
end Go.HL
/- Walks of package rod: how far rods turn. Conditions: as each theorem states. -/
namespace Go.Proofs.Ytlfbcimcehcomaa
open Go Go.HL Go.Proofs Go.Wx Go.Rd
section
variable [Lvl]
set_option maxRecDepth 100000
end
end Go.Proofs.Ytlfbcimcehcomaa
/- Walks of package rod: all faults, machines with some of them. Conditions: as each theorem states. -/
namespace Go.Proofs.Ytlfbcimcehcomaa
open Go Go.HL Go.Proofs Go.Wx Go.Rd
section
variable [Lvl]
set_option maxRecDepth 100000
end
end Go.Proofs.Ytlfbcimcehcomaa
/- Walks: what sounds with one fault; what explains. Conditions: as each theorem states. -/
namespace Go.Proofs.Ytlfbcimcehcomaa
open Go Go.HL Go.Proofs Go.Wx Go.Rd
section
variable [Lvl]
set_option maxRecDepth 100000
end
end Go.Proofs.Ytlfbcimcehcomaa
/- Walks: whichever fault there truly is. Conditions: as each theorem states. -/
namespace Go.Proofs.Ytlfbcimcehcomaa
open Go Go.HL Go.Proofs Go.Wx Go.Rd
section
variable [Lvl]
set_option maxRecDepth 100000
end
end Go.Proofs.Ytlfbcimcehcomaa
/- Plain: how far rods turn, as the reference counts it: as many rounds as there are rods. Conditions: none. -/
namespace Go.Rd
open Go Go.HL Go.Wx
variable [Lvl]

end Go.Rd
/- Walks of the reference: the checks of a machine that is valid, and of a hand. Conditions: as each theorem states. -/
namespace Go.Proofs.Ytlfbcimcehcomaa
open Go Go.HL Go.Proofs Go.Wx Go.Rd
section
variable [Lvl]
set_option maxRecDepth 100000
end
end Go.Proofs.Ytlfbcimcehcomaa
/- Walks of package rod: how deep a button has to go. Conditions: as each theorem states. -/
namespace Go.Proofs.Ytlfbcimcehcomaa
open Go Go.HL Go.Proofs Go.Wx Go.Rd
section
variable [Lvl]
set_option maxRecDepth 100000
end
end Go.Proofs.Ytlfbcimcehcomaa
/- Walks: how deep buttons go. Conditions: as each theorem states. -/
namespace Go.Proofs.Ytlfbcimcehcomaa
open Go Go.HL Go.Proofs Go.Wx Go.Rd
section
variable [Lvl]
set_option maxRecDepth 100000
end
end Go.Proofs.Ytlfbcimcehcomaa
/- Walks of the reference: how far rods turn, how far levers are lifted, what sounds. Conditions: as each theorem states. -/
namespace Go.Proofs.Ytlfbcimcehcomaa
open Go Go.HL Go.Proofs Go.Wx Go.Rd
section
variable [Lvl]
set_option maxRecDepth 100000
end
end Go.Proofs.Ytlfbcimcehcomaa
/- Walks of package rod: Chord. Conditions: as each theorem states. -/
namespace Go.Proofs.Ytlfbcimcehcomaa
open Go Go.HL Go.Proofs Go.Wx Go.Rd
section
variable [Lvl]
set_option maxRecDepth 100000
def ChoI (P : List Int → Bool) (n : Nat) (p3 p4 p10 p11 : Nat × Obj) (b6 b7 l : Nat) (t6 t7 : TypeId) (r : Loop) (h0 : AH) (k : Nat) (h : AH) (M : Pv) : Prop :=
  Ext h0 h ∧ (∀ i s, i < k → (setsM n)[i]? = some s → P s = false) ∧
    M = [some p3, some p4, some (b6, .cells #[.slice none 0 0] t6 (0, 0)), some (b7, .cells #[.int .i64 0] t7 (0, 0)), some p10, some p11, some (l, obL r .ready none)]
def ChoF (P : List Int → Bool) (n : Nat) (p3 p4 p10 p11 : Nat × Obj) (b6 b7 l : Nat) (t6 t7 : TypeId) (r : Loop) (h0 : AH) (h : AH) (M : Pv) : Prop :=
  Ext h0 h ∧ ∃ (x : List Int) (BA : Option Addr) (cB : Nat), (setsM n).find? P = some x ∧ Row h 1 intC BA x ∧
    M = [some p3, some p4, some (b6, .cells #[.slice BA x.length cB] t6 (0, 0)), some (b7, .cells #[.int .i64 0] t7 (0, 0)), some p10, some p11, some (l, obL r .done (some .ret))]
theorem ChoI.ext {P : List Int → Bool} {n : Nat} {p3 p4 p10 p11 : Nat × Obj} {b6 b7 l : Nat} {t6 t7 : TypeId} {r : Loop} {h0 h h' : AH} {k : Nat} {M : Pv} (I : ChoI P n p3 p4 p10 p11 b6 b7 l t6 t7 r h0 k h M) (E : Ext h h') : ChoI P n p3 p4 p10 p11 b6 b7 l t6 t7 r h0 k h' M := ⟨I.1.trans E, I.2⟩
theorem ChoF.ext {P : List Int → Bool} {n : Nat} {p3 p4 p10 p11 : Nat × Obj} {b6 b7 l : Nat} {t6 t7 : TypeId} {r : Loop} {h0 h h' : AH} {M : Pv} (I : ChoF P n p3 p4 p10 p11 b6 b7 l t6 t7 r h0 h M) (E : Ext h h') : ChoF P n p3 p4 p10 p11 b6 b7 l t6 t7 r h0 h' M := by
  obtain ⟨E0, x, BA, cB, e1, R1, e2⟩ := I
  exact ⟨E0.trans E, x, BA, cB, e1, R1.ext E, e2⟩
end
end Go.Proofs.Ytlfbcimcehcomaa
/- Plain: all sets of so many numbers, as they are listed. Conditions: none. -/
namespace Go.Rd
open Go Go.HL Go.Wx
end Go.Rd
/- Walks: the kit's and the reference's lists of sets. Conditions: as each theorem states. -/
namespace Go.Proofs.Ytlfbcimcehcomaa
open Go Go.HL Go.Proofs Go.Wx Go.Rd
section
variable [Lvl]
set_option maxRecDepth 100000
end
end Go.Proofs.Ytlfbcimcehcomaa
/- Walks: the chord is the first of all sets. Conditions: as each theorem states. -/
namespace Go.Proofs.Ytlfbcimcehcomaa
open Go Go.HL Go.Proofs Go.Wx Go.Rd
section
variable [Lvl]
set_option maxRecDepth 100000
end
end Go.Proofs.Ytlfbcimcehcomaa
/- Walks of the reference: all sets, all hands. Conditions: as each theorem states. -/
namespace Go.Proofs.Ytlfbcimcehcomaa
open Go Go.HL Go.Proofs Go.Wx Go.Rd
section
variable [Lvl]
set_option maxRecDepth 100000
end
end Go.Proofs.Ytlfbcimcehcomaa
/- Walks of the reference: all hands; equal lists; sets with a number more, or without one. Conditions: as each theorem states. -/
namespace Go.Proofs.Ytlfbcimcehcomaa
open Go Go.HL Go.Proofs Go.Wx Go.Rd
section
variable [Lvl]
set_option maxRecDepth 100000
end
end Go.Proofs.Ytlfbcimcehcomaa
/- The own logic, part GV: panics that are raised and recovered, a call of a closure that is put off. Conditions: none. -/
namespace Go.HL
open Go Go.Conc
variable [Lvl]
section
variable {P : Program} {n : Nat} {ops : Array Oper} {os : List Oper} {K : Sl → Pv → AH → Prop} {E : Value → Sl → Pv → AH → Prop} {S : Sl} {L : Pv} {h : AH} {d : Option Tmp} {ty : TypeId} {ps : String} {af : Array Edge}
/-- A panic. -/
theorem op_panic {x : Operand} {t : TypeId} {v : Value} (hx : ev n S x = .iface t v) (e : E (.iface t v) S L h) : wpL P n ops (⟨d, .panic x, ty, ps, af, none⟩ :: os) K E S L h := by
  refine op_of fun V => ?_
  unfold opW
  simp only [execOp, hx]
  exact ⟨L, h, rfl, V, e⟩
/-- A function that may panic: R holds of what it returns, Q of what it panics with. -/
def FnE (P : Program) (f : FuncId) (args : Array Value) (h : AH) (R Q : Value → AH → Prop) : Prop := CallT P f args h (fun v h' => Ext h h' ∧ R v h') (fun v h' => Ext h h' ∧ Q v h')
theorem FnE.of {f : FuncId} {args : Array Value} {R Q : Value → AH → Prop} (c : FnT P f args h R) : FnE P f args h R Q := CallT.mono c (fun _ _ r => r) (fun _ _ y => y.elim)
end
section
variable {P : Program} {n : Nat} {S : Sl} {D : Df} {L : Pv} {h : AH} {ops : Array Oper} {i : Nat} {rest : List Nat} {o : Oper} {b : Frame} {k : List Item} {cs : List Frame} {w : World} {main : Bool}
/-- A call of a closure that is put off. -/
def laterF (g : FuncId) (caps : Array Value) : Deferred := { target := .fn (.func g) caps, args := #[] }
theorem step_deferF {x : Operand} {g : FuncId} {caps : Array Value} {ats : Array TypeId} (ho : ops[i]? = some o) (hw : Region.wanted o (yielded ops (arr n S)) = true) (hop : o.op = .defer { callee := .value x, args := #[], argTypes := ats }) (hx : ev n S x = .func (.func g) #[] caps) (hro : b.roundOf = none) :
    stepG P main (G (mk b n S D (.inRegion ops (i :: rest) :: k)) cs) w = .go (G (mk b n (put S o.dst undef) (laterF g caps :: D) (.inRegion ops rest :: k)) cs) w := by
  have he := mk_eval b n S D (.inRegion ops (i :: rest) :: k)
  simp only [mk, hro] at he
  have hr : (execOp (ev n S) o).runT P w #[] = (.ok (.defer (laterF g caps)) w, #[]) := by
    unfold execOp
    simp only [hop, resolve, Deferred.ofValue, hx]
    simp [bind, pure, Sem.bind, Sem.runT, -Sem.runT_eq, laterF]
  have hf := mk_finish (n := n) b S (laterF g caps :: D) ops i rest k o ho undef
  have e1 : stepG P main (G (mk b n S D (.inRegion ops (i :: rest) :: k)) cs) w = stepG.apply P true (mk b n S D (.inRegion ops (i :: rest) :: k)) cs none (execOp (ev n S) o) w := by
    simp only [stepG, stepG.exec, stepG.oper, Frame.oper?, mk, ho, he, Option.map_some, Option.getD_some, hw, if_true, hro]
  rw [e1]
  unfold stepG.apply
  simp only [hr, if_true]
  have hf2 : Frame.finish { mk b n S D (.inRegion ops (i :: rest) :: k) with defers := laterF g caps :: (mk b n S D (.inRegion ops (i :: rest) :: k)).defers } undef = mk b n (put S o.dst undef) (laterF g caps :: D) (.inRegion ops rest :: k) := hf
  rw [hf2]
  split <;> simp_all [seen_nil, after_nil]
theorem goes_deferF {K : Post} {x : Operand} {g : FuncId} {caps : Array Value} {ats : Array TypeId} (ho : ops[i]? = some o) (hw : Region.wanted o (yielded ops (arr n S)) = true) (hop : o.op = .defer { callee := .value x, args := #[], argTypes := ats }) (hx : ev n S x = .func (.func g) #[] caps)
    (g2 : Goes P n none [.inRegion ops rest] K (put S o.dst undef) (laterF g caps :: D) L h) : Goes P n none [.inRegion ops (i :: rest)] K S D L h := by
  intro H V b hb k cs
  refine .ctl (fr' := mk b n (put S o.dst undef) (laterF g caps :: D) ([.inRegion ops rest] ++ k)) (cs' := cs) (fun main w => step_deferF ho hw hop hx hb) ?_
  have V' : Fits h L (laterF g caps :: D) H := ⟨V.valid, V.disj, V.nd, V.eq⟩
  exact g2 H V' b hb k cs
/-- The closure is run when the frame is left. -/
theorem step_later {g : FuncId} {gn : Func} {c : Code} {caps : Array Value} {md : FrameMode} {todo : List Item} (hg : P.funcs[g]? = some gn) (hname : (gn.name == "runtime.NumGoroutine") = false) (hb : gn.body = some c) (hmd : md = .returning ∨ ∃ ch, md = .panicking ch) :
    stepG P main (G { mk b n S (laterF g caps :: D) todo with mode := md } cs) w = .go (G (Frame.enter P g caps .deferred) ({ mk b n S D todo with mode := md } :: cs)) w := by
  have h1 : ¬ gn.name = "runtime.NumGoroutine" := by simpa using hname
  rcases hmd with rfl | ⟨ch, rfl⟩
  · simp [stepG, unwind, callDeferred, laterF, mk, invoke, callFunc, hg, h1, hb, GStep.after, seen_none]
  · simp [stepG, unwind, callDeferred, laterF, mk, invoke, callFunc, hg, h1, hb, GStep.after, seen_none]
theorem exec_recover {ats : Array TypeId} (hop : o.op = .call { callee := .builtin .recover, args := #[], argTypes := ats }) : (execOp (ev n S) o).runT P w #[] = (.ok .recover w, #[]) := by
  unfold execOp
  simp only [hop, resolve, invoke, builtin]
  simp [bind, pure, Sem.bind, Sem.runT, -Sem.runT_eq]
theorem step_recover {ats : Array TypeId} {v : Value} {older : List PanicEntry} {c0 : Frame} (ho : ops[i]? = some o) (hw : Region.wanted o (yielded ops (arr n S)) = true) (hop : o.op = .call { callee := .builtin .recover, args := #[], argTypes := ats }) (hbk : b.kind = .deferred) (hro : b.roundOf = none)
    (hm : c0.mode = .panicking ({ v := v, recovered := false } :: older)) :
    stepG P main (G (mk b n S D (.inRegion ops (i :: rest) :: k)) (c0 :: cs)) w = .go (G (mk b n (put S o.dst v) D (.inRegion ops rest :: k)) ({ c0 with mode := .panicking ({ v := v, recovered := true } :: older) } :: cs)) w := by
  have he := mk_eval b n S D (.inRegion ops (i :: rest) :: k)
  simp only [mk, hro] at he
  have hf := mk_finish (n := n) b S D ops i rest k o ho v
  have e1 : stepG P main (G (mk b n S D (.inRegion ops (i :: rest) :: k)) (c0 :: cs)) w = stepG.apply P true (mk b n S D (.inRegion ops (i :: rest) :: k)) (c0 :: cs) none (execOp (ev n S) o) w := by
    simp only [stepG, stepG.exec, stepG.oper, Frame.oper?, mk, ho, he, Option.map_some, Option.getD_some, hw, if_true, hro, hop]
  have e2 : tryRecover (mk b n S D (.inRegion ops (i :: rest) :: k)) (c0 :: cs) = some (v, { c0 with mode := .panicking ({ v := v, recovered := true } :: older) } :: cs) := by
    simp only [tryRecover, mk, hbk, hm]
  have e3 : (mk b n S D (.inRegion ops (i :: rest) :: k)).roundOf = none := hro
  rw [e1]
  unfold stepG.apply
  simp only [exec_recover hop, if_true, e3, e2, hf]
  split <;> simp_all [seen_nil, after_nil]
theorem step_norec {ats : Array TypeId} {c0 : Frame} (ho : ops[i]? = some o) (hw : Region.wanted o (yielded ops (arr n S)) = true) (hop : o.op = .call { callee := .builtin .recover, args := #[], argTypes := ats }) (hbk : b.kind = .deferred) (hro : b.roundOf = none)
    (hm : c0.mode = .returning) :
    stepG P main (G (mk b n S D (.inRegion ops (i :: rest) :: k)) (c0 :: cs)) w = .go (G (mk b n (put S o.dst .nilIface) D (.inRegion ops rest :: k)) (c0 :: cs)) w := by
  have he := mk_eval b n S D (.inRegion ops (i :: rest) :: k)
  simp only [mk, hro] at he
  have hf := mk_finish (n := n) b S D ops i rest k o ho .nilIface
  have e1 : stepG P main (G (mk b n S D (.inRegion ops (i :: rest) :: k)) (c0 :: cs)) w = stepG.apply P true (mk b n S D (.inRegion ops (i :: rest) :: k)) (c0 :: cs) none (execOp (ev n S) o) w := by
    simp only [stepG, stepG.exec, stepG.oper, Frame.oper?, mk, ho, he, Option.map_some, Option.getD_some, hw, if_true, hro, hop]
  have e2 : tryRecover (mk b n S D (.inRegion ops (i :: rest) :: k)) (c0 :: cs) = none := by
    simp only [tryRecover, mk, hbk, hm]
  have e3 : (mk b n S D (.inRegion ops (i :: rest) :: k)).roundOf = none := hro
  rw [e1]
  unfold stepG.apply
  simp only [exec_recover hop, if_true, e3, e2, hf]
  split <;> simp_all [seen_nil, after_nil]
/-- A closure that was put off comes back. -/
theorem step_back {g : FuncId} {gn : Func} {c0 : Frame} {todo : List Item} {v : Value} (hg : P.funcs[g]? = some gn) (hres : gn.results = #[]) (hbf : b.fn = g) (hbk : b.kind = .deferred) (hm : c0.mode = .returning ∨ c0.mode = .panicking [{ v := v, recovered := true }]) :
    stepG P main (G { mk b n S [] todo with mode := .returning } (c0 :: cs)) w = .go (G { c0 with mode := .returning } cs) w := by
  subst hbf
  have hr : ∀ w, (results gn (arr n S)).runT P w #[] = (.ok (.tuple #[]) w, #[]) := fun w => by
    exact Prod.ext ((Sem.runT_fst _ _ _ _).trans (results_none hres _ P w)) (events_results_none hres _ _)
  rcases hm with hm | hm
  · have e : c0 = { c0 with mode := .returning } := by cases c0; simp at hm; subst hm; rfl
    simp only [stepG, unwind, mk, hg, hr w, doReturn, hbk, hm]
    simp [seen_nil, after_nil]
    exact e
  · simp only [stepG, unwind, mk, hg, hr w, doReturn, hbk, hm]
    simp [seen_nil, after_nil]
end
section
variable {P : Program} {n : Nat} {K : Value → AH → Prop}
/-- What the closure has to do, behind the word that recovers: x is what it got. -/
def Clo (P : Program) (m : Nat) (ops0 : Array Oper) (c2 : Code) (t : Tmp) (x : Value) (caps : Array Value) (L : Pv) (h : AH) (Q : Pv → AH → Prop) : Prop :=
  Nat.ble caps.size m = true ∧ Goes P m none ([.inRegion ops0 [1]] ++ [.code c2]) (fun e _ D L' h' => (e = .normal ∨ e = .ret) ∧ D = [] ∧ Q L' h') (put (argS caps) (some t) x) [] L h
def doneK (P : Program) (n : Nat) (fn : Func) (K : Value → AH → Prop) (S : Sl) (L : Pv) (h : AH) : Prop := Valid h L → dem P (results fn (arr n S)) (wl h L) K noE
/-- At the end of the body of a function that has put off a closure. -/
def deferK (P : Program) (n : Nat) (fn : Func) (K : Value → AH → Prop) (g : FuncId) (m : Nat) (ops0 : Array Oper) (c2 : Code) (t : Tmp) : Post
  | .normal, S, D, L, h => (D = [] ∧ doneK P n fn K S L h) ∨ ∃ caps, D = [laterF g caps] ∧ Clo P m ops0 c2 t .nilIface caps L h (fun L2 h2 => doneK P n fn K S L2 h2)
  | .ret, S, D, L, h => (D = [] ∧ doneK P n fn K S L h) ∨ ∃ caps, D = [laterF g caps] ∧ Clo P m ops0 c2 t .nilIface caps L h (fun L2 h2 => doneK P n fn K S L2 h2)
  | .panic v, S, D, L, h => ∃ caps, D = [laterF g caps] ∧ Clo P m ops0 c2 t v caps L h (fun L2 h2 => doneK P n fn K S L2 h2)
  | .exit _, _, _, _, _ => False
theorem call_defer {f : FuncId} {fn : Func} {c : Code} {args : Array Value} {h : AH} (hf : P.funcs[f]? = some fn) (hb : fn.body = some c) (hn : fn.ntmps = n) (ha : Nat.ble args.size n = true)
    {g : FuncId} {gn : Func} {id0 : Nat} {ops0 : Array Oper} {c2 : Code} {m : Nat} {o0 : Oper} {t : Tmp} {ats : Array TypeId} (hg : P.funcs[g]? = some gn) (hname : (gn.name == "runtime.NumGoroutine") = false) (hgb : gn.body = some (.seq (.region id0 ops0 false) c2)) (hgm : gn.ntmps = m) (hres : gn.results = #[])
    (h0 : ops0[0]? = some o0) (hop : o0.op = .call { callee := .builtin .recover, args := #[], argTypes := ats }) (hd : o0.dst = some t) (hgd : o0.guard = none) (hsz : ops0.size = 2)
    (w : xp P n none c (deferK P n fn K g m ops0 c2 t) (argS args) [] [] h) : CallT P f args h K noE := by
  intro hfin c0 cs
  have he : Frame.enter P f args .normal = mk { (default : Frame) with fn := f, kind := .normal, roundOf := none } n (argS args) [] [.code c] := by
    simp [Frame.enter, mk, hf, hb, hn, enter_tmps n args (Nat.le_of_ble_eq_true ha)]
  rw [he]
  have w1 := w h (by have := Fits.nil (valid_nil hfin); rw [wl_nil] at this; exact this) { (default : Frame) with fn := f, kind := .normal, roundOf := none } rfl [] (c0 :: cs)
  obtain ⟨b, hbdef⟩ : ∃ b : Frame, b = { (default : Frame) with fn := f, kind := .normal, roundOf := none } := ⟨_, rfl⟩
  have hbf : b.fn = f := by rw [hbdef]
  have hbk : b.kind = .normal := by rw [hbdef]
  have hbr : b.roundOf = none := by rw [hbdef]
  rw [← hbdef] at w1 ⊢
  -- the way back, when nothing is put off any more
  have back : ∀ (S : Sl) (L : Pv) (h' H : AH) (todo : List Item), Fits h' L [] H → doneK P n fn K S L h' →
      Rch P (fun fr cs' h' => cs' = cs ∧ ((∃ v, fr = c0.finish v ∧ K v h') ∨ (∃ v, fr = c0.raise [{ v := v, recovered := false }] ∧ noE v h'))) { mk b n S [] todo with mode := .returning } (c0 :: cs) H := by
    intro S L h' H todo V kk
    refine ret_run hf c0 cs b hbf hbk S L todo [] h' H V rfl (fun h2 _ e V2 => ?_)
    rw [e rfl] at V2 ⊢
    exact kk V2
  -- the closure is run
  have run : ∀ (S : Sl) (L : Pv) (h' H : AH) (todo : List Item) (caps : Array Value) (x : Value) (md md' : FrameMode), Fits h' L [laterF g caps] H → (md = .returning ∨ ∃ ch, md = .panicking ch) →
      (∀ (b' : Frame) (S' : Sl) (k : List Item) (c1 : Frame) (cs' : List Frame) main w, c1.mode = md → b'.kind = .deferred → b'.roundOf = none → stepG P main (G (mk b' m S' [] (.inRegion ops0 (0 :: [1]) :: k)) (c1 :: cs')) w = .go (G (mk b' m (put S' o0.dst x) [] (.inRegion ops0 [1] :: k)) ({ c1 with mode := md' } :: cs')) w) →
      (md' = .returning ∨ md' = .panicking [{ v := x, recovered := true }]) →
      Clo P m ops0 c2 t x caps L h' (fun L2 h2 => doneK P n fn K S L2 h2) →
      Rch P (fun fr cs' h' => cs' = cs ∧ ((∃ v, fr = c0.finish v ∧ K v h') ∨ (∃ v, fr = c0.raise [{ v := v, recovered := false }] ∧ noE v h'))) { mk b n S [laterF g caps] todo with mode := md } (c0 :: cs) H := by
    intro S L h' H todo caps x md md' V hmd hrec hmd' clo
    obtain ⟨hcs, clo⟩ := clo
    have hH : Fits h' L [] H := ⟨V.valid, by rw [mkH_nil]; exact disj_nil _, List.nodup_nil, by rw [V.eq]; rfl⟩
    refine .ctl (fr' := Frame.enter P g caps .deferred) (cs' := { mk b n S [] todo with mode := md } :: c0 :: cs) (fun main w => step_later hg hname hgb hmd) ?_
    have he2 : Frame.enter P g caps .deferred = mk { (default : Frame) with fn := g, kind := .deferred, roundOf := none } m (argS caps) [] [.code (.seq (.region id0 ops0 false) c2)] := by
      simp [Frame.enter, mk, hg, hgb, hgm, enter_tmps m caps (Nat.le_of_ble_eq_true hcs)]
    rw [he2]
    refine .ctl (fr' := mk { (default : Frame) with fn := g, kind := .deferred, roundOf := none } m (argS caps) [] [.code (.region id0 ops0 false), .code c2]) (cs' := { mk b n S [] todo with mode := md } :: c0 :: cs) (fun main w => by simp [stepG, stepG.exec, mk]) ?_
    refine .ctl (fr' := mk { (default : Frame) with fn := g, kind := .deferred, roundOf := none } m (argS caps) [] [.inRegion ops0 (0 :: [1]), .code c2]) (cs' := { mk b n S [] todo with mode := md } :: c0 :: cs) (fun main w => by simp [stepG, stepG.exec, mk, hsz]; rfl) ?_
    refine .ctl (fr' := mk { (default : Frame) with fn := g, kind := .deferred, roundOf := none } m (put (argS caps) (some t) x) [] ([.inRegion ops0 [1]] ++ [.code c2] ++ [])) (cs' := { mk b n S [] todo with mode := md' } :: c0 :: cs) (fun main w => by rw [← hd]; exact hrec _ _ _ _ _ main w rfl rfl rfl) ?_
    refine (clo H hH _ rfl [] ({ mk b n S [] todo with mode := md' } :: c0 :: cs)).bind ?_
    rintro fr cs' H' ⟨rfl, e, S', D', L', h2, V', ⟨hex, rfl, q⟩, a⟩
    have fin : ∀ todo', Rch P (fun fr cs' h' => cs' = cs ∧ ((∃ v, fr = c0.finish v ∧ K v h') ∨ (∃ v, fr = c0.raise [{ v := v, recovered := false }] ∧ noE v h'))) { mk { (default : Frame) with fn := g, kind := .deferred, roundOf := none } m S' [] todo' with mode := .returning } ({ mk b n S [] todo with mode := md' } :: c0 :: cs) H' := fun todo' => by
      refine .ctl (fr' := { mk b n S [] todo with mode := .returning }) (cs' := c0 :: cs) (fun main w => step_back (c0 := { mk b n S [] todo with mode := md' }) (v := x) hg hres rfl rfl hmd') (back S L' h2 H' todo V' q)
    rcases hex with rfl | rfl
    · have a' : fr = mk { (default : Frame) with fn := g, kind := .deferred, roundOf := none } m S' [] [] := a
      subst a'
      exact .ctl (fr' := { mk { (default : Frame) with fn := g, kind := .deferred, roundOf := none } m S' [] [] with mode := .returning }) (cs' := { mk b n S [] todo with mode := md' } :: c0 :: cs) (fun main w => by simp [stepG, stepG.exec, mk]) (fin [])
    · obtain ⟨todo', rfl⟩ := a.1 rfl
      exact fin todo'
  have hw0 : ∀ S' : Sl, Region.wanted o0 (yielded ops0 (arr m S')) = true := fun S' => by simp [Region.wanted, hgd]
  have ret : ∀ (S : Sl) (D : Df) (L : Pv) (h' H : AH) (todo : List Item), Fits h' L D H → ((D = [] ∧ doneK P n fn K S L h') ∨ ∃ caps, D = [laterF g caps] ∧ Clo P m ops0 c2 t .nilIface caps L h' (fun L2 h2 => doneK P n fn K S L2 h2)) →
      Rch P (fun fr cs' h' => cs' = cs ∧ ((∃ v, fr = c0.finish v ∧ K v h') ∨ (∃ v, fr = c0.raise [{ v := v, recovered := false }] ∧ noE v h'))) { mk b n S D todo with mode := .returning } (c0 :: cs) H := by
    rintro S D L h' H todo V (⟨rfl, kk⟩ | ⟨caps, rfl, clo⟩)
    · exact back S L h' H todo V kk
    · refine run S L h' H todo caps .nilIface .returning .returning V (.inl rfl) ?_ (.inl rfl) clo
      intro b' S' k c1 cs' main w hm hk hr
      have hc1 : c1 = { c1 with mode := .returning } := by cases c1; simp at hm; subst hm; rfl
      rw [← hc1]
      exact step_norec h0 (hw0 S') hop hk hr hm
  refine w1.bind ?_
  rintro fr cs' H ⟨rfl, e, S', D', L', h', V', kk, a⟩
  cases e with
  | normal =>
    have a' : fr = mk b n S' D' [] := a
    subst a'
    exact .ctl (fr' := { mk b n S' D' [] with mode := .returning }) (cs' := c0 :: cs) (fun main w => by simp [stepG, stepG.exec, mk, hbr]) (ret S' D' L' h' H [] V' kk)
  | ret =>
    obtain ⟨todo, rfl⟩ := a.1 (by rw [hbdef])
    exact ret S' D' L' h' H todo V' kk
  | panic v =>
    obtain ⟨todo, rfl⟩ := a
    obtain ⟨caps, rfl, clo⟩ := kk
    refine run S' L' h' H todo caps v (.panicking [{ v := v, recovered := false }]) (.panicking [{ v := v, recovered := true }]) V' (.inr ⟨_, rfl⟩) ?_ (.inr rfl) clo
    intro b' S2 k c1 cs' main w hm hk hr
    exact step_recover h0 (hw0 S2) hop hk hr hm
  | exit id => exact kk.elim
end
end Go.HL
/- The own logic, part GT: the first and the last part of a slice. Conditions: none. -/
namespace Go.HL
open Go
variable [Lvl]
section
variable {P : Program} {n : Nat} {d : Option Tmp} {ty : TypeId} {ps : String} {af : Array Edge} {S : Sl}
theorem pv_sliceHi {x hi : Operand} {t e : TypeId} {m len cap : Nat} {A : Option Addr} (j : Nat) {k2 : IntKind} {j' : Int} (hx : ev n S x = .slice A len cap) (hh : ev n S hi = .int k2 j') (ej : j' = j) (ht : pev P (underlying t) = some (.slice e)) (hs : pev P (sizeOf e) = some m) (hjc : j ≤ cap) :
    pev P (execOp (ev n S) ⟨d, .slice t x none (some hi) none, ty, ps, af, none⟩) = some (.value (.slice A j cap)) := by
  subst ej
  simp only [execOp, hx, hh, Option.map]
  refine (pev_bind (a := .slice A j cap) ?_).trans rfl
  unfold Instr.sliceAt
  refine (pev_mbind ht).trans ?_
  simp only
  unfold Instr.slice
  refine (pev_mbind ht).trans ?_
  simp only
  have hb : pev P (Instr.sliceBounds true len cap none (some (.int k2 (j : Int))) none) = some (0, j, cap) := by
    unfold Instr.sliceBounds
    refine (pev_mbind (a := cap) rfl).trans ?_
    have h1 : pev P (Instr.sliceBound (.int k2 (j : Int)) cap .sliceAcap) = some j := by
      unfold Instr.sliceBound
      refine (pev_mbind (a := (k2, (j : Int))) rfl).trans ?_
      simp only
      rw [if_pos ⟨by omega, by omega⟩]
      rfl
    refine (pev_mbind h1).trans ?_
    rfl
  refine (pev_mbind hb).trans ?_
  simp only
  refine (pev_mbind hs).trans ?_
  have e0 : (if cap = 0 then A else A.map (·.add (0 * m))) = A := by
    split
    · rfl
    · cases A <;> simp [Addr.add]
  show some (Value.slice (if cap = 0 then A else A.map (·.add (0 * m))) (j - 0) (cap - 0)) = _
  rw [e0]
  rfl
theorem pv_sliceLo {x lo : Operand} {t e : TypeId} {m len cap : Nat} {A : Option Addr} (i : Nat) {k : IntKind} {i' : Int} (hx : ev n S x = .slice A len cap) (hl : ev n S lo = .int k i') (ei : i' = i) (ht : pev P (underlying t) = some (.slice e)) (hs : pev P (sizeOf e) = some m) (hij : i ≤ len) (hc : len ≤ cap) :
    pev P (execOp (ev n S) ⟨d, .slice t x (some lo) none none, ty, ps, af, none⟩) = some (.value (.slice (if cap = i then A else A.map (·.add (i * m))) (len - i) (cap - i))) := by
  subst ei
  simp only [execOp, hx, hl, Option.map]
  refine (pev_bind (a := .slice (if cap = i then A else A.map (·.add (i * m))) (len - i) (cap - i)) ?_).trans rfl
  unfold Instr.sliceAt
  refine (pev_mbind ht).trans ?_
  simp only
  unfold Instr.slice
  refine (pev_mbind ht).trans ?_
  simp only
  have hb : pev P (Instr.sliceBounds true len cap (some (.int k (i : Int))) none none) = some (i, len, cap) := by
    unfold Instr.sliceBounds
    refine (pev_mbind (a := cap) rfl).trans ?_
    have h1 : ∀ f, pev P (Instr.sliceBound (.int .i64 (len : Int)) cap f) = some len := by
      intro f
      unfold Instr.sliceBound
      refine (pev_mbind (a := (IntKind.i64, (len : Int))) rfl).trans ?_
      simp only
      rw [if_pos ⟨by omega, by omega⟩]
      rfl
    have h2 : pev P (Instr.sliceBound (.int k (i : Int)) len .sliceB) = some i := by
      unfold Instr.sliceBound
      refine (pev_mbind (a := (k, (i : Int))) rfl).trans ?_
      simp only
      rw [if_pos ⟨by omega, by omega⟩]
      rfl
    first
    | (refine (pev_mbind (a := len) rfl).trans ?_; refine (pev_mbind h2).trans ?_; rfl)
    | (refine (pev_mbind (a := len) (h1 _)).trans ?_; refine (pev_mbind h2).trans ?_; rfl)
  refine (pev_mbind hb).trans ?_
  simp only
  refine (pev_mbind hs).trans ?_
  rfl
end
end Go.HL
