/- An own logic over the model, its walks and its plain laws, joined of parts R2 GJ R3 R4 HB Ss Ka K1 K2 K3 Kb Kd CD GQ HD K7 K8 K9 K10 K11 K12 K13 Rh Ri Rj Rk Rl. Conditions: as each theorem states. -/
import Derived.Test.YtlfbcimcehcomaaLa2
set_option linter.all false
/- Walks of package rod: the goroutine of turned. Conditions: as each theorem states. -/
namespace Go.Proofs.Ytlfbcimcehcomaa
open Go Go.HL Go.Proofs Go.Wx Go.Rd Go.Conc
set_option maxRecDepth 100000
section
variable [Lvl]
theorem turnsEq {a b : List Int} (ha : a.length = 6) (hb : b.length = 6) : pev Try.prog (Op.equalIn Op.maxDepth 129 (.agg (tV a).toArray) (.agg (tV b).toArray)) = some (decide (a = b)) := by
  obtain ⟨a0, a1, a2, a3, a4, a5, rfl⟩ := len6 ha
  obtain ⟨b0, b1, b2, b3, b4, b5, rfl⟩ := len6 hb
  have h1 := eq_array (P := Try.prog) (t := 129) (d := 9999) (len := 6) (xs := (tV [a0, a1, a2, a3, a4, a5]).toArray) (ys := (tV [b0, b1, b2, b3, b4, b5]).toArray) (rs := [a0 == b0, a1 == b1, a2 == b2, a3 == b3, a4 == b4, a5 == b5]) rfl rfl rfl ?_
  · refine h1.trans ?_
    simp only [List.all_cons, List.all_nil, id, Bool.and_true, Option.some.injEq]
    rw [Bool.eq_iff_iff]
    simp
  · intro i r hr
    match i, hr with
    | 0, hr => cases hr; exact ⟨_, _, rfl, rfl, eq_int rfl _ _⟩
    | 1, hr => cases hr; exact ⟨_, _, rfl, rfl, eq_int rfl _ _⟩
    | 2, hr => cases hr; exact ⟨_, _, rfl, rfl, eq_int rfl _ _⟩
    | 3, hr => cases hr; exact ⟨_, _, rfl, rfl, eq_int rfl _ _⟩
    | 4, hr => cases hr; exact ⟨_, _, rfl, rfl, eq_int rfl _ _⟩
    | 5, hr => cases hr; exact ⟨_, _, rfl, rfl, eq_int rfl _ _⟩
    | i + 6, hr => simp at hr
end
theorem turned1_ok {c bC bH bM bD : Nat} {hw R : AH} {fC : Nat × Nat} {m : MachP} {a : HandP} {depth : Int} (F : Fit m a) {AB AL HA OA : Option Addr} {cB cL cH cO : Nat} {Q W : Value} {N : Nat} (hd0 : 0 ≤ depth) (hd1 : depth ≤ 12) (hN : room depth zero6 < N)
    (fin : Fin (hun hw (zf R))) (d : Disj hw R) (hwc : hw c = none) (hRc : R c = none)
    (eC : hun hw (zf R) bC = some (.cells #[.chan (some c)] 172 fC)) (eD : hun hw (zf R) bD = some (.cells #[.int .i64 depth] 3 (0, 0)))
    (eH : Cells (hun hw (zf R)) bH 0 [.slice HA a.buttons.length cH, .slice OA a.on.length cO])
    (eM : Cells (hun hw (zf R)) bM 0 [.int .i64 m.rods, .int .i64 m.levers, .int .i64 m.regs, .int .i64 m.travel, .int .i64 m.opn, .slice AB m.buttons.length cB, Q, .slice AL m.links.length cL, W])
    (RH : Row (hun hw (zf R)) 1 intC HA a.buttons) (RO : Row (hun hw (zf R)) 1 intC OA a.on) (RB : Row (hun hw (zf R)) 1 intC AB m.buttons) (RL : Row (hun hw (zf R)) 4 linkC AL m.links) :
    RW Try.prog c (QW R c [baseG Try.prog []] (WEnd 93 74 c #[172] 0 hw)) (baseG Try.prog [{ target := .fn (.func 93) #[.pointer (some ⟨bC, 0, none⟩), .pointer (some ⟨bH, 0, none⟩), .pointer (some ⟨bM, 0, none⟩), .pointer (some ⟨bD, 0, none⟩)], args := #[] }]) [] (hun hw (zw R c ((sendsM m a depth N zero6).map turnsV))) := by
  letI : Lvl := ⟨false, some c, none⟩
  have hbl := F.bl
  have cC : cellA (hun hw (zf R)) ⟨bC, 0, none⟩ = some (.chan (some c)) := by simp only [cellA, eC]; rfl
  have cD : cellA (hun hw (zf R)) ⟨bD, 0, none⟩ = some (.int .i64 depth) := by simp only [cellA, eD]; rfl
  have hll := F.ll
  have hhl := F.hl
  have hol := F.ol
  refine worker_body (args := #[]) Try.func93 rfl rfl Try.ntmps93 rfl fin d hwc hRc ?_
  generalize hun hw (zf R) = h at *
  refine xp_seq ?_
  refine xp_regionD rfl rfl ?_
  refine op_load (v := .chan (some c)) rfl rfl (by simp only [cellA, eC]; rfl) ?_
  refine goes_defer rfl rfl rfl rfl ?_
  refine goes_end ?_
  refine goes_norm [_] rfl ?_
  refine xp_seq ?_
  refine xp_region rfl ?_
  refine op_alloc (cs := [_, _, _, _, _, _]) rfl rfl fun b4 hb4 => ?_
  refine wp_norm [_, _] rfl ?_
  refine xp_block ?_
  refine xp_loopL [5, 7, 9, 11, 12, 13, 14, 15, 16, 17, 18, 19, 20, 21, 22, 23, 24, 25, 26, 27, 28, 29, 30, 31, 32, 33, 34, 35, 36, 37, 38, 39, 40, 41, 42, 43, 44, 45, 46, 47, 48, 49, 50, 51, 52, 53, 54, 55, 56, 57, 58, 59, 60, 61, 62, 63, 64, 65, 66, 67, 68, 69, 70, 71, 72, 73] 2 (α := List Int) (fun t => []) (fun t L => (L.set 0 (some (c, gch ((sendsM m a depth N t).map turnsV)))).set 1 (some (b4, .cells (tV t).toArray 129 (0, 0)))) (fun t h_t => t.length = 6 ∧ Bd depth t ∧ room depth t < N) (fun t => room depth t) (zero6) trivial (rfl) (⟨rfl, zero_bd hd0, hN⟩) ?_
  rintro t T1 h_t E_t J_t
  refine goes_norm [_, _] rfl ?_
  obtain ⟨J1, J2, J3⟩ := J_t
  have hs := sends_eq F.lag J2 J3 (h := a)
  refine xp_block ?_
  refine xp_seq ?_
  refine xp_region rfl ?_
  have hT6 : (tV t).length = 6 := by simp [J1]
  refine op_loadPA 1 (m := 6) (vs := tV t) rfl rfl rfl rfl (rd_all hT6) ?_
  refine op_alloc (cs := [_, _, _, _, _, _]) rfl rfl fun b5 hb5 => ?_
  refine wp_norm [_, _, _] rfl ?_
  refine op_storeP 2 (m := 6) (v := .agg (tV t).toArray) (vs := tV t) (c' := tV t) rfl rfl rfl rfl rfl hT6 rfl (by simp [plainB]) (wrL_all hT6.symm) ?_
  refine wp_norm [_, _, _] rfl ?_
  refine xp_seq ?_
  refine xp_seq ?_
  refine xp_region rfl ?_
  refine op_pure (pv_fieldAddr rfl rfl rfl rfl _ rfl) ?_
  refine op_load (v := .slice HA _ _) rfl rfl ((eH.ext E_t) 0 _ rfl) ?_
  refine op_pure (pv_len rfl rfl) ?_
  refine op_pure (pv_move (v := .int .i64 _) rfl) ?_
  refine xp_block ?_
  refine xp_loopL [7, 15, 16, 17, 18, 19, 20, 21, 22, 23, 24, 25, 26, 27, 28, 29, 30, 31, 32, 33, 34] 3 (α := Nat) (fun k => [(15, .int .i64 k)]) (fun k L => L.set 2 (some (b5, .cells (tV (pressM m.buttons depth (a.buttons.take k) t)).toArray 129 (0, 0)))) (fun k h_k => k ≤ a.buttons.length) (fun k => a.buttons.length - k) (0) ⟨rfl, trivial⟩ (rfl) (Nat.zero_le _) ?_
  rintro k T2 h_k E_k J_k
  refine goes_norm [_, _, _] rfl ?_
  refine xp_seq ?_
  refine xp_region rfl ?_
  refine op_pure (pv_of (v := .bool _) rfl) ?_
  refine xp_seq ?_
  refine xp_cond rfl (fun hk => ?_) (fun hk => ?_)
  · skip
    have hkl : k < a.buttons.length := ltI hk
    obtain ⟨g, off, hA, hc⟩ := (RH.ext (Ext.trans E_t E_k)).at (by omega) hkl
    have hbk := F.hb _ (List.getElem_mem hkl)
    have hbk2 : a.buttons[k].toNat < m.buttons.length := by omega
    obtain ⟨g2, off2, hA2, hc2⟩ := (RB.ext (Ext.trans E_t E_k)).at (by omega) hbk2
    have hbt := F.btn _ (List.getElem_mem hbk2)
    have hP6 : (tV (pressM m.buttons depth (a.buttons.take k) t)).length = 6 := by rw [List.length_map, press_len, J1]
    refine xp_skip ?_
    refine xp_seq ?_
    refine xp_block ?_
    refine xp_seq ?_
    refine xp_region rfl ?_
    refine op_pure (pv_indexE rfl hA rfl rfl rfl (by omega) (by omega)) ?_
    refine op_load (v := .int .i64 _) rfl rfl ((hc) 0 _ rfl) ?_
    refine op_pure (pv_assign (v := .int .i64 _) rfl) ?_
    refine xp_dw [] rfl rfl rfl ?_
    refine dw_pure (i := 0) rfl (by decide +kernel) (pv_fieldAddr rfl rfl rfl rfl _ rfl) ?_
    refine dw_load (i := 1) rfl (by decide +kernel) ?_
    refine op_load (v := .slice AB _ _) rfl rfl ((eM.ext (Ext.trans E_t E_k)) 5 _ rfl) ?_
    refine dw_pure (i := 2) rfl (by decide +kernel) (pv_move (v := .int .i64 _) rfl) ?_
    refine dw_pure (i := 3) rfl (by decide +kernel) (pv_indexE rfl hA2 rfl rfl rfl (by omega) (by omega)) ?_
    refine dw_load (i := 4) rfl (by decide +kernel) ?_
    refine op_load (v := .int .i64 _) rfl rfl ((hc2) 0 _ rfl) ?_
    refine dw_pure (i := 5) rfl (by decide +kernel) (pv_fieldAddr rfl rfl rfl rfl _ rfl) ?_
    refine dw_load (i := 6) rfl (by decide +kernel) ?_
    refine op_load (v := .slice AB _ _) rfl rfl ((eM.ext (Ext.trans E_t E_k)) 5 _ rfl) ?_
    refine dw_pure (i := 7) rfl (by decide +kernel) (pv_move (v := .int .i64 _) rfl) ?_
    refine dw_pure (i := 8) rfl (by decide +kernel) (pv_indexE rfl hA2 rfl rfl rfl (by omega) (by omega)) ?_
    refine dw_load (i := 9) rfl (by decide +kernel) ?_
    refine op_load (v := .int .i64 _) rfl rfl ((hc2) 0 _ rfl) ?_
    refine dw_pure (i := 10) rfl (by decide +kernel) (pv_indexA (m := 1) rfl rfl rfl rfl (by omega) (by omega)) ?_
    refine dw_load (i := 11) rfl (by decide +kernel) ?_
    refine op_loadP 2 (v := .int .i64 ((pressM m.buttons depth (a.buttons.take k) t).getD m.buttons[a.buttons[k].toNat].toNat 0)) rfl rfl rfl (tV_at (by omega) (by rw [press_len]; omega)) ?_
    refine dw_load (i := 12) rfl (by decide +kernel) ?_
    refine op_load (v := .int .i64 depth) rfl rfl ((Ext.trans E_t E_k).cell cD) ?_
    refine dw_pure (i := 13) rfl (by decide +kernel) (pv_max rfl rfl) ?_
    refine dw_pure (i := 14) rfl (by decide +kernel) (pv_indexA (m := 1) rfl rfl rfl rfl (by omega) (by omega)) ?_
    refine dw_last (i := 15) rfl (by decide +kernel) (by decide +kernel) ?_
    refine op_storeP 2 (m := 1) (v := .int .i64 _) (vs := [.int .i64 (max ((pressM m.buttons depth (a.buttons.take k) t).getD m.buttons[a.buttons[k].toNat].toNat 0) depth)]) (c' := tV (pressM m.buttons depth (a.buttons.take (k + 1)) t)) rfl rfl rfl rfl rfl rfl (Nat.ble_eq_true_of_le (by rw [hP6]; omega)) rfl (by rw [pressM_take hkl, getD_get hbk2]; exact wrL_rise (by omega) rfl) ?_
    refine dw_norm [_, _, _] rfl ?_
    refine dw_end rfl ?_
    refine xp_region rfl ?_
    refine op_pure (pv_arith rfl (by omega)) ?_
    refine op_pure (pv_move (v := .int .i64 _) rfl) ?_
    refine ⟨k + 1, ⟨rfl, trivial⟩, rfl, rfl, E_k, fun h3 E3 => hkl, by first | omega | (dsimp only; omega), ?_⟩
    repeat (first | exact off_base _ _ _ | refine off_upd (by decide) ?_ | refine off_updL rfl ?_ | refine off_mix rfl ?_)
  · skip
    have hke : k = a.buttons.length := by have := geI hk; omega
    subst hke
    rw [List.take_length]
    obtain ⟨P, hP⟩ : ∃ P, P = pressM m.buttons depth a.buttons t := ⟨_, rfl⟩
    rw [← hP]
    have hP6 : P.length = 6 := by rw [hP, press_len, J1]
    have hPB : Bd depth P := by rw [hP]; exact press_bd _ _ J2
    have hSt : stepM m a depth t = linkM a.on m.links P := by rw [hP]; rfl
    refine xp_exit ?_
    refine xp_seq ?_
    refine xp_seq ?_
    refine xp_region rfl ?_
    refine op_pure (pv_fieldAddr rfl rfl rfl rfl _ rfl) ?_
    refine op_load (v := .slice AL _ _) rfl rfl ((eM.ext (Ext.trans E_t E_k)) 7 _ rfl) ?_
    refine op_pure (pv_len rfl rfl) ?_
    refine op_pure (pv_move (v := .int .i64 _) rfl) ?_
    refine xp_block ?_
    refine xp_loopL [9, 38, 39, 40, 41, 42, 43, 44, 45, 46, 47, 48, 49, 50, 51, 52, 53, 54, 55, 56, 57, 58, 59, 60, 61, 62, 63, 64, 65, 66, 67] 3 (α := Nat) (fun i => [(38, .int .i64 i)]) (fun i L => L.set 2 (some (b5, .cells (tV (linkM a.on (m.links.take i) P)).toArray 129 (0, 0)))) (fun i h_i => i ≤ m.links.length) (fun i => m.links.length - i) (0) ⟨rfl, trivial⟩ (rfl) (Nat.zero_le _) ?_
    rintro i T3 h_i E_i J_i
    refine goes_norm [_, _, _] rfl ?_
    refine xp_seq ?_
    refine xp_region rfl ?_
    refine op_pure (pv_of (v := .bool _) rfl) ?_
    refine xp_seq ?_
    refine xp_cond rfl (fun hk => ?_) (fun hk => ?_)
    · skip
      have hkl : i < m.links.length := ltI hk
      obtain ⟨g, off, hA, hc⟩ := (RL.ext (Ext.trans (Ext.trans E_t E_k) E_i)).at (by omega) hkl
      obtain ⟨⟨f0, f1⟩, ⟨t0, t1⟩, g0, g1⟩ := F.link _ (List.getElem_mem hkl)
      obtain ⟨Z, hZ⟩ : ∃ Z, Z = linkM a.on (m.links.take i) P := ⟨_, rfl⟩
      have hZ6 : Z.length = 6 := by rw [hZ, link_len, hP6]
      have hT6 : (tV Z).length = 6 := by rw [List.length_map, hZ6]
      have hZB : Bd depth Z := by rw [hZ]; exact link_bd _ (fun l hl => F.lag l (take_mem hl)) hPB
      have z1 := hZB m.links[i].frm.toNat
      have z2 := hZB m.links[i].to.toNat
      have hNext := linkM_take (on := a.on) (t := P) hkl
      rw [← hZ] at hNext ⊢
      refine xp_skip ?_
      refine xp_seq ?_
      refine xp_block ?_
      refine xp_seq ?_
      refine xp_region rfl ?_
      refine op_pure (pv_indexE rfl hA rfl rfl rfl (by omega) (by omega)) ?_
      refine op_loadA rfl rfl rfl rfl (hc) ?_
      refine op_alloc (cs := [_, _, _, _]) rfl rfl fun b9 hb9 => ?_
      refine wp_norm [_, _, _, _] rfl ?_
      refine op_storeP 3 (v := .agg #[.int .i64 _, .int .i64 _, .int .i64 _, .int .i64 _]) (vs := [_, _, _, _]) (c' := [_, _, _, _]) rfl rfl rfl rfl rfl rfl rfl rfl rfl ?_
      refine wp_norm [_, _, _, _] rfl ?_
      refine xp_cutB [42, 43, 44, 45, 46, 47, 48, 49, 50, 51] 4 (α := Unit) (fun u => [(51, .bool (active a.on m.links[i]))]) (fun u L => L) (fun u h_u => True) ?_ ?_
      · skip
        rcases Bool.eq_false_or_eq_true (decide (m.links[i].reg < 0)) with hr | hr
        · skip
          refine xp_region rfl ?_
          refine op_pure (pv_fieldAddr rfl rfl rfl rfl 2 rfl) ?_
          refine op_loadP 3 (v := .int .i64 _) rfl rfl rfl rfl ?_
          refine op_pure (pv_of (v := .bool _) rfl) ?_
          refine op_pure (pv_move (v := .bool _) rfl) ?_
          refine guard_no rfl hr ?_
          refine guard_no rfl hr ?_
          refine guard_no rfl hr ?_
          refine guard_no rfl hr ?_
          refine guard_no rfl hr ?_
          refine op_pure (pv_pickT rfl hr (v := .bool _) rfl) ?_
          refine ⟨(), ⟨(by show Value.bool _ = _; unfold active; rw [hr]; rfl), trivial⟩, rfl, rfl, (Ext.refl _), fun h3 E3 => by first | trivial | omega | (refine ⟨?_, ?_⟩ <;> omega), ?_⟩
          repeat (first | exact off_refl _ _ | exact off_base _ _ _ | refine off_upd (by decide) ?_ | refine off_updL rfl ?_ | refine off_mix rfl ?_)
        · skip
          refine xp_region rfl ?_
          refine op_pure (pv_fieldAddr rfl rfl rfl rfl 2 rfl) ?_
          refine op_loadP 3 (v := .int .i64 _) rfl rfl rfl rfl ?_
          refine op_pure (pv_of (v := .bool _) rfl) ?_
          refine op_pure (pv_move (v := .bool _) rfl) ?_
          refine guard_yes rfl hr ?_
          refine op_pure (pv_fieldAddr rfl rfl rfl rfl _ rfl) ?_
          refine guard_yes rfl hr ?_
          refine op_load (v := .slice OA _ _) rfl rfl ((eH.ext (Ext.trans (Ext.trans E_t E_k) E_i)) 1 _ rfl) ?_
          refine guard_yes rfl hr ?_
          refine op_pure (pv_fieldAddr rfl rfl rfl rfl 2 rfl) ?_
          refine guard_yes rfl hr ?_
          refine op_loadP 3 (v := .int .i64 _) rfl rfl rfl rfl ?_
          refine guard_yes rfl hr ?_
          refine op_fn (caps := []) (vs := [.slice _ _ _, .int .i64 _]) rfl rfl rfl (contains_ok a.on m.links[i].reg OA cO h_i (RO.ext (Ext.trans (Ext.trans E_t E_k) E_i)) (by omega)) ?_
          rintro _ h1 E1 rfl
          refine op_pure (pv_pickF rfl hr (v := .bool _) rfl) ?_
          refine ⟨(), ⟨(by show Value.bool _ = _; unfold active; rw [hr]; simp), trivial⟩, rfl, rfl, E1, fun h3 E3 => by first | trivial | omega | (refine ⟨?_, ?_⟩ <;> omega), ?_⟩
          repeat (first | exact off_refl _ _ | exact off_base _ _ _ | refine off_upd (by decide) ?_ | refine off_updL rfl ?_ | refine off_mix rfl ?_)
      · rintro u T4 h_u E_u J_u
        refine goes_norm [_, _, _, _] rfl ?_
        refine xp_cond rfl (fun hact => ?_) (fun hact => ?_)
        · skip
          rw [if_pos hact] at hNext
          refine xp_dw [] rfl rfl rfl ?_
          refine dw_pure (i := 0) rfl (by decide +kernel) (pv_fieldAddr rfl rfl rfl rfl 1 rfl) ?_
          refine dw_load (i := 1) rfl (by decide +kernel) ?_
          refine op_loadP 3 (v := .int .i64 _) rfl rfl rfl rfl ?_
          refine dw_pure (i := 2) rfl (by decide +kernel) (pv_fieldAddr rfl rfl rfl rfl 1 rfl) ?_
          refine dw_load (i := 3) rfl (by decide +kernel) ?_
          refine op_loadP 3 (v := .int .i64 _) rfl rfl rfl rfl ?_
          refine dw_pure (i := 4) rfl (by decide +kernel) (pv_indexA (m := 1) rfl rfl rfl rfl (by omega) (by omega)) ?_
          refine dw_load (i := 5) rfl (by decide +kernel) ?_
          refine op_loadP 2 (v := .int .i64 (Z.getD m.links[i].to.toNat 0)) rfl rfl rfl (tV_at (by omega) (by omega)) ?_
          refine dw_pure (i := 6) rfl (by decide +kernel) (pv_fieldAddr rfl rfl rfl rfl 0 rfl) ?_
          refine dw_load (i := 7) rfl (by decide +kernel) ?_
          refine op_loadP 3 (v := .int .i64 _) rfl rfl rfl rfl ?_
          refine dw_pure (i := 8) rfl (by decide +kernel) (pv_indexA (m := 1) rfl rfl rfl rfl (by omega) (by omega)) ?_
          refine dw_load (i := 9) rfl (by decide +kernel) ?_
          refine op_loadP 2 (v := .int .i64 (Z.getD m.links[i].frm.toNat 0)) rfl rfl rfl (tV_at (by omega) (by omega)) ?_
          refine dw_pure (i := 10) rfl (by decide +kernel) (pv_fieldAddr rfl rfl rfl rfl 3 rfl) ?_
          refine dw_load (i := 11) rfl (by decide +kernel) ?_
          refine op_loadP 3 (v := .int .i64 _) rfl rfl rfl rfl ?_
          refine dw_pure (i := 12) rfl (by decide +kernel) (pv_arith rfl (by omega)) ?_
          refine dw_pure (i := 13) rfl (by decide +kernel) (pv_max rfl rfl) ?_
          refine dw_pure (i := 14) rfl (by decide +kernel) (pv_indexA (m := 1) rfl rfl rfl rfl (by omega) (by omega)) ?_
          refine dw_last (i := 15) rfl (by decide +kernel) (by decide +kernel) ?_
          refine op_storeP 2 (m := 1) (v := .int .i64 _) (vs := [.int .i64 (max (Z.getD m.links[i].to.toNat 0) (Z.getD m.links[i].frm.toNat 0 - m.links[i].lag))]) (c' := tV (linkM a.on (m.links.take (i + 1)) P)) rfl rfl rfl rfl rfl rfl (Nat.ble_eq_true_of_le (by rw [hT6]; omega)) rfl (by rw [hNext]; exact wrL_rise (by omega) rfl) ?_
          refine dw_norm [_, _, _, _] rfl ?_
          refine dw_end rfl ?_
          refine xp_region rfl ?_
          refine op_pure (pv_arith rfl (by omega)) ?_
          refine op_pure (pv_move (v := .int .i64 _) rfl) ?_
          refine ⟨i + 1, ⟨rfl, trivial⟩, rfl, rfl, (Ext.trans E_i E_u), fun h3 E3 => hkl, by first | omega | (dsimp only; omega), ?_⟩
          repeat (first | exact off_base _ _ _ | refine off_upd (by decide) ?_ | refine off_updL rfl ?_ | refine off_mix rfl ?_)
        · skip
          rw [if_neg (by rw [hact]; decide)] at hNext
          refine xp_skip ?_
          refine xp_region rfl ?_
          refine op_pure (pv_arith rfl (by omega)) ?_
          refine op_pure (pv_move (v := .int .i64 _) rfl) ?_
          refine ⟨i + 1, ⟨rfl, trivial⟩, rfl, by rw [hNext]; rfl, (Ext.trans E_i E_u), fun h3 E3 => hkl, by first | omega | (dsimp only; omega), ?_⟩
          repeat (first | exact off_base _ _ _ | refine off_upd (by decide) ?_ | refine off_updL rfl ?_ | refine off_mix rfl ?_)
    · skip
      have hke : i = m.links.length := by have := geI hk; omega
      subst hke
      rw [List.take_length, ← hSt]
      obtain ⟨Z, hZ⟩ : ∃ Z, Z = stepM m a depth t := ⟨_, rfl⟩
      rw [← hZ]
      have hZ6 : Z.length = 6 := by rw [hZ, step_len, J1]
      have hT6 : (tV Z).length = 6 := by rw [List.length_map, hZ6]
      obtain ⟨zle, zbd⟩ := stepM_ok (h := a) F.lag J2
      rw [← hZ] at zle zbd hs
      refine xp_exit ?_
      refine xp_seq ?_
      refine xp_seq ?_
      refine xp_region rfl ?_
      refine op_loadPA 2 (m := 6) (vs := tV Z) rfl rfl rfl rfl (rd_all hT6) ?_
      refine op_loadPA 1 (m := 6) (vs := tV t) rfl rfl rfl rfl (rd_all (by simp [J1])) ?_
      refine op_pure (pv_eqA rfl rfl rfl (turnsEq hZ6 J1)) ?_
      refine xp_cond rfl (fun heq => ?_) (fun heq => ?_)
      · skip
        have heq : Z = t := of_decide_eq_true heq
        rw [if_pos heq] at hs
        rw [hs]
        refine xp_ret ?_
        refine ⟨rfl, fun V => ?_⟩
        obtain ⟨h', e1, e2, e3⟩ := wl_drop [_, _] [_] V
        exact ⟨h', e2, e3, ((Ext.trans (Ext.trans E_t E_k) E_i)).trans e1⟩
      · skip
        have hne : Z ≠ t := of_decide_eq_false heq
        rw [if_neg hne] at hs
        have hlt := room_lt (D := depth) zle.1 (fun j _ => ⟨zle.2 j, (zbd j).2⟩) hne
        rw [hs]
        refine xp_skip ?_
        refine xp_seq ?_
        refine xp_regionD rfl rfl ?_
        refine op_load (v := .chan (some c)) rfl rfl ((Ext.trans (Ext.trans E_t E_k) E_i).cell cC) ?_
        refine op_loadPA 2 (m := 6) (vs := tV Z) rfl rfl rfl rfl (rd_all hT6) ?_
        refine goes_send (j := 0) (v := turnsV Z) (vs := (sendsM m a depth N Z).map turnsV) rfl rfl rfl rfl rfl rfl rfl ?_
        refine goes_end ?_
        refine goes_norm [_, _, _] rfl ?_
        refine xp_region rfl ?_
        refine op_loadPA 2 (m := 6) (vs := tV Z) rfl rfl rfl rfl (rd_all hT6) ?_
        refine op_storeP 1 (m := 6) (v := .agg (tV Z).toArray) (vs := tV Z) (c' := tV Z) rfl rfl rfl rfl rfl hT6 (Nat.ble_eq_true_of_le (by rw [List.length_map]; omega)) (by simp [plainB]) (wrL_all (by simp [J1, hZ6])) ?_
        refine wp_norm [_, _, _] rfl ?_
        refine ⟨Z, trivial, rfl, rfl, (Ext.trans (Ext.trans E_t E_k) E_i), fun h3 E3 => ⟨hZ6, zbd, by omega⟩, by first | omega | (dsimp only; omega), ?_⟩
        repeat (first | exact off_base _ _ _ | refine off_upd (by decide) ?_ | refine off_updL rfl ?_ | refine off_mix rfl ?_)
end Go.Proofs.Ytlfbcimcehcomaa
/- The own logic, part GJ: pieces around a go statement. Conditions: none. -/
namespace Go.HL
open Go Go.Conc
variable [Lvl]
section
variable {P : Program} {n : Nat} {ro : Option Nat} {K : Post} {S : Sl} {D : Df} {L : Pv} {h : AH}
theorem goes_valid {items : List Item} (g : Valid h L → Goes P n ro items K S D L h) : Goes P n ro items K S D L h := fun H V => g V.valid H V
theorem xp_regionL {id : Nat} {ops : Array Oper} (g : Goes P n ro [.inRegion ops (List.range ops.size)] K S D L h) : xp P n ro (.region id ops false) K S D L h := goes_regionB (items := []) g
theorem goes_endB {ops : Array Oper} {items : List Item} (g : Goes P n ro items K S D L h) : Goes P n ro ([.inRegion ops []] ++ items) K S D L h :=
  goes_step (items' := items) (fun b hb k cs main w => by simp [stepG, stepG.exec, mk]) g
/-- A pure operation, where the rest of the region is by hand. -/
theorem goes_pv {ops : Array Oper} {i : Nat} {rest : List Nat} {d : Option Tmp} {op : Op} {ty : TypeId} {ps : String} {af : Array Edge} {v : Value} {items : List Item} (ho : ops[i]? = some ⟨d, op, ty, ps, af, none⟩) (hc : Op.calm op)
    (hv : pev P (execOp (ev n S) ⟨d, op, ty, ps, af, none⟩) = some (.value v)) (g : Goes P n ro ([.inRegion ops rest] ++ items) K (put S d v) D L h) : Goes P n ro ([.inRegion ops (i :: rest)] ++ items) K S D L h :=
  goes_opB ho hc (by simp [Region.wanted]) (fun V => dem_pev hv ⟨L, h, rfl, V, g⟩)
end
/-- The last private block taken off. -/
theorem wl_last {h : AH} {L : Pv} {b : Nat} {o : Obj} (V : Valid h (L ++ [some (b, o)])) : Valid h L ∧ wl h L b = none ∧ wl h (L ++ [some (b, o)]) = hupd (wl h L) b o := by
  have V0 := V
  unfold Valid at V0
  rw [cl_append] at V0
  have e1 : cl [some (b, o)] = [(b, o)] := rfl
  rw [e1] at V0
  have nd := V0.nd
  rw [List.map_append, List.nodup_append] at nd
  have hb : wl h L b = none := by
    have hn : (cl L).lookup b = none := by
      rw [lookup_none_iff]
      intro p hp e
      exact nd.2.2 _ (List.mem_map.2 ⟨p, hp, rfl⟩) b (by simp) e
    have hf := V0.fresh (b, o) (by simp)
    unfold wl wl0
    rw [hn]
    exact hf
  exact ⟨⟨nd.1, fun p hp => V0.fresh p (List.mem_append_left _ hp), V0.fin⟩, hb, (wl_new hb o).symm⟩
theorem hupd_none {X : AH} {b c : Nat} {o : Obj} (h : hupd X b o c = none) : c ≠ b ∧ X c = none := by
  by_cases e : c = b
  · subst e; simp [hupd] at h
  · exact ⟨e, by simpa [hupd, e] using h⟩
/-- The last three private blocks told apart. -/
theorem wl_split3 {h : AH} {M : Pv} {b6 c b7 : Nat} {o6 oc o7 : Obj} (V : Valid h (M ++ [some (b6, o6), some (c, oc), some (b7, o7)])) :
    ∃ hw, hw = wl h M ∧ Valid h M ∧ hw b6 = none ∧ hw c = none ∧ hw b7 = none ∧ b6 ≠ c ∧ b6 ≠ b7 ∧ c ≠ b7 ∧ wl h (M ++ [some (b6, o6), some (c, oc), some (b7, o7)]) = hun (oneC b6 o6) (hun hw (hun (oneC b7 o7) (oneC c oc))) := by
  have e0 : M ++ [some (b6, o6), some (c, oc), some (b7, o7)] = ((M ++ [some (b6, o6)]) ++ [some (c, oc)]) ++ [some (b7, o7)] := by simp
  rw [e0] at V ⊢
  obtain ⟨V1, n7, e7⟩ := wl_last V
  obtain ⟨V2, nc, ec⟩ := wl_last V1
  obtain ⟨V3, n6, e6⟩ := wl_last V2
  rw [ec] at n7
  obtain ⟨h7c, n7⟩ := hupd_none n7
  rw [e6] at n7 nc
  obtain ⟨h76, n7⟩ := hupd_none n7
  obtain ⟨hc6, nc⟩ := hupd_none nc
  refine ⟨_, rfl, V3, n6, nc, n7, fun e => hc6 e.symm, fun e => h76 e.symm, fun e => h7c e.symm, ?_⟩
  rw [e7, ec, e6]
  funext x
  by_cases x6 : x = b6
  · subst x6
    simp [hupd, hun, oneC_same, Ne.symm h76, Ne.symm hc6]
  by_cases x7 : x = b7
  · subst x7
    simp [hupd, hun, oneC_same, oneC_ne x6, n7]
  by_cases xc : x = c
  · subst xc
    simp [hupd, hun, oneC_same, oneC_ne x6, oneC_ne x7, nc, x6, x7]
  simp only [hupd, hun, oneC_ne x6, oneC_ne x7, oneC_ne xc, if_neg x6, if_neg x7, if_neg xc]
  cases wl h M x <;> rfl
/-- What goroutine 0 has at the end, beside what was lent. -/
theorem main_end {R h' : AH} {L' : Pv} {c j : Nat} (V : Valid h' L') (hj : L'[j]? = some (some (c, gone))) (E : Ext (zf R) h') (hRc : R c = none) :
    ∃ hm', wl h' L' = hun hm' (zx R c) ∧ hm' c = none ∧ Disj hm' R ∧ ∀ b o, wl h' L' b = some o → b ≠ c → R b = none → hm' b = some o := by
  refine ⟨fun b => if b = c then none else match R b with | some _ => none | none => wl h' L' b, ?_, by simp, fun b => ?_, fun b o hb hc hR => by simp [hc, hR, hb]⟩
  · funext b
    by_cases hb : b = c
    · subst hb
      simp [hun, zx, oneC_same, wl_get V hj]
    · cases hR : R b with
      | none =>
        have : zf R b = none := zf_none.2 hR
        simp only [hun, if_neg hb, hR, zx, oneC_ne hb, this]
        cases wl h' L' b <;> rfl
      | some o =>
        have e1 : zf R b = some (zO o) := by simp [zf, hR]
        have e2 := ext_wl V b _ (E b _ e1)
        simp only [hun, if_neg hb, hR, zx, oneC_ne hb, e1, e2]
  · cases hR : R b with
    | none => exact .inr rfl
    | some o => left; simp [hR]
/-- A return whose result stands in the public heap. -/
theorem ret_pub {P : Program} {n : Nat} {fn : Func} {S : Sl} {K : Value → AH → Prop} {rs : List ResultVar} {vs : List Value} {H : AH} {b : Nat} {o : Obj} (hb : H b = some o) (hr : fn.results = rs.toArray) (hv : ∀ h2, ResL P n S [some (b, o)] h2 rs vs) (k : K (tupV vs) H) : RetOK P n fn K S [] [] H := by
  intro V
  refine .inl ⟨rfl, ?_⟩
  have e : wl (fun x => if x = b then none else H x) [some (b, o)] = H := by
    have := wl_new (h := fun x => if x = b then none else H x) (L := []) (b := b) (by rw [wl_nil]; simp) o
    rw [wl_nil, List.nil_append] at this
    rw [← this]
    funext x
    by_cases hx : x = b
    · subst hx; simp [hupd, hb]
    · simp [hupd, hx]
  have V2 : Valid (fun x => if x = b then none else H x) [some (b, o)] := by
    have f : Fin (fun x => if x = b then none else H x) := by
      obtain ⟨N, hN⟩ := V.fin
      exact ⟨N, fun x hx => by simp only [hN x hx]; split <;> rfl⟩
    exact valid_new (L := []) (valid_nil f) (by rw [wl_nil]; simp) o
  have r := res_core (K := K) hr (hv H) V2 (by rw [e]; exact k)
  rw [e] at r
  rw [wl_nil]
  exact r
/-- The worker closes, and leaves. -/
theorem wend_close {P : Program} {f : FuncId} {fn : Func} {n c : Nat} {ats : Array TypeId} {ty : TypeId} {hw0 : AH} {tm : Bool} (hf : P.funcs[f]? = some fn) (hres : fn.results = #[]) :
    ∀ fr hw', WEnd f n c ats ty hw0 fr hw' → mayWake P (G fr [baseG P []]) = true ∧ ∃ (g2 : Goroutine) (es : Array Event) (k : Nat), (∀ (w : World) s r, w.heap[c]? = some (.chan 0 #[] false s r tm) → stepG P false (G fr [baseG P []]) w = .go g2 (w.shut c s r tm) (es.push ⟨.obj c, true, true⟩)) ∧ (∀ e ∈ es, e = ⟨.obj c, false, true⟩) ∧ QuitsD P k 0 g2 := by
  rintro fr hw' ⟨_, S, todo, rfl⟩
  exact ⟨wakes, _, _, _, fun w s r hc => step_close hc, by simp, quits hf hres rfl rfl⟩
theorem cellsB {H : AH} {b : Nat} {cs : List Value} {e : TypeId} {f : Nat × Nat} (hb : H b = some (.cells cs.toArray e f)) : Cells H b 0 cs := by
  intro j u hu
  simp only [cellA, hb, Nat.zero_add]
  simpa using hu
theorem fin_one (c : Nat) (o : Obj) : Fin (oneC c o) := Fin.hupd ⟨0, fun _ _ => rfl⟩ _ _
theorem fin_zf {R : AH} (f : Fin R) : Fin (zf R) := f.imp fun _ hN y hy => zf_none.2 (hN y hy)
theorem disj_out {h : AH} {b : Nat} {o : Obj} (hb : h b = none) : Disj h (oneC b o) := fun x => by
  by_cases e : x = b
  · subst e; exact .inl hb
  · exact .inr (oneC_ne e)
theorem ext_hun {h F : AH} : Ext h (hun h F) := fun _ _ e => hun_left e
/-- Goroutine 0's two private places. -/
theorem duo_priv {R : AH} {b6 c : Nat} {o6 g : Obj} (f : Fin R) (h6 : R b6 = none) (hc : R c = none) (hne : b6 ≠ c) :
    Valid (zf R) [some (b6, o6), some (c, g)] ∧ wl (zf R) [some (b6, o6), some (c, g)] = hun (oneC b6 o6) (hun (oneC c g) (zf R)) := by
  have z6 : zf R b6 = none := zf_none.2 h6
  have zc : zf R c = none := zf_none.2 hc
  have n1 : wl (zf R) [] b6 = none := by rw [wl_nil]; exact z6
  have V1 := valid_new (L := []) (valid_nil (fin_zf f)) n1 o6
  have e1 := wl_new n1 o6
  have n2 : wl (zf R) ([] ++ [some (b6, o6)]) c = none := by rw [← e1, wl_nil]; simp [hupd, Ne.symm hne, zc]
  refine ⟨valid_new V1 n2 g, ?_⟩
  have e2 := wl_new n2 g
  rw [← e1, wl_nil] at e2
  have e3 : wl (zf R) [some (b6, o6), some (c, g)] = hupd (hupd (zf R) b6 o6) c g := e2.symm
  rw [e3]
  funext x
  by_cases x6 : x = b6
  · subst x6; simp [hupd, hun, oneC_same, hne]
  by_cases xc : x = c
  · subst xc; simp [hupd, hun, oneC_same, oneC_ne x6]
  simp [hupd, hun, oneC_ne x6, oneC_ne xc, x6, xc]
section
variable {P : Program} {n : Nat} {ops : Array Oper} {os : List Oper} {K : Sl → Pv → AH → Prop} {E : Value → Sl → Pv → AH → Prop} {S : Sl} {L : Pv} {h : AH} {d : Option Tmp} {op : Op} {ty : TypeId} {ps : String} {af : Array Edge}
/-- A guard, both ways. -/
theorem guard_case {j : Nat} {want t : Bool} (ht : ev n S (.tmp (((ops[j]?).bind (·.dst)).getD n)) = .bool t) (k1 : t = want → wpL P n ops (⟨d, op, ty, ps, af, none⟩ :: os) K E S L h) (k2 : t = !want → wpL P n ops os K E (put S d undef) L h) : wpL P n ops (⟨d, op, ty, ps, af, some (j, want)⟩ :: os) K E S L h := by
  by_cases e : t = want
  · exact guard_yes ht e (k1 e)
  · have e2 : t = !want := by cases t <;> cases want <;> simp_all
    exact guard_no ht e2 (k2 e2)
end
section
variable {P : Program} {n : Nat} {ops : Array Oper} {os : List Oper} {K : Sl → Pv → AH → Prop} {E : Value → Sl → Pv → AH → Prop} {S : Sl} {L : Pv} {h : AH} {d : Option Tmp} {ty : TypeId} {ps : String} {af : Array Edge}
end
end Go.HL
/- Walks of package rod: how far the rods turn. Conditions: as each theorem states. -/
namespace Go.Proofs.Ytlfbcimcehcomaa
open Go Go.HL Go.Proofs Go.Wx Go.Rd Go.Conc
set_option maxRecDepth 100000
theorem turned_ok [Lvl] (hph : Lvl.ph = true) {m : MachP} {a : HandP} {depth : Int} (F : Fit m a) (hd0 : 0 ≤ depth) (hd1 : depth ≤ 12) {AB AQ AL AW HA OA : Option Addr} {cB cQ cL cW cH cO : Nat} (h : AH)
    (RH : HandR h HA OA a) (RM : MachR h AB AQ AL AW m) :
    FnT Try.prog 61 #[machV AB AQ AL AW cB cQ cL cW m, handV HA OA cH cO a, .int .i64 depth] h (fun v _ => v = turnsV (turnedM m a depth)) := by
  refine call_body Try.func61 rfl Try.ntmps61 rfl ?_
  refine xp_seq ?_
  refine xp_region rfl ?_
  refine op_box (v := .agg #[.int .i64 _, .int .i64 _, .int .i64 _, .int .i64 _, .int .i64 _, .slice _ _ _, .slice _ _ _, .slice _ _ _, .slice _ _ _]) (cs := [_, _, _, _, _, _, _, _, _]) rfl rfl fun b3 hb3 => ?_
  refine wp_norm [_] rfl ?_
  refine op_box (v := .agg #[.slice _ _ _, .slice _ _ _]) (cs := [_, _]) rfl rfl fun b4 hb4 => ?_
  refine wp_norm [_, _] rfl ?_
  refine op_box (v := .int .i64 _) (cs := [_]) rfl rfl fun b5 hb5 => ?_
  refine wp_norm [_, _, _] rfl ?_
  refine op_alloc (cs := [_, _, _, _, _, _]) rfl rfl fun b6 hb6 => ?_
  refine wp_norm [_, _, _, _] rfl ?_
  refine xp_seq ?_
  refine xp_region rfl ?_
  refine op_makeChan rfl rfl rfl fun c hc => ?_
  refine op_alloc (cs := [_]) rfl rfl fun b7 hb7 => ?_
  refine wp_norm [_, _, _, _, _, _] rfl ?_
  refine op_storeP 5 (v := .chan _) (vs := [_]) (c' := [_]) rfl rfl rfl rfl rfl rfl rfl rfl rfl ?_
  refine wp_norm [_, _, _, _, _, _] rfl ?_
  refine xp_seqB ?_
  refine goes_regionB ?_
  refine goes_pv (i := 0) (rest := [1]) rfl trivial (pv_makeFunc (vs := []) (ws := [.pointer _, .pointer _, .pointer _, .pointer _]) rfl rfl) ?_
  refine goes_valid fun V => ?_
  obtain ⟨hw, hhw, Vw, n6, nc, n7, h6c, h67, hc7, esp⟩ := wl_split3 (M := [_, _, _]) V
  have g3 := wl_get Vw (i := 0) rfl
  have g4 := wl_get Vw (i := 1) rfl
  have g5 := wl_get Vw (i := 2) rfl
  have Ew := ext_wl Vw
  rw [← hhw] at g3 g4 g5 Ew
  have fw : Fin hw := by rw [hhw]; exact fin_wl Vw
  clear hhw
  obtain ⟨R, hR⟩ : ∃ R, R = oneC b7 (.cells #[.chan (some c)] 172 (0, 0)) := ⟨_, rfl⟩
  have fR : Fin R := by rw [hR]; exact fin_one _ _
  have R6 : R b6 = none := by rw [hR]; exact oneC_ne h67
  have Rc : R c = none := by rw [hR]; exact oneC_ne hc7
  have R7 : R b7 = some (.cells #[.chan (some c)] 172 (0, 0)) := by rw [hR]; exact oneC_same _ _
  have rows : OnlyRows R := fun b o hb => by
    rw [hR] at hb
    by_cases e : b = b7
    · subst e; rw [oneC_same] at hb; cases hb; exact ⟨_, _, _, rfl⟩
    · rw [oneC_ne e] at hb; cases hb
  have dwR : Disj hw R := by rw [hR]; exact disj_out n7
  obtain ⟨V1, e1⟩ := duo_priv (R := R) (o6 := .cells (tV zero6).toArray 129 (0, 0)) (g := gch ((sendsM m a depth (fuelM depth) zero6).map turnsV)) fR R6 Rc h6c
  have z7 : zf R b7 = some (.cells #[.chan (some c)] 172 (0, 2)) := by simp only [zf, R7]; rfl
  have Ez : Ext h (hun hw (zf R)) := Ew.trans ext_hun
  have rW := turned1_ok (c := c) (bC := b7) (bD := b5) (bH := b4) (bM := b3) (fC := (0, 2)) (N := fuelM depth) (cL := cL) (Q := .slice AQ m.pins.length cQ) (W := .slice AW m.weights.length cW) F hd0 hd1 zero_room (fin_hun fw (fin_zf fR)) dwR nc Rc (by simp only [hun, n7]; exact z7) (ext_hun _ _ g5) (cellsB (ext_hun _ _ g4)) (cellsB (ext_hun _ _ g3)) (RH.b.ext Ez) (RH.o.ext Ez) (RM.b.ext Ez) (RM.l.ext Ez)
  refine goes_phase (hm := oneC b6 (.cells (tV zero6).toArray 129 (0, 0))) (K1 := fun e S' hm' => e = .ret ∧ S' 6 = .pointer (some ⟨b6, 0, none⟩) ∧ hm' b6 = some (.cells (tV (turnedM m a depth)).toArray 129 (0, 0))) hph rfl rfl rfl rfl rows (disj_out n6).symm (disj_out R6).symm dwR (oneC_ne h6c.symm) nc Rc (fun _ => by rw [hR]; exact esp) V1 e1 ?gm (wend_close rfl rfl) rW ?join
  case join =>
    rintro e S' hm' fr' hw' s r ⟨rfl, k2, k3⟩ ⟨EW, _⟩ d1 d2 d3 n1 n2
    refine ret_pub (b := b6) (vs := [turnsV (turnedM m a depth)]) (hun_left k3) Try.results61 (fun h2 => ⟨resV_agg 0 (m := 6) (vs := tV (turnedM m a depth)) rfl k2 rfl rfl rfl (rd_all (by rw [List.length_map, turned_len])), trivial⟩) ⟨fun b o hb => ?_, rfl⟩
    have e2 := EW b o (Ew b o hb)
    have e3 : hm' b = none := (d1 b).resolve_right (by rw [e2]; simp)
    simp only [hun, e3, e2]
  case gm =>
    have c7 : cellA (zf R) ⟨b7, 0, none⟩ = some (.chan (some c)) := by simp only [cellA, z7]; rfl
    letI : Lvl := ⟨false, none, some c⟩
    refine goes_endB ?_
    refine xp_seq ?_
    refine xp_region rfl ?_
    refine op_alloc (cs := [_, _, _, _, _, _]) rfl rfl fun b8 hb8 => ?_
    refine wp_norm [_, _, _] rfl ?_
    refine xp_seq ?_
    refine xp_seq ?_
    refine xp_region rfl ?_
    refine op_load (v := .chan (some c)) rfl rfl ((Ext.refl _).cell c7) ?_
    refine xp_block ?_
    refine xp_loopL [9, 13, 14, 15, 16] 3 (α := List (List Int) × List Int) (fun ⟨us, cur⟩ => []) (fun ⟨us, cur⟩ L => (L.set 1 (some (c, gch (us.map turnsV)))).set 2 (some (b8, .cells (tV cur).toArray 129 (0, 0)))) (fun ⟨us, cur⟩ h_us => us.getLastD cur = turnedM m a depth ∧ cur.length = 6 ∧ ∀ u ∈ us, u.length = 6) (fun ⟨us, cur⟩ => us.length) ((sendsM m a depth (fuelM depth) zero6, zero6)) trivial (rfl) (⟨rfl, rfl, sends_len _ _ rfl⟩) ?_
    rintro ⟨us, cur⟩ T1 h_us E_us J_us
    refine goes_norm [_, _, _] rfl ?_
    obtain ⟨J1, J2, J3⟩ := J_us
    have hT6 : (tV cur).length = 6 := by rw [List.length_map, J2]
    rcases us with _ | ⟨u, us⟩
    · skip
      refine xp_seq ?_
      refine xp_regionL ?_
      refine goes_last (i := 0) (rest := [1]) (j := 1) rfl rfl rfl rfl rfl rfl rfl rfl ?_
      refine goes_pv (items := []) (i := 1) (rest := []) rfl trivial (pv_of (v := .bool false) rfl) ?_
      refine goes_end ?_
      refine goes_norm [_, _, _] rfl ?_
      refine xp_seq ?_
      refine xp_condF rfl (rfl) ?_
      refine xp_exit ?_
      refine xp_seq ?_
      refine xp_region rfl ?_
      refine op_loadPA 2 (m := 6) (vs := tV cur) rfl rfl rfl rfl (rd_all hT6) ?_
      refine op_storeP 0 (m := 6) (v := .agg (tV cur).toArray) (vs := tV cur) (c' := tV cur) rfl rfl rfl rfl rfl hT6 rfl (by simp [plainB]) (wrL_all hT6.symm) ?_
      refine wp_norm [_, _, _] rfl ?_
      refine xp_ret ?_
      refine ⟨rfl, fun V2 => ?_⟩
      obtain ⟨hm', k1, k2, k3, k4⟩ := main_end V2 (j := 1) rfl E_us Rc
      refine ⟨hm', k1, k2, k3, rfl, rfl, ?_⟩
      rw [show turnedM m a depth = cur from J1.symm]
      exact k4 _ _ (wl_get V2 (i := 0) rfl) h6c R6
    · skip
      rw [List.getLastD_cons] at J1
      have hlt : us.length < (u :: us).length := by simp
      have hu6 := J3 u (List.mem_cons_self ..)
      have hU6 : (tV u).length = 6 := by rw [List.length_map, hu6]
      refine xp_seq ?_
      refine xp_regionL ?_
      refine goes_recv (i := 0) (rest := [1]) (j := 1) (v := turnsV u) (vs := us.map turnsV) rfl rfl rfl rfl rfl rfl rfl rfl ?_
      refine goes_pv (items := []) (i := 1) (rest := []) rfl trivial (pv_of (v := .bool true) rfl) ?_
      refine goes_end ?_
      refine goes_norm [_, _, _] rfl ?_
      refine xp_seq ?_
      refine xp_condT rfl (rfl) ?_
      refine xp_skip ?_
      refine xp_block ?_
      refine xp_seq ?_
      refine xp_region rfl ?_
      refine op_pure (pv_of (v := turnsV u) rfl) ?_
      refine op_alloc (cs := [_, _, _, _, _, _]) rfl rfl fun b9 hb9 => ?_
      refine wp_norm [_, _, _, _] rfl ?_
      refine op_storeP 3 (m := 6) (v := .agg (tV u).toArray) (vs := tV u) (c' := tV u) rfl rfl rfl rfl rfl hU6 rfl (by simp [plainB]) (wrL_all hU6.symm) ?_
      refine wp_norm [_, _, _, _] rfl ?_
      refine xp_region rfl ?_
      refine op_loadPA 3 (m := 6) (vs := tV u) rfl rfl rfl rfl (rd_all hU6) ?_
      refine op_storeP 2 (m := 6) (v := .agg (tV u).toArray) (vs := tV u) (c' := tV u) rfl rfl rfl rfl rfl hU6 (Nat.ble_eq_true_of_le (by omega)) (by simp [plainB]) (wrL_all (hT6.trans hU6.symm)) ?_
      refine wp_norm [_, _, _, _] rfl ?_
      refine ⟨(us, u), trivial, rfl, rfl, E_us, fun h3 E3 => ⟨J1, hu6, fun x hx => J3 x (List.mem_cons_of_mem _ hx)⟩, by first | omega | (dsimp only; omega), ?_⟩
      repeat (first | exact off_base _ _ _ | refine off_upd (by decide) ?_ | refine off_updL rfl ?_ | refine off_mix rfl ?_)
end Go.Proofs.Ytlfbcimcehcomaa
/- Walks of package rod: the checks. Conditions: as each theorem states. -/
namespace Go.Proofs.Ytlfbcimcehcomaa
open Go Go.HL Go.Proofs Go.Wx Go.Rd
variable [Lvl]
set_option maxRecDepth 100000
theorem intE {k : IntKind} {a b : Int} (e : a = b) : Value.int k a = Value.int k b := by rw [e]
theorem boolE {a b : Bool} (e : a = b) : Value.bool a = Value.bool b := by rw [e]
theorem within_ok (n lo hi : Int) (h : AH) : FnT Try.prog 69 #[.int .i64 n, .int .i64 lo, .int .i64 hi] h (fun v _ => v = .bool (inM n lo hi)) := by
  refine call_body Try.func69 rfl Try.ntmps69 rfl ?_
  refine xp_seq ?_
  refine xp_region rfl ?_
  refine op_pure (pv_assign (v := .bool _) rfl) ?_
  refine xp_seq ?_
  refine xp_region rfl ?_
  refine op_pure (pv_move (v := .int .i64 _) rfl) ?_
  refine op_pure (pv_move (v := .int .i64 _) rfl) ?_
  refine op_pure (pv_of (v := .bool _) rfl) ?_
  refine op_pure (pv_move (v := .bool _) rfl) ?_
  refine guard_case rfl (fun hg1 => ?_) (fun hg1 => ?_)
  · replace hg1 : _ = true := hg1
    refine op_pure (pv_move (v := .int .i64 _) rfl) ?_
    refine guard_yes rfl hg1 ?_
    refine op_pure (pv_move (v := .int .i64 _) rfl) ?_
    refine guard_yes rfl hg1 ?_
    refine op_pure (pv_of (v := .bool _) rfl) ?_
    refine op_pure (pv_pickT rfl hg1 (v := .bool _) rfl) ?_
    refine op_pure (pv_assign (v := .bool _) rfl) ?_
    refine xp_ret ?_
    refine res_list (vs := [_]) Try.results69 ⟨resV_tmp rfl rfl, trivial⟩ fun V => ?_
    exact ⟨(ext_wl V), boolE (by simp_all [inM] <;> omega)⟩
  · replace hg1 : _ = false := hg1
    refine guard_no rfl hg1 ?_
    refine guard_no rfl hg1 ?_
    refine op_pure (pv_pickF rfl hg1 (v := .bool _) rfl) ?_
    refine op_pure (pv_assign (v := .bool _) rfl) ?_
    refine xp_ret ?_
    refine res_list (vs := [_]) Try.results69 ⟨resV_tmp rfl rfl, trivial⟩ fun V => ?_
    exact ⟨(ext_wl V), boolE (by simp_all [inM] <;> omega)⟩
end Go.Proofs.Ytlfbcimcehcomaa
/- The own logic, part HB: a go statement in a callee that hands the channel to its caller: the rest of both is one phase. Conditions: none. -/
namespace Go.HL
open Go Go.Conc
variable [Lvl]
/-- What goes on from here comes to Q. -/
def GoQ (P : Program) (n : Nat) (Q : Frame → List Frame → AH → Prop) (b : Frame) (items : List Item) (cs : List Frame) (S : Sl) (L : Pv) (h : AH) : Prop :=
  ∀ H, Fits h L [] H → Rch P Q (mk b n S [] items) cs H
section
variable {P : Program} {n : Nat} {Q : Frame → List Frame → AH → Prop} {b : Frame} {cs : List Frame} {S : Sl} {L : Pv} {h : AH} {k : List Item}
theorem goq_valid {items : List Item} (g : Valid h L → GoQ P n Q b items cs S L h) : GoQ P n Q b items cs S L h := fun H V => g V.valid H V
theorem goq_norm {items : List Item} (L' : Pv) (hL : L = L') (g : GoQ P n Q b items cs S L' h) : GoQ P n Q b items cs S L h := by subst hL; exact g
theorem goq_seq {x y : Code} (g : GoQ P n Q b (.code x :: .code y :: k) cs S L h) : GoQ P n Q b (.code (.seq x y) :: k) cs S L h := fun H V =>
  .ctl (fr' := mk b n S [] (.code x :: .code y :: k)) (cs' := cs) (fun main w => by simp [stepG, stepG.exec, mk]) (g H V)
theorem goq_goes {items : List Item} (hb : b.roundOf = none) (g : Goes P n none items (fun e S' D' L' h' => e = .normal ∧ D' = [] ∧ GoQ P n Q b k cs S' L' h') S [] L h) : GoQ P n Q b (items ++ k) cs S L h := by
  intro H V
  refine (g H V b hb k cs).bind ?_
  rintro fr cs' H' ⟨rfl, e, S', D', L', h', V', ⟨rfl, rfl, g'⟩, a⟩
  have a' : fr = mk b n S' [] k := a
  subst a'
  exact g' H' V'
theorem goq_code {c : Code} (hb : b.roundOf = none) (x : xp P n none c (fun e S' D' L' h' => e = .normal ∧ D' = [] ∧ GoQ P n Q b k cs S' L' h') S [] L h) : GoQ P n Q b (.code c :: k) cs S L h := goq_goes (items := [.code c]) hb x
theorem goq_region {id : Nat} {ops : Array Oper} (g : GoQ P n Q b (.inRegion ops (List.range ops.size) :: k) cs S L h) : GoQ P n Q b (.code (.region id ops false) :: k) cs S L h := fun H V =>
  .ctl (fr' := mk b n S [] (.inRegion ops (List.range ops.size) :: k)) (cs' := cs) (fun main w => by simp [stepG, stepG.exec, mk]) (g H V)
theorem goq_end {ops : Array Oper} (g : GoQ P n Q b k cs S L h) : GoQ P n Q b (.inRegion ops [] :: k) cs S L h := fun H V =>
  .ctl (fr' := mk b n S [] k) (cs' := cs) (fun main w => by simp [stepG, stepG.exec, mk]) (g H V)
theorem goq_op {ops : Array Oper} {i : Nat} {rest : List Nat} {o : Oper} (ho : ops[i]? = some o) (hc : Op.calm o.op) (hw : Region.wanted o (yielded ops (arr n S)) = true)
    (r : opL P n o S L h (fun v L' h' => GoQ P n Q b (.inRegion ops rest :: k) cs (put S o.dst v) L' h') (fun _ _ _ => False)) : GoQ P n Q b (.inRegion ops (i :: rest) :: k) cs S L h := by
  intro H V
  refine (rch_op ho hc hw r V b k cs).bind ?_
  rintro fr cs' H' ⟨rfl, ⟨v, L', h', rfl, V', g⟩ | ⟨v, L', h', rfl, V', g⟩⟩
  · exact g H' V'
  · exact g.elim
theorem goq_pv {ops : Array Oper} {i : Nat} {rest : List Nat} {d : Option Tmp} {op : Op} {ty : TypeId} {ps : String} {af : Array Edge} {v : Value} (ho : ops[i]? = some ⟨d, op, ty, ps, af, none⟩) (hc : Op.calm op)
    (hv : pev P (execOp (ev n S) ⟨d, op, ty, ps, af, none⟩) = some (.value v)) (g : GoQ P n Q b (.inRegion ops rest :: k) cs (put S d v) L h) : GoQ P n Q b (.inRegion ops (i :: rest) :: k) cs S L h :=
  goq_op ho hc (by simp [Region.wanted]) (fun V => dem_pev hv ⟨L, h, rfl, V, g⟩)
/-- A region of two operations, of which the second is by hand. -/
theorem goq_region1 {id : Nat} {o0 o1 : Oper} (hc : Op.calm o0.op) (hg : o0.guard = none) (w : wpL P n #[o0, o1] [o0] (fun S' L' h' => GoQ P n Q b (.inRegion #[o0, o1] [1] :: k) cs S' L' h') (fun _ _ _ _ => False) S L h) :
    GoQ P n Q b (.code (.region id #[o0, o1] false) :: k) cs S L h := by
  refine goq_region ?_
  show GoQ P n Q b (.inRegion #[o0, o1] [0, 1] :: k) cs S L h
  unfold wpL at w
  rw [hg] at w
  refine goq_op (o := o0) rfl hc (by simp [Region.wanted, hg]) (fun V => opW_mono ?_ ?_ (w V))
  · rintro v H ⟨L', h', rfl, V', w'⟩; exact ⟨L', h', rfl, V', w'⟩
  · rintro v H ⟨L', h', rfl, V', w'⟩; exact ⟨L', h', rfl, V', w'⟩
/-- A call, and all that is behind it. -/
theorem goq_enter {ops : Array Oper} {i : Nat} {rest : List Nat} {d : Option Tmp} {ty : TypeId} {ps : String} {af : Array Edge} {x : Operand} {xs : List Operand} {ats : Array TypeId} {g : FuncId} {vs : List Value} {fn : Func} {c : Code} {n2 : Nat}
    (ho : ops[i]? = some ⟨d, .call ⟨.value x, xs.toArray, ats⟩, ty, ps, af, none⟩) (hf : ev n S x = .func (.func g) #[] ([] : List Value).toArray) (hc : callable P g = true) (hx : xs.map (ev n S) = vs)
    (hg : P.funcs[g]? = some fn) (hb : fn.body = some c) (hn : fn.ntmps = n2) (ha : Nat.ble vs.toArray.size n2 = true)
    (r : GoQ P n2 Q { (default : Frame) with fn := g, kind := .normal, roundOf := none } [.code c] (mk b n S [] (.inRegion ops (i :: rest) :: k) :: cs) (argS vs.toArray) L h) :
    GoQ P n Q b (.inRegion ops (i :: rest) :: k) cs S L h := by
  intro H V
  have r1 : dem P (execOp (ev n S) ⟨d, .call ⟨.value x, xs.toArray, ats⟩, ty, ps, af, none⟩) H (fun y H' => y = .enter g vs.toArray ∧ H' = H) noE := by
    have hx2 : xs.map (ev n S) ++ ([] : List Value) = vs := by rw [List.append_nil]; exact hx
    rw [exec_call (caps := []) (vs := vs) hf hx2]
    exact dem_callFunc hc ⟨rfl, rfl⟩
  refine .sem (execOp (ev n S) ⟨d, .call ⟨.value x, xs.toArray, ats⟩, ty, ps, af, none⟩) (fun y => match y with | .enter _ _ => True | _ => False) (fun _ => False)
    (fun y => match y with
      | .enter f args => (Frame.enter P f args .normal, mk b n S [] (.inRegion ops (i :: rest) :: k) :: cs)
      | _ => (b, cs))
    (fun _ => (b, cs)) (fun y H' => y = .enter g vs.toArray ∧ H' = H) noE ?_ r1 ?_ (fun _ _ y => y) ?_ (fun _ _ y => y.elim)
  · intro main w
    have hg2 := stepG_mk_op (P := P) (n := n) b S [] ops i rest k cs _ ho (by trivial) (by simp [Region.wanted]) main w
    refine ⟨fun y w' hr hy => ?_, fun v w' hr y => y.elim⟩
    rw [hg2]
    cases y <;> first | exact hy.elim | (simp only [stepG.apply, Sem.runT_eq, hr, if_true, tells_after, tells_go]; refine ⟨⟨?_, ?_, ?_⟩, ?_⟩ <;> first | trivial | rfl | exact seen_if _ _ _ _ | exact fun _ he => absurd he (by simp))
  · rintro y H' ⟨rfl, _⟩; exact trivial
  · rintro y H' ⟨rfl, rfl⟩
    have he : ∀ args : Array Value, Nat.ble args.size n2 = true → Frame.enter P g args .normal = mk { (default : Frame) with fn := g, kind := .normal, roundOf := none } n2 (argS args) [] [.code c] := by
      intro args ha
      simp [Frame.enter, mk, hg, hb, hn, enter_tmps n2 args (Nat.le_of_ble_eq_true ha)]
    show Rch P Q (Frame.enter P g vs.toArray .normal) _ H'
    rw [he _ ha]
    exact r H' V
/-- The way back to the caller. -/
theorem goq_ret {f : FuncId} {fn : Func} {bT : Frame} {n0 : Nat} {S0 : Sl} {ops : Array Oper} {i : Nat} {rest : List Nat} {o : Oper} (hf : P.funcs[f]? = some fn) (hbf : bT.fn = f) (hbk : bT.kind = .normal) (hbr : bT.roundOf = none) (ho : ops[i]? = some o)
    (r : RetOK P n fn (fun v H' => H' = wl h L ∧ GoQ P n0 Q b (.inRegion ops rest :: k) cs (put S0 o.dst v) L h) S [] L h) :
    GoQ P n Q bT [.code .ret] (mk b n0 S0 [] (.inRegion ops (i :: rest) :: k) :: cs) S L h := by
  intro H V
  obtain ⟨ha, d⟩ := RetOK.all r V.valid
  have hr := ret_run (E := noE) hf (mk b n0 S0 [] (.inRegion ops (i :: rest) :: k)) cs bT hbf hbk S L [.code .ret] [] h H V ha d
  refine .ctl (fr' := { mk bT n S [] [.code .ret] with mode := .returning }) (cs' := mk b n0 S0 [] (.inRegion ops (i :: rest) :: k) :: cs) (fun main w => by simp [stepG, stepG.exec, mk, hbr]) (hr.bind ?_)
  rintro fr cs' H' ⟨rfl, ⟨v, rfl, rfl, g⟩ | ⟨v, _, y⟩⟩
  · rw [mk_finish b S0 [] ops i rest k o ho]
    exact g _ (Fits.nil V.valid)
  · exact y.elim
/-- From a whole to the caller's rule. -/
theorem goes_goq {ro : Option Nat} {items : List Item} {K : Post} (hD : ∀ H, Fits h L [] H → ∀ b : Frame, b.roundOf = ro → ∀ (k : List Item) (cs : List Frame),
      GoQ P n (fun fr cs' H' => cs' = cs ∧ ∃ e S' D' L' h', Fits h' L' D' H' ∧ K e S' D' L' h' ∧ AtX b n k e S' D' fr) b (items ++ k) cs S L h) : Goes P n ro items K S [] L h :=
  fun H V b hb k cs => hD H V b hb k cs H V
/-- .. and back: what an ordinary walk of the rest comes to. -/
theorem goq_last {items : List Item} {K : Post} (hb : b.roundOf = none) (g : Goes P n none items K S [] L h)
    (hq : ∀ fr H' e S' D' L' h', Fits h' L' D' H' → K e S' D' L' h' → AtX b n k e S' D' fr → Q fr cs H') : GoQ P n Q b (items ++ k) cs S L h := by
  intro H V
  refine (g H V b hb k cs).mono ?_
  rintro fr cs' H' ⟨rfl, e, S', D', L', h', V', kk, a⟩
  exact hq _ _ _ _ _ _ _ V' kk a
end
/-- A go statement, and all that follows it, in whatever frames. -/
theorem goq_phase {P : Program} {n : Nat} {Q QM : Frame → List Frame → AH → Prop} {b : Frame} {cs : List Frame} {S : Sl} {L : Pv} {h : AH} {k : List Item} {ops : Array Oper} {i : Nat} {o : Oper} {x : Operand} {f : FuncId} {fs cap : Array Value} {c : Nat} {tm : Bool} {hm hw R : AH} {vs : List Value} {cw : List Frame} {WorkEnd : Frame → AH → Prop} {L1 : Pv} {h1 : AH} {s0 r0 : Nat}
    (hl : Lvl.ph = true) (ho : ops[i]? = some o) (hwt : Region.wanted o (yielded ops (arr n S)) = true) (hop : o.op = .go { callee := .value x, args := #[], argTypes := #[] }) (hx : ev n S x = .func (.func f) fs cap)
    (rows : OnlyRows R) (mw : Disj hm hw) (mR : Disj hm R) (wR : Disj hw R) (hmc : hm c = none) (hwc : hw c = none) (hRc : R c = none)
    (split : Valid h L → wl h L = hun hm (hun hw (hun R (oneC c (.chan 0 #[] false s0 r0 tm)))))
    (V1 : Valid h1 L1) (e1 : wl h1 L1 = hun hm (zw R c vs))
    (gm : @GoQ ⟨false, none, some c⟩ P n QM b (.inRegion ops [] :: k) cs (put S o.dst undef) L1 h1)
    (hQM : ∀ fr cs' H', QM fr cs' H' → ∃ hm', H' = hun hm' (zx R c) ∧ hm' c = none ∧ Disj hm' R)
    (close : ∀ fr hw', WorkEnd fr hw' → mayWake P (G fr cw) = true ∧ ∃ (g2 : Goroutine) (es : Array Event) (n : Nat), (∀ (w : World) s r, w.heap[c]? = some (.chan 0 #[] false s r tm) → stepG P false (G fr cw) w = .go g2 (w.shut c s r tm) (es.push ⟨.obj c, true, true⟩)) ∧ (∀ e ∈ es, e = ⟨.obj c, false, true⟩) ∧ QuitsD P n 0 g2)
    (rW : RW P c (QW R c cw WorkEnd) (baseG P [{ target := .fn (.func f) cap, args := fs }]) [] (hun hw (zw R c vs)))
    (join : ∀ fr cs' hm' fr' hw' s r, QM fr cs' (hun hm' (zx R c)) → WorkEnd fr' hw' → Disj hm' hw' → Disj hm' R → Disj hw' R → hm' c = none → hw' c = none → Fin (hun hm' (hun hw' (hun R (oneC c (.chan 0 #[] true s r tm))))) → Q fr cs' (hun hm' (hun hw' (hun R (oneC c (.chan 0 #[] true s r tm)))))) :
    GoQ P n Q b (.inRegion ops [i] :: k) cs S L h := by
  intro H V
  have hH := wl_of V rfl
  rw [split V.valid] at hH
  have rM := gm (wl h1 L1) (Fits.nil V1)
  rw [e1] at rM
  have cert : Cert P R c tm cw QM WorkEnd := by
    refine ⟨rows, ?_, close⟩
    rintro fr cs' H' q
    obtain ⟨hm', rfl, e3, _⟩ := hQM _ _ _ q
    exact zx_c e3
  have toX : ∀ {fr' : Frame} {hw' : AH} {s r : Nat} {fr : Frame} {cs' : List Frame} {hm' : AH}, QM fr cs' (hun hm' (zx R c)) → WorkEnd fr' hw' → Disj hm' hw' → Disj hm' R → Disj hw' R → hm' c = none → hw' c = none →
      Fin (hun hm' (hun hw' (hun R (oneC c (.chan 0 #[] true s r tm))))) → Q fr cs' (hun hm' (hun hw' (hun R (oneC c (.chan 0 #[] true s r tm))))) :=
    fun q hW d1 d2 d3 n1 n2 fin => join _ _ _ _ _ _ _ q hW d1 d2 d3 n1 n2 fin
  refine .far hl (fun fr cs' H' => Q fr cs' H')
    (Far.mono (X := fun fr cs' H' => Fin H' ∧ (Fin H' → Q fr cs' H')) (Far.fin ?_) (fun _ _ _ q => q.2 q.1)) ?_ (fun _ _ _ q => .done q)
  · rw [hH]
    refine far_phase (cw := cw) (vs := vs) cert ?_ (fun w => ?_) rM rW mw mR wR hmc hwc hRc
    · intro fr cs' hm' fr' hw' s r q hW d1 d2 d3 n1 n2 _ fin
      exact toX q hW d1 d2 d3 n1 n2 fin
    · exact step_go ho hwt hop hx
  · intro F fF dF fH
    rw [hH] at dF fH
    have oneD : ∀ {A : AH} {g : Obj}, A c = none → Disj A (oneC c g) := by
      intro A g hA y
      by_cases hy : y = c
      · subst hy; exact .inl hA
      · exact .inr (oneC_ne hy)
    have zfD : ∀ {A : AH}, Disj A R → Disj A (zf R) := fun d y => (d y).imp id zf_none.2
    have fone : ∀ g, Fin (oneC c g) := fun g => Fin.hupd ⟨0, fun _ _ => rfl⟩ _ _
    obtain ⟨dm, d1⟩ := dF.of_hun
    obtain ⟨dw, d2⟩ := d1.of_hun
    obtain ⟨dR, dC⟩ := d2.of_hun
    have cF : F c = none := (dC c).resolve_left (by rw [oneC_same]; simp)
    have fm : Fin hm := fH.left
    have fr0 := Fin.rest (mw.hun (mR.hun (oneD hmc))) fH
    have fw : Fin hw := fr0.left
    have fR : Fin R := (Fin.rest (wR.hun (oneD hwc)) fr0).left
    have fzf : Fin (zf R) := fR.imp fun _ hN y hy => zf_none.2 (hN y hy)
    have fz : ∀ g, Fin (hun (oneC c g) (zf R)) := fun g => (fone g).hun fzf
    have zD : ∀ {A : AH} {g : Obj}, Disj A R → A c = none → Disj A (hun (oneC c g) (zf R)) := fun d hA => (oneD hA).hun (zfD d)
    have W1 : ∃ fr cs h, Fin h ∧ ∃ h1, h = hun h1 (hun hm F) ∧ Disj h1 (hun hm F) ∧ QW R c cw WorkEnd fr cs h1 := by
      letI : Lvl := ⟨false, some c, none⟩
      exact (rW.frame (F := hun hm F) ((Disj.hun_left (mw.symm.hun dw) ((zD mR hmc).symm.hun (zD dR.symm cF).symm)))).some ((fw.hun (fz _)).hun (fm.hun fF))
    obtain ⟨fr1, cs1, h2, f2, h1', rfl, d3, rfl, hw', rfl, n2, wR', hW⟩ := W1
    obtain ⟨d4, _⟩ := d3.of_hun
    obtain ⟨d5, d6⟩ := d4.of_hun_right
    have fw' : Fin hw' := f2.left.left
    have dd : Disj (hun hm (zw R c vs)) (hun hw' F) := (Disj.hun_left (d5.symm.hun dm) ((zD wR' n2).symm.hun (zD dR.symm cF).symm))
    have M1 := @Rch.some ⟨false, none, some c⟩ P _ _ _ _ (@Rch.frame ⟨false, none, some c⟩ P _ _ _ _ rM (hun hw' F) dd) ((fm.hun (fz _)).hun (fw'.hun fF))
    obtain ⟨fr2, cs2, h4, f4, h3, rfl, d7, q⟩ := M1
    obtain ⟨hm', e4, e3, d8⟩ := hQM _ _ _ q
    subst e4
    obtain ⟨d9, _⟩ := d7.of_hun
    obtain ⟨d10, d11⟩ := d9.of_hun_right
    have fm' : Fin hm' := f4.left.left
    have fin : Fin (hun hm' (hun hw' (hun R (oneC c (.chan 0 #[] true 0 0 tm))))) := fm'.hun (fw'.hun (fR.hun (fone _)))
    exact ⟨_, _, _, fin, Disj.hun_left d11 (Disj.hun_left d6 (Disj.hun_left dR ((oneD cF).symm))), toX q hW d10 d8 wR' e3 n2 fin⟩
/-- A channel alone as a private block over rows that are lent. -/
theorem solo_priv {R : AH} {c : Nat} {g : Obj} (f : Fin R) (hc : R c = none) : Valid (zf R) [some (c, g)] ∧ wl (zf R) [some (c, g)] = hun hnil (hun (oneC c g) (zf R)) := by
  have zc : zf R c = none := zf_none.2 hc
  have n1 : wl (zf R) [] c = none := by rw [wl_nil]; exact zc
  have V1 := valid_new (L := []) (valid_nil (fin_zf f)) n1 g
  have e1 := wl_new n1 g
  refine ⟨V1, ?_⟩
  rw [List.nil_append] at e1
  rw [← e1, wl_nil]
  funext y
  by_cases hy : y = c
  · subst hy; simp [hupd, hun, hnil, oneC_same]
  · simp [hupd, hun, hnil, oneC_ne hy, hy]
/-- What is asked at the end of a worker's walk that falls off its body's end. -/
def wrkN (c : Nat) (ats : Array TypeId) (ty : TypeId) (h0 : AH) : Post
  | .normal, _, D, L, h => D = [laterB .close ats ty (.chan (some c))] ∧ (Valid h L → ∃ h', wl h L = wl h' [some (c, gch [])] ∧ Valid h' [some (c, gch [])] ∧ Ext h0 h')
  | _, _, _, _, _ => False
theorem worker_bodyN {P : Program} {f : FuncId} {fn : Func} {body : Code} {args cap : Array Value} {n c : Nat} {ats : Array TypeId} {ty : TypeId} {hw R : AH} {vs : List Value} (hf : P.funcs[f]? = some fn) (hname : (fn.name == "runtime.NumGoroutine") = false) (hb : fn.body = some body) (hn : fn.ntmps = n) (ha : Nat.ble (args ++ cap).size n = true)
    (fin : Fin (hun hw (zf R))) (d : Disj hw R) (hwc : hw c = none) (hRc : R c = none)
    (x : @xp ⟨false, some c, none⟩ P n none body (wrkN c ats ty (hun hw (zf R))) (argS (args ++ cap)) [] [some (c, gch vs)] (hun hw (zf R))) :
    RW P c (QW R c [baseG P []] (WEnd f n c ats ty hw)) (baseG P [{ target := .fn (.func f) cap, args := args }]) [] (hun hw (zw R c vs)) := by
  letI : Lvl := ⟨false, some c, none⟩
  have he : Frame.enter P f (args ++ cap) .deferred = mk { (default : Frame) with fn := f, kind := .deferred, roundOf := none } n (argS (args ++ cap)) [] [.code body] := by
    have e := enter_tmps n (args ++ cap) (Nat.le_of_ble_eq_true ha)
    generalize args ++ cap = ars at e
    simp [Frame.enter, mk, hf, hb, hn, e]
  refine .ctl (fr' := Frame.enter P f (args ++ cap) .deferred) (cs' := [baseG P []]) (fun main w => step_base hf hname hb []) ?_
  rw [he]
  have hcn : hun hw (zf R) c = none := by simp [hun, hwc, zf_none.2 hRc]
  have hH : ∀ (h : AH) (us : List Value), h c = none → wl h [some (c, gch us)] = hupd h c (gch us) := fun h us hn0 => by
    have := wl_new (h := h) (L := []) (b := c) (by rw [wl_nil]; exact hn0) (gch us)
    rw [wl_nil] at this
    exact this.symm
  have hz : ∀ (Y : AH) (us : List Value), Y c = none → hupd (hun Y (zf R)) c (gch us) = hun Y (zw R c us) := fun Y us hY => by
    funext b
    by_cases hbc : b = c
    · subst hbc; simp [hupd, hun, hY, zw, oneC_same]
    · simp [hupd, hun, hbc, zw, oneC_ne hbc]
  have V : Valid (hun hw (zf R)) [some (c, gch vs)] := valid_new (L := []) (valid_nil fin) (by rw [wl_nil]; exact hcn) _
  have F0 : Fits (hun hw (zf R)) [some (c, gch vs)] [] (hun hw (zw R c vs)) := by
    rw [← hz hw vs hwc, ← hH _ vs hcn]
    exact Fits.nil V
  refine (x _ F0 { (default : Frame) with fn := f, kind := .deferred, roundOf := none } rfl [] [baseG P []]).bind ?_
  rintro fr cs' H ⟨rfl, e, S', D', L', h', V', kk, a⟩
  cases e with
  | normal =>
    obtain ⟨rfl, kk⟩ := kk
    obtain ⟨h2, e0, V2, ex⟩ := kk V'.valid
    have a' : fr = mk { (default : Frame) with fn := f, kind := .deferred, roundOf := none } n S' [laterB .close ats ty (.chan (some c))] [] := a
    subst a'
    have e1 := V'.eq
    rw [e0] at e1
    clear e0 kk V'
    generalize h2 = h' at *
    have hc' : h' c = none := wl_fresh V2 (i := 0) rfl
    have ez : Ext (zf R) h' := (ext_right (fun b => (d b).imp id zf_none.2)).trans ex
    have oc : own R h' c = none := by simp [own, hRc, hc']
    refine .ctl (fr' := { mk { (default : Frame) with fn := f, kind := .deferred, roundOf := none } n S' [laterB .close ats ty (.chan (some c))] [] with mode := .returning }) (cs' := [baseG P []]) (fun main w => by simp [stepG, stepG.exec, mk]) (.done ⟨rfl, own R h', ?_, oc, own_disj R h', own_ext d ex, S', [], rfl⟩)
    have e2 : mkH [laterB .close ats ty (.chan (some c))] = hnil := rfl
    rw [e2, hun_nil, hH _ [] hc'] at e1
    rw [e1, ← hz _ [] oc, own_hun ez]
  | _ => exact kk.elim
/-- Two private blocks taken out of a heap. -/
theorem wl_pick2 {h : AH} {L : Pv} {i j c b : Nat} {oc ob : Obj} (V : Valid h L) (hi : L[i]? = some (some (c, oc))) (hj : L[j]? = some (some (b, ob))) (hne : oc ≠ ob) :
    ∃ hw, Fin hw ∧ hw c = none ∧ hw b = none ∧ c ≠ b ∧ (∀ y o, wl h L y = some o → y ≠ c → y ≠ b → hw y = some o) ∧ (∀ y, hw y = none ∨ wl h L y = hw y) ∧ wl h L = hun hnil (hun hw (hun (oneC b ob) (oneC c oc))) := by
  have ec := wl_get V hi
  have eb := wl_get V hj
  have hcb : c ≠ b := by
    intro e; subst e
    rw [ec] at eb; cases eb; exact hne rfl
  refine ⟨fun y => if y = c then none else if y = b then none else wl h L y, ?_, by simp, by simp, hcb, fun y o hy h1 h2 => by simp [h1, h2, hy], fun y => ?_, ?_⟩
  · exact (fin_wl V).imp fun N hN y hy => by
      have := hN y hy
      simp [this]
  · by_cases h1 : y = c
    · exact .inl (by simp [h1])
    · by_cases h2 : y = b
      · exact .inl (by simp [h2])
      · exact .inr (by simp [h1, h2])
  · funext y
    by_cases h1 : y = c
    · subst h1; simp [hun, hnil, oneC_ne hcb, oneC_same, ec]
    · by_cases h2 : y = b
      · subst h2; simp [hun, hnil, oneC_same, eb, h1]
      · simp only [hun, hnil, if_neg h1, if_neg h2, oneC_ne h1, oneC_ne h2]
        cases wl h L y <;> rfl
theorem wl_ne {h : AH} {L : Pv} {i j c b : Nat} {oc ob : Obj} (V : Valid h L) (hi : L[i]? = some (some (c, oc))) (hj : L[j]? = some (some (b, ob))) (hne : oc ≠ ob) : c ≠ b := fun e => by
  subst e
  exact hne (Option.some.inj ((wl_get V hi).symm.trans (wl_get V hj)))
theorem zx_inj {R A B : AH} {c : Nat} (e : hun A (zx R c) = hun B (zx R c)) (ac : A c = none) (bc : B c = none) (dA : Disj A R) (dB : Disj B R) : A = B := by
  have : hun A (zf R) = hun B (zf R) := by
    funext y
    have e6 := congrFun e y
    by_cases hy : y = c
    · subst hy; simp [hun, ac, bc]
    · have hz : zx R c y = zf R y := by simp [zx, hun, oneC_ne hy]
      simp only [hun, hz] at e6 ⊢
      exact e6
  exact hun_inj this dA dB
end Go.HL
/- Weathers and failures, in plain data. Conditions: none. -/
namespace Go.Wx
open Go Go.HL
variable [Lvl]
/-- The weather of six weeks. -/
structure Sky where
  x0 : Int
  x1 : Int
  x2 : Int
  x3 : Int
  x4 : Int
  x5 : Int
  deriving DecidableEq, Repr, Inhabited
def Sky.at (x : Sky) : Nat → Int
  | 0 => x.x0
  | 1 => x.x1
  | 2 => x.x2
  | 3 => x.x3
  | 4 => x.x4
  | 5 => x.x5
  | _ => 0
def Sky.set (x : Sky) (k : Nat) (v : Int) : Sky :=
  match k with
  | 0 => { x with x0 := v }
  | 1 => { x with x1 := v }
  | 2 => { x with x2 := v }
  | 3 => { x with x3 := v }
  | 4 => { x with x4 := v }
  | 5 => { x with x5 := v }
  | _ => x
/-- The numbers from lo to below hi. -/
def rangeI (lo hi : Int) : List Int := (List.range (hi - lo).toNat).map fun i : Nat => lo + i
theorem rangeI_nil {lo hi : Int} (h : hi ≤ lo) : rangeI lo hi = [] := by
  unfold rangeI
  rw [show (hi - lo).toNat = 0 from by omega]
  rfl
theorem rangeI_split {lo hi n : Int} (h1 : lo ≤ n) (h2 : n < hi) : rangeI lo hi = rangeI lo n ++ n :: rangeI (n + 1) hi := by
  unfold rangeI
  have e : (hi - lo).toNat = (n - lo).toNat + ((hi - (n + 1)).toNat + 1) := by omega
  rw [e, List.range_add, List.map_append, List.range_succ_eq_map]
  simp only [List.map_cons, List.map_map]
  congr 1
  congr 1
  · simp; omega
  · apply List.map_congr_left
    intro a _
    simp
    omega
theorem mem_rangeI {lo hi x : Int} : x ∈ rangeI lo hi ↔ lo ≤ x ∧ x < hi := by
  unfold rangeI
  simp only [List.mem_map, List.mem_range]
  constructor
  · rintro ⟨i, hi, rfl⟩; omega
  · rintro ⟨h1, h2⟩; exact ⟨(x - lo).toNat, by omega, by omega⟩
abbrev Rg.all (r : Rg) : List Int := rangeI r.mn (r.mx + 1)
/-- A failure: in which week, and by which causes. -/
structure Fl where
  week : Nat
  causes : Nat
  deriving DecidableEq, Repr, Inhabited
end Go.Wx
/- Bellows without tests, in plain data: what leaks. Conditions: none. -/
namespace Go.Bw
open Go Go.HL Go.Wx Go.Rd
variable [Lvl]
/-- A bellows without tests. -/
structure BelP where
  full : Int
  air : Rg
  corners : List Rg
structure BelB (b : BelP) : Prop where
  f1 : 1 ≤ b.full
  f2 : b.full ≤ 200
  a1 : 0 ≤ b.air.mn
  a2 : b.air.mn ≤ b.air.mx
  a3 : b.air.mx ≤ b.full
  c4 : b.corners.length ≤ 4
  cb : ∀ r ∈ b.corners, 0 ≤ r.mn ∧ r.mn ≤ r.mx ∧ r.mx ≤ 5
def belC (A TA : Option Addr) (cA tA : Nat) (b : BelP) : List Value := [.int .i64 b.full, .int .i64 b.air.mn, .int .i64 b.air.mx, .slice A b.corners.length cA, .slice TA 0 tA]
def belV (A TA : Option Addr) (cA tA : Nat) (b : BelP) : Value := .agg #[.int .i64 b.full, .int .i64 b.air.mn, .int .i64 b.air.mx, .slice A b.corners.length cA, .slice TA 0 tA]
def zero4 : List Int := [0, 0, 0, 0]
/-- All leaks that go on from one, from a corner on. -/
def lksM : List Rg → Nat → List Int → List (List Int)
  | [], _, l => [l]
  | r :: rs, k, l => r.all.flatMap fun n => lksM rs (k + 1) (l.set k n)
/-- What comes behind a number in the first range. -/
def lksR (r : Rg) (rs : List Rg) (k : Nat) (l : List Int) (n : Int) : List (List Int) := (rangeI n (r.mx + 1)).flatMap fun n => lksM rs (k + 1) (l.set k n)
theorem lksR_step {r : Rg} {rs : List Rg} {k : Nat} {l : List Int} {n : Int} (hn : n ≤ r.mx) : lksR r rs k l n = lksM rs (k + 1) (l.set k n) ++ lksR r rs k l (n + 1) := by
  unfold lksR
  have := rangeI_split (lo := n) (hi := r.mx + 1) (n := n) (by omega) (by omega)
  rw [rangeI_nil (Int.le_refl n), List.nil_append] at this
  rw [this, List.flatMap_cons]
theorem lksR_end {r : Rg} {rs : List Rg} {k : Nat} {l : List Int} {n : Int} (hn : r.mx < n) : lksR r rs k l n = [] := by
  unfold lksR
  rw [rangeI_nil (by omega)]
  rfl
def lkV (l : List Int) : Value := .agg (tV l).toArray
theorem lksM_len4 : ∀ (rs : List Rg) (k : Nat) (l : List Int), l.length = 4 → ∀ x ∈ lksM rs k l, x.length = 4
  | [], k, l, hl, x, hx => by cases List.mem_singleton.1 hx; exact hl
  | r :: rs, k, l, hl, x, hx => by
    obtain ⟨n, _, h2⟩ := List.mem_flatMap.1 hx
    exact lksM_len4 rs (k + 1) (l.set k n) (by rw [List.length_set]; exact hl) x h2
theorem lksM_len : ∀ (rs : List Rg) (k : Nat) (l : List Int), (∀ r ∈ rs, 0 ≤ r.mn ∧ r.mn ≤ r.mx ∧ r.mx ≤ 5) → (lksM rs k l).length ≤ 6 ^ rs.length
  | [], k, l, _ => by simp [lksM]
  | r :: rs, k, l, hb => by
    have hr := hb r (List.mem_cons_self ..)
    have key : ∀ L : List Int, (L.flatMap fun n => lksM rs (k + 1) (l.set k n)).length ≤ L.length * 6 ^ rs.length := by
      intro L
      induction L with
      | nil => simp
      | cons a L ih =>
        have := lksM_len rs (k + 1) (l.set k a) fun z hz => hb z (List.mem_cons_of_mem _ hz)
        rw [List.flatMap_cons, List.length_append, List.length_cons, Nat.succ_mul]
        omega
    have h1 := key r.all
    have h2 : r.all.length ≤ 6 := by
      unfold Rg.all rangeI
      rw [List.length_map, List.length_range]
      omega
    have h3 : r.all.length * 6 ^ rs.length ≤ 6 * 6 ^ rs.length := Nat.mul_le_mul_right _ h2
    rw [List.length_cons, Nat.pow_succ]
    show (r.all.flatMap fun n => lksM rs (k + 1) (l.set k n)).length ≤ _
    omega
theorem lksM_ne : ∀ (rs : List Rg) (k : Nat) (l : List Int), (∀ r ∈ rs, 0 ≤ r.mn ∧ r.mn ≤ r.mx ∧ r.mx ≤ 5) → lksM rs k l ≠ []
  | [], k, l, _ => by simp [lksM]
  | r :: rs, k, l, hb => by
    have hr := hb r (List.mem_cons_self ..)
    obtain ⟨x, hx⟩ := List.exists_mem_of_ne_nil _ (lksM_ne rs (k + 1) (l.set k r.mn) fun z hz => hb z (List.mem_cons_of_mem _ hz))
    exact List.ne_nil_of_mem (List.mem_flatMap.2 ⟨r.mn, mem_rangeI.2 ⟨Int.le_refl _, by omega⟩, hx⟩)
/-- All truths of a bellows. -/
def lksB (b : BelP) : List (List Int) := lksM b.corners 0 zero4
theorem lksB_len {b : BelP} (B : BelB b) : (lksB b).length ≤ 1296 := by
  have h1 := lksM_len b.corners 0 zero4 B.cb
  have h2 : 6 ^ b.corners.length ≤ 6 ^ 4 := Nat.pow_le_pow_right (by omega) B.c4
  unfold lksB
  omega
theorem len4 {t : List Int} (h : t.length = 4) : ∃ a b c d, t = [a, b, c, d] := by
  match t, h with
  | [a, b, c, d], _ => exact ⟨a, b, c, d, rfl⟩
theorem lkArr (a b c d : Int) (i : Int) (h0 : 0 ≤ i) (h4 : i < 4) : [Value.int .i64 a, .int .i64 b, .int .i64 c, .int .i64 d].toArray[0 + i.toNat * 1]? = some (.int .i64 ([a, b, c, d].getD i.toNat 0)) := by
  obtain ⟨k, rfl⟩ : ∃ k : Nat, i = k := ⟨i.toNat, by omega⟩
  match k, h4 with
  | 0, _ => rfl
  | 1, _ => rfl
  | 2, _ => rfl
  | 3, _ => rfl
  | k + 4, h4 => omega
def iota (n : Nat) : List Int := (List.range n).map fun i : Nat => (i : Int)
theorem iota_len (n : Nat) : (iota n).length = n := by unfold iota; simp
theorem iota_succ (n : Nat) : iota (n + 1) = iota n ++ [(n : Int)] := by unfold iota; rw [List.range_succ, List.map_append]; rfl
theorem iota_flat (n : Nat) : ((iota n).flatMap intC).length = n := by
  rw [flat_len (m := 1) (fun _ _ => rfl), iota_len, Nat.mul_one]
/-- What some corners leak together. -/
def sumAt (l cs : List Int) : Int := (cs.map fun c => l.getD c.toNat 0).sum
theorem sumAt_snoc (l cs : List Int) (c : Int) : sumAt l (cs ++ [c]) = sumAt l cs + l.getD c.toNat 0 := by
  unfold sumAt
  rw [List.map_append, List.sum_append]
  simp
theorem sumAt_le {l cs : List Int} (hb : ∀ x ∈ l, 0 ≤ x ∧ x ≤ 5) : 0 ≤ sumAt l cs ∧ sumAt l cs ≤ 5 * cs.length := by
  induction cs with
  | nil => exact ⟨Int.le_refl _, Int.le_refl _⟩
  | cons c cs ih =>
    have h1 : 0 ≤ l.getD c.toNat 0 ∧ l.getD c.toNat 0 ≤ 5 := by
      rw [List.getD_eq_getElem?_getD]
      cases e : l[c.toNat]? with
      | none => simp
      | some x => exact hb x (List.mem_of_getElem? e)
    unfold sumAt at ih ⊢
    rw [List.map_cons, List.sum_cons, List.length_cons]
    push_cast
    omega
end Go.Bw
/- Walks of package bellow: the checks, sums, corners. Conditions: as each theorem states. -/
namespace Go.Proofs.Ytlfbcimcehcomaa
open Go Go.HL Go.Proofs Go.Wx Go.Rd Go.Bw
section
variable [Lvl]
set_option maxRecDepth 100000
theorem bIn_ok (a lo hi : Int) (h : AH) : FnT Try.prog 83 #[.int .i64 a, .int .i64 lo, .int .i64 hi] h (fun v _ => v = .bool (decide (lo ≤ a) && decide (a ≤ hi))) := by
  refine call_body Try.func83 rfl Try.ntmps83 rfl ?_
  refine xp_seq ?_
  refine xp_region rfl ?_
  refine op_pure (pv_assign (v := .bool _) rfl) ?_
  refine xp_seq ?_
  refine xp_region rfl ?_
  refine op_pure (pv_move (v := .int .i64 _) rfl) ?_
  refine op_pure (pv_move (v := .int .i64 _) rfl) ?_
  refine op_pure (pv_of (v := .bool _) rfl) ?_
  refine op_pure (pv_move (v := .bool _) rfl) ?_
  by_cases hc : lo ≤ a
  · have hb : decide (lo ≤ a) = true := by simpa using hc
    refine guard_yes rfl hb ?_
    refine op_pure (pv_move (v := .int .i64 _) rfl) ?_
    refine guard_yes rfl hb ?_
    refine op_pure (pv_move (v := .int .i64 _) rfl) ?_
    refine guard_yes rfl hb ?_
    refine op_pure (pv_of (v := .bool _) rfl) ?_
    refine op_pure (pv_pickT rfl hb (v := .bool _) rfl) ?_
    refine op_pure (pv_assign (v := .bool _) rfl) ?_
    refine xp_ret ?_
    refine res_list (vs := [_]) Try.results83 ⟨resV_tmp rfl rfl, trivial⟩ fun V => ?_
    exact ⟨ext_wl V, by simp [hc]; rfl⟩
  · have hb : decide (lo ≤ a) = false := by simpa using hc
    refine guard_no rfl hb ?_
    refine guard_no rfl hb ?_
    refine guard_no rfl hb ?_
    refine op_pure (pv_pickF rfl hb (v := .bool _) rfl) ?_
    refine op_pure (pv_assign (v := .bool _) rfl) ?_
    refine xp_ret ?_
    refine res_list (vs := [_]) Try.results83 ⟨resV_tmp rfl rfl, trivial⟩ fun V => ?_
    exact ⟨ext_wl V, by simp [hc]; rfl⟩
theorem bIn_yes {a lo hi : Int} (h1 : lo ≤ a) (h2 : a ≤ hi) (h : AH) : FnT Try.prog 83 #[.int .i64 a, .int .i64 lo, .int .i64 hi] h (fun v _ => v = .bool true) :=
  (bIn_ok a lo hi h).mono (fun _ _ r => ⟨r.1, r.2.trans (by rw [decide_eq_true h1, decide_eq_true h2]; rfl)⟩) fun _ _ y => y
theorem bRange_ok (x : Rg) (hi : Int) (h1 : 0 ≤ x.mn) (h2 : x.mn ≤ x.mx) (h3 : x.mx ≤ hi) (h : AH) : FnT Try.prog 84 #[rgV x, .int .i64 hi] h (fun v _ => v = .int .i64 0) := by
  refine call_body Try.func84 rfl Try.ntmps84 rfl ?_
  refine xp_seq ?_
  refine xp_region rfl ?_
  refine op_box (v := .agg #[.int .i64 _, .int .i64 _]) (cs := [_, _]) rfl rfl fun b2 hb2 => ?_
  refine wp_norm [_] rfl ?_
  refine op_pure (pv_assign (v := .int .i64 _) rfl) ?_
  refine xp_seq ?_
  refine xp_block ?_
  refine xp_seq ?_
  refine xp_seq ?_
  refine xp_region rfl ?_
  refine op_pure (pv_fieldAddr rfl rfl rfl rfl 0 rfl) ?_
  refine op_loadP 0 (v := .int .i64 _) rfl rfl rfl rfl ?_
  refine op_pure (pv_move (v := .int .i64 _) rfl) ?_
  refine op_fn (caps := []) (vs := [.int .i64 _, .int .i64 _, .int .i64 _]) rfl rfl rfl (bIn_yes h1 (by omega) h) ?_
  rintro _ e1 E1 rfl
  refine op_pure (pv_of (v := .bool _) rfl) ?_
  refine op_pure (pv_assign (v := .bool _) rfl) ?_
  refine xp_condF rfl (rfl) ?_
  refine xp_region rfl ?_
  refine op_pure (pv_fieldAddr rfl rfl rfl rfl 1 rfl) ?_
  refine op_loadP 0 (v := .int .i64 _) rfl rfl rfl rfl ?_
  refine op_pure (pv_move (v := .int .i64 _) rfl) ?_
  refine op_fn (caps := []) (vs := [.int .i64 _, .int .i64 _, .int .i64 _]) rfl rfl rfl (bIn_yes (show 0 ≤ x.mx by omega) h3 e1) ?_
  rintro _ e2 E2 rfl
  refine op_pure (pv_of (v := .bool _) rfl) ?_
  refine op_pure (pv_assign (v := .bool _) rfl) ?_
  refine xp_condF rfl (rfl) ?_
  refine xp_seq ?_
  refine xp_region rfl ?_
  refine op_pure (pv_fieldAddr rfl rfl rfl rfl 0 rfl) ?_
  refine op_loadP 0 (v := .int .i64 _) rfl rfl rfl rfl ?_
  refine op_pure (pv_fieldAddr rfl rfl rfl rfl 1 rfl) ?_
  refine op_loadP 0 (v := .int .i64 _) rfl rfl rfl rfl ?_
  refine op_pure (pv_of (v := .bool _) rfl) ?_
  refine op_pure (pv_assign (v := .bool _) rfl) ?_
  refine xp_condF rfl (decide_eq_false (by omega)) ?_
  refine xp_skip ?_
  refine xp_seq ?_
  refine xp_region rfl ?_
  refine op_pure (pv_assign (v := .int .i64 _) rfl) ?_
  refine xp_ret ?_
  refine res_list (vs := [_]) Try.results84 ⟨resV_tmp rfl rfl, trivial⟩ fun V => ?_
  exact ⟨(Ext.trans (Ext.trans E1 E2) (ext_wl V)), rfl⟩
theorem bCheck_ok (b : BelP) (B : BelB b) (A TA : Option Addr) (cA tA : Nat) (h : AH) (R : Row h 2 rgC A b.corners) : FnT Try.prog 81 #[belV A TA cA tA b] h (fun v _ => v = .int .i64 0) := by
  have B4 := B.c4
  refine call_body Try.func81 rfl Try.ntmps81 rfl ?_
  refine xp_seq ?_
  refine xp_region rfl ?_
  refine op_box (v := .agg #[.int .i64 _, .int .i64 _, .int .i64 _, .slice _ _ _, .slice _ _ _]) (cs := [_, _, _, _, _]) rfl rfl fun b1 hb1 => ?_
  refine wp_norm [_] rfl ?_
  refine op_pure (pv_assign (v := .int .i64 _) rfl) ?_
  refine xp_seq ?_
  refine xp_seq ?_
  refine xp_region rfl ?_
  refine op_pure (pv_fieldAddr rfl rfl rfl rfl 0 rfl) ?_
  refine op_loadP 0 (v := .int .i64 _) rfl rfl rfl rfl ?_
  refine op_fn (caps := []) (vs := [.int .i64 _, .int .i64 _, .int .i64 _]) rfl rfl rfl (bIn_yes B.f1 B.f2 h) ?_
  rintro _ e1 E1 rfl
  refine op_pure (pv_of (v := .bool _) rfl) ?_
  refine xp_condF rfl (rfl) ?_
  refine xp_skip ?_
  refine xp_seq ?_
  refine xp_seq ?_
  refine xp_region rfl ?_
  refine op_pure (pv_fieldAddr rfl rfl rfl rfl 1 rfl) ?_
  refine op_loadPA 0 (vs := [.int .i64 _, .int .i64 _]) rfl rfl rfl rfl rfl ?_
  refine op_pure (pv_fieldAddr rfl rfl rfl rfl 0 rfl) ?_
  refine op_loadP 0 (v := .int .i64 _) rfl rfl rfl rfl ?_
  refine op_fn (caps := []) (vs := [.agg #[.int .i64 _, .int .i64 _], .int .i64 _]) rfl rfl rfl (bRange_ok b.air b.full B.a1 B.a2 B.a3 e1) ?_
  rintro _ e2 E2 rfl
  refine op_pure (pv_assign (v := .int .i64 _) rfl) ?_
  refine xp_seq ?_
  refine xp_region rfl ?_
  refine op_pure (pv_move (v := .int .i64 _) rfl) ?_
  refine op_pure (pv_of (v := .bool _) rfl) ?_
  refine xp_condF rfl (rfl) ?_
  refine xp_skip ?_
  refine xp_seq ?_
  refine xp_seq ?_
  refine xp_region rfl ?_
  refine op_pure (pv_fieldAddr rfl rfl rfl rfl 3 rfl) ?_
  refine op_loadP 0 (v := .slice _ _ _) rfl rfl rfl rfl ?_
  refine op_pure (pv_len rfl rfl) ?_
  refine op_pure (pv_of (v := .bool _) rfl) ?_
  refine xp_condF rfl (decide_eq_false (by omega)) ?_
  refine xp_skip ?_
  refine xp_seq ?_
  refine xp_seq ?_
  refine xp_region rfl ?_
  refine op_pure (pv_fieldAddr rfl rfl rfl rfl 3 rfl) ?_
  refine op_loadP 0 (v := .slice _ _ _) rfl rfl rfl rfl ?_
  refine op_pure (pv_len rfl rfl) ?_
  refine op_pure (pv_move (v := .int .i64 _) rfl) ?_
  refine xp_block ?_
  refine xp_loopB [2, 5, 6, 29, 30, 31, 32, 33, 34, 35, 36, 37, 38] 1 (α := Nat) (fun k => [(29, .int .i64 k)]) (fun k => _) (fun k h_k => k ≤ b.corners.length) (fun k => b.corners.length - k) (0) ⟨rfl, trivial⟩ (rfl) (Nat.zero_le _) ?_
  rintro k T1 h_k E_k J_k
  refine goes_norm [_] rfl ?_
  refine xp_seq ?_
  refine xp_region rfl ?_
  refine op_pure (pv_of (v := .bool _) rfl) ?_
  refine xp_seq ?_
  refine xp_cond rfl (fun hk => ?_) (fun hk => ?_)
  · skip
    have hkl : k < b.corners.length := ltI hk
    obtain ⟨g, off, hA, hc⟩ := (R.ext (Ext.trans (Ext.trans E1 E2) E_k)).at (by omega) hkl
    obtain ⟨q1, q2, q3⟩ := B.cb _ (List.getElem_mem hkl)
    refine xp_skip ?_
    refine xp_seq ?_
    refine xp_block ?_
    refine xp_seq ?_
    refine xp_region rfl ?_
    refine op_pure (pv_indexE rfl hA rfl rfl rfl (by omega) (by omega)) ?_
    refine op_loadA rfl rfl rfl rfl (hc) ?_
    refine op_alloc (cs := [_, _]) rfl rfl fun b5 hb5 => ?_
    refine wp_norm [_, _] rfl ?_
    refine op_storeP 1 (v := .agg #[.int .i64 _, .int .i64 _]) (vs := [_, _]) (c' := [_, _]) rfl rfl rfl rfl rfl rfl rfl rfl rfl ?_
    refine wp_norm [_, _] rfl ?_
    refine xp_seq ?_
    refine xp_region rfl ?_
    refine op_loadPA 1 (vs := [.int .i64 _, .int .i64 _]) rfl rfl rfl rfl rfl ?_
    refine op_fn (caps := []) (vs := [.agg #[.int .i64 _, .int .i64 _], .int .i64 _]) rfl rfl rfl (bRange_ok b.corners[k] 5 q1 q2 q3 h_k) ?_
    rintro _ e3 E3 rfl
    refine op_pure (pv_assign (v := .int .i64 _) rfl) ?_
    refine xp_seq ?_
    refine xp_region rfl ?_
    refine op_pure (pv_move (v := .int .i64 _) rfl) ?_
    refine op_pure (pv_of (v := .bool _) rfl) ?_
    refine xp_condF rfl (rfl) ?_
    refine xp_skip ?_
    refine xp_region rfl ?_
    refine op_pure (pv_arith rfl (by omega)) ?_
    refine op_pure (pv_move (v := .int .i64 _) rfl) ?_
    refine ⟨k + 1, ⟨rfl, trivial⟩, rfl, rfl, (Ext.trans E_k E3), fun h3 E3 => hkl, by first | omega | (dsimp only; omega), ?_⟩
    repeat (first | exact off_base _ _ _ | refine off_upd (by decide) ?_ | refine off_updL rfl ?_ | refine off_mix rfl ?_)
  · skip
    refine xp_exit ?_
    refine xp_seq ?_
    refine xp_seq ?_
    refine xp_region rfl ?_
    refine op_pure (pv_fieldAddr rfl rfl rfl rfl 4 rfl) ?_
    refine op_loadP 0 (v := .slice _ _ _) rfl rfl rfl rfl ?_
    refine op_pure (pv_len rfl rfl) ?_
    refine op_pure (pv_of (v := .bool _) rfl) ?_
    refine xp_condF rfl (rfl) ?_
    refine xp_skip ?_
    refine xp_seq ?_
    refine xp_seq ?_
    refine xp_region rfl ?_
    refine op_pure (pv_fieldAddr rfl rfl rfl rfl 4 rfl) ?_
    refine op_loadP 0 (v := .slice _ _ _) rfl rfl rfl rfl ?_
    refine op_pure (pv_len rfl rfl) ?_
    refine op_pure (pv_move (v := .int .i64 _) rfl) ?_
    refine xp_block ?_
    refine xp_unroll ?_
    refine xp_seq ?_
    refine xp_region rfl ?_
    refine op_pure (pv_of (v := .bool _) rfl) ?_
    refine xp_seq ?_
    refine xp_condF rfl (rfl) ?_
    refine xp_exit ?_
    refine xp_seq ?_
    refine xp_region rfl ?_
    refine op_pure (pv_assign (v := .int .i64 _) rfl) ?_
    refine xp_ret ?_
    refine res_list (vs := [_]) Try.results81 ⟨resV_tmp rfl rfl, trivial⟩ fun V => ?_
    exact ⟨(Ext.trans (Ext.trans (Ext.trans E1 E2) E_k) (ext_wl V)), rfl⟩
/-- A sum of leaks, over corners in a list. -/
theorem total_ok (l : List Int) (hl4 : l.length = 4) (hb : ∀ x ∈ l, 0 ≤ x ∧ x ≤ 5) (cs : List Int) (hcs : ∀ c ∈ cs, 0 ≤ c ∧ c < 4) (hcl : cs.length ≤ 4) (A : Option Addr) (cA : Nat) (h : AH) (R : Row h 1 intC A cs) :
    FnT Try.prog 86 #[lkV l, .slice A cs.length cA] h (fun v _ => v = .int .i64 (sumAt l cs)) := by
  obtain ⟨a, b, c, d, rfl⟩ := len4 hl4
  refine call_body Try.func86 rfl Try.ntmps86 rfl ?_
  refine xp_seq ?_
  refine xp_region rfl ?_
  refine op_box (v := .agg #[.int .i64 _, .int .i64 _, .int .i64 _, .int .i64 _]) (cs := [_, _, _, _]) rfl rfl fun b2 hb2 => ?_
  refine wp_norm [_] rfl ?_
  refine op_pure (pv_assign (v := .int .i64 _) rfl) ?_
  refine xp_seq ?_
  refine xp_region rfl ?_
  refine op_pure (pv_assign (v := .int .i64 _) rfl) ?_
  refine xp_seq ?_
  refine xp_seq ?_
  refine xp_region rfl ?_
  refine op_pure (pv_move (v := .slice _ _ _) rfl) ?_
  refine op_pure (pv_len rfl rfl) ?_
  refine op_pure (pv_move (v := .int .i64 _) rfl) ?_
  refine xp_block ?_
  refine xp_loopB [5, 7, 10, 11, 12, 13, 14, 15, 16, 17, 18, 19] 1 (α := Nat) (fun k => [(10, .int .i64 k), (5, .int .i64 (sumAt [a, b, c, d] (cs.take k)))]) (fun k => _) (fun k h_k => k ≤ cs.length) (fun k => cs.length - k) (0) ⟨rfl, rfl, trivial⟩ (rfl) (Nat.zero_le _) ?_
  rintro k T1 h_k E_k J_k
  refine goes_norm [_] rfl ?_
  have hs := sumAt_le (cs := cs.take k) hb
  have hs2 : (cs.take k).length ≤ 4 := by rw [List.length_take]; omega
  refine xp_seq ?_
  refine xp_region rfl ?_
  refine op_pure (pv_of (v := .bool _) rfl) ?_
  refine xp_seq ?_
  refine xp_cond rfl (fun hk => ?_) (fun hk => ?_)
  · skip
    have hkl : k < cs.length := ltI hk
    obtain ⟨g, off, hA, hc⟩ := (R.ext E_k).at (by omega) hkl
    obtain ⟨c0, c4⟩ := hcs _ (List.getElem_mem hkl)
    have hx := sumAt_le (cs := [cs[k]]) hb
    have hx2 : sumAt [a, b, c, d] [cs[k]] = [a, b, c, d].getD (cs[k]).toNat 0 := by unfold sumAt; simp
    rw [hx2, List.length_cons, List.length_nil] at hx
    refine xp_skip ?_
    refine xp_seq ?_
    refine xp_block ?_
    refine xp_seq ?_
    refine xp_region rfl ?_
    refine op_pure (pv_indexE rfl hA rfl rfl rfl (by omega) (by omega)) ?_
    refine op_load (v := .int .i64 _) rfl rfl ((hc) 0 _ rfl) ?_
    refine op_pure (pv_assign (v := .int .i64 _) rfl) ?_
    refine xp_region rfl ?_
    refine op_pure (pv_move (v := .int .i64 _) rfl) ?_
    refine op_pure (pv_move (v := .int .i64 _) rfl) ?_
    refine op_pure (pv_indexA (m := 1) rfl rfl rfl rfl (by omega) (by omega)) ?_
    refine op_loadP 0 (v := .int .i64 ([a, b, c, d].getD (cs[k]).toNat 0)) rfl rfl rfl (lkArr a b c d _ c0 c4) ?_
    refine op_pure (pv_arith rfl (by omega)) ?_
    refine op_pure (pv_assign (v := .int .i64 _) rfl) ?_
    refine xp_region rfl ?_
    refine op_pure (pv_arith rfl (by omega)) ?_
    refine op_pure (pv_move (v := .int .i64 _) rfl) ?_
    refine ⟨k + 1, ⟨rfl, intE (by rw [take_snoc hkl, sumAt_snoc]), trivial⟩, rfl, rfl, E_k, fun h3 E3 => hkl, by first | omega | (dsimp only; omega), ?_⟩
    repeat (first | exact off_base _ _ _ | refine off_upd (by decide) ?_ | refine off_updL rfl ?_ | refine off_mix rfl ?_)
  · skip
    have hke : k = cs.length := by have := geI hk; omega
    subst hke
    refine xp_exit ?_
    refine xp_seq ?_
    refine xp_region rfl ?_
    refine op_pure (pv_move (v := .int .i64 _) rfl) ?_
    refine op_pure (pv_assign (v := .int .i64 _) rfl) ?_
    refine xp_ret ?_
    refine res_list (vs := [_]) Try.results86 ⟨resV_tmp rfl rfl, trivial⟩ fun V => ?_
    exact ⟨(Ext.trans E_k (ext_wl V)), intE (by rw [List.take_length])⟩
/-- All corners. -/
theorem corners_ok (b : BelP) (B : BelB b) (A TA : Option Addr) (cA tA : Nat) (h : AH) : FnT Try.prog 85 #[belV A TA cA tA b, .slice none 0 0] h (fun v h' => ∃ A2 c2, v = .slice A2 b.corners.length c2 ∧ Row h' 1 intC A2 (iota b.corners.length)) := by
  have B4 := B.c4
  refine call_body Try.func85 rfl Try.ntmps85 rfl ?_
  refine xp_seq ?_
  refine xp_region rfl ?_
  refine op_box (v := .agg #[.int .i64 _, .int .i64 _, .int .i64 _, .slice _ _ _, .slice _ _ _]) (cs := [_, _, _, _, _]) rfl rfl fun b2 hb2 => ?_
  refine wp_norm [_] rfl ?_
  refine op_pure (pv_assign (v := .slice _ _ _) rfl) ?_
  refine goes_more ?_
  refine goes_norm [_, _] rfl ?_
  refine xp_seq ?_
  refine xp_region rfl ?_
  refine op_pure (pv_assign (v := .slice _ _ _) rfl) ?_
  refine xp_seq ?_
  refine xp_seq ?_
  refine xp_region rfl ?_
  refine op_pure (pv_fieldAddr rfl rfl rfl rfl 3 rfl) ?_
  refine op_loadP 0 (v := .slice _ _ _) rfl rfl rfl rfl ?_
  refine op_pure (pv_len rfl rfl) ?_
  refine op_pure (pv_move (v := .int .i64 _) rfl) ?_
  refine xp_block ?_
  refine xp_loopL [5, 6, 10, 11, 12, 13, 14, 15, 16, 17, 18, 19, 20, 21] 2 (α := Nat × Acc) (fun ⟨k, a⟩ => [(10, .int .i64 k), (5, .slice a.A a.n a.c)]) (fun ⟨k, a⟩ L => L.set 1 (a.p)) (fun ⟨k, a⟩ h_k => k ≤ b.corners.length ∧ AccR 3 1 ((iota k).flatMap intC) a) (fun ⟨k, a⟩ => b.corners.length - k) ((0, acc0)) ⟨rfl, rfl, trivial⟩ (rfl) (⟨Nat.zero_le _, accR0⟩) ?_
  rintro ⟨k, a⟩ T1 h_k E_k J_k
  refine goes_norm [_, _] rfl ?_
  obtain ⟨K1, K2⟩ := J_k
  refine xp_seq ?_
  refine xp_region rfl ?_
  refine op_pure (pv_of (v := .bool _) rfl) ?_
  refine xp_seq ?_
  refine xp_cond rfl (fun hk => ?_) (fun hk => ?_)
  · skip
    have hkl : k < b.corners.length := ltI hk
    refine xp_skip ?_
    refine xp_seq ?_
    refine xp_block ?_
    refine xp_seq ?_
    refine xp_region rfl ?_
    refine op_pure (pv_move (v := .int .i64 _) rfl) ?_
    refine op_pure (pv_assign (v := .int .i64 _) rfl) ?_
    refine xp_seq ?_
    refine xp_region rfl ?_
    refine op_pure (pv_move (v := .slice _ _ _) rfl) ?_
    refine op_pure (pv_move (v := .int .i64 _) rfl) ?_
    refine op_fn (caps := []) (vs := [.slice _ _ _, .int .i64 _]) rfl rfl rfl (contains_ok [] k none 0 h_k ⟨fun _ _ => rfl, Rd.nil _ _⟩ (by decide)) ?_
    rintro _ e1 E1 rfl
    refine op_pure (pv_of (v := .bool _) rfl) ?_
    refine xp_condT rfl (rfl) ?_
    refine xp_region rfl ?_
    refine op_pure (pv_move (v := .slice _ _ _) rfl) ?_
    refine op_pure (pv_move (v := .int .i64 _) rfl) ?_
    refine op_buildSlice (zc := [_]) (vs := [(0, .int .i64 _)]) (cs := [_]) rfl rfl rfl rfl rfl rfl rfl fun b19 hb19 => ?_
    refine wp_norm [_, _, _] rfl ?_
    refine op_appendR 1 K2 rfl rfl rfl (fun V => rdP V (i := 2) rfl) rfl rfl rfl rfl rfl rfl rfl rfl rfl (by omega) rfl (by rw [iota_flat]; simp; omega) fun a2 h2a E2a ha2 => ?_
    refine wp_norm [_, _, _] rfl ?_
    refine op_pure (pv_assign (v := .slice _ _ _) rfl) ?_
    refine xp_region rfl ?_
    refine op_pure (pv_arith rfl (by omega)) ?_
    refine op_pure (pv_move (v := .int .i64 _) rfl) ?_
    refine ⟨(k + 1, a2), ⟨rfl, rfl, trivial⟩, rfl, rfl, (Ext.trans (Ext.trans E_k E1) E2a), fun h3 E3 => ⟨hkl, by rw [iota_succ, List.flatMap_append]; exact ha2⟩, by first | omega | (dsimp only; omega), ?_⟩
    repeat (first | exact off_base _ _ _ | refine off_upd (by decide) ?_ | refine off_updL rfl ?_ | refine off_mix rfl ?_)
  · skip
    have hke : k = b.corners.length := by have := geI hk; omega
    subst hke
    have hn := K2.len
    rw [iota_flat, Nat.mul_one] at hn
    refine xp_exit ?_
    refine xp_seq ?_
    refine xp_region rfl ?_
    refine op_pure (pv_move (v := .slice _ _ _) rfl) ?_
    refine op_pure (pv_assign (v := .slice _ _ _) rfl) ?_
    refine xp_ret ?_
    refine res_list (vs := [_]) Try.results85 ⟨resV_tmp rfl rfl, trivial⟩ fun V => ?_
    obtain ⟨ap, aA, an, ac⟩ := a
    dsimp only at hn
    subst hn
    exact ⟨(Ext.trans E_k (ext_wl V)), _, _, rfl, fun _ _ => rfl, K2.rd fun b' o hb => wl_get V (i := 1) (by rw [← hb]; rfl)⟩
end
end Go.Proofs.Ytlfbcimcehcomaa
/- Walks of package bellow: the goroutine of truths. Conditions: as each theorem states. -/
namespace Go.Proofs.Ytlfbcimcehcomaa
open Go Go.HL Go.Proofs Go.Wx Go.Rd Go.Bw Go.Conc
set_option maxRecDepth 100000
section
variable [Lvl]
theorem wrL_setK {t : List Int} {i o : Nat} {x : Int} (ho : o = i) : wrL (tV t) o [.int .i64 x] = tV (t.set i x) := by
  subst ho
  simp [wrL, List.map_set]
/-- The blocks that the closure next reads. -/
structure NextK (h : AH) (b : BelP) (A TA : Option Addr) (cA tA : Nat) (c bB bN bC : Nat) : Prop where
  r : Row h 2 rgC A b.corners
  c1 : h bB = some (.cells (belC A TA cA tA b).toArray 62 (0, 0))
  c2 : ∃ t, h bN = some (.cells #[.func (.func 108) #[] #[.pointer (some ⟨bB, 0, none⟩), .pointer (some ⟨bN, 0, none⟩), .pointer (some ⟨bC, 0, none⟩)]] t (0, 0))
  c3 : ∃ t f, h bC = some (.cells #[.chan (some c)] t f)
theorem NextK.ext {h h' : AH} {b : BelP} {A TA : Option Addr} {cA tA : Nat} {c bB bN bC : Nat} (B : NextK h b A TA cA tA c bB bN bC) (E : Ext h h') : NextK h' b A TA cA tA c bB bN bC :=
  ⟨B.r.ext E, E _ _ B.c1, B.c2.imp fun _ e => E _ _ e, B.c3.imp fun _ e => e.imp fun _ e => E _ _ e⟩
theorem nextK_ok (b : BelP) (BB : BelB b) (A TA : Option Addr) (cA tA : Nat) (c bB bN bC : Nat) (hco : Lvl.co = some c) :
    ∀ (r : List Rg) (k : Nat), b.corners.drop k = r → k ≤ b.corners.length → ∀ (l : List Int) (us : List Value) (h : AH), l.length = 4 → NextK h b A TA cA tA c bB bN bC →
      FnM Try.prog (.func (.func 108) #[] [.pointer (some ⟨bB, 0, none⟩), .pointer (some ⟨bN, 0, none⟩), .pointer (some ⟨bC, 0, none⟩)].toArray) [lkV l, .int .i64 k] h [some (c, gch ((lksM r k l).map lkV ++ us))] (fun _ h' M' => M' = [some (c, gch us)]) := by
  have B4 := BB.c4
  intro r
  induction r with
  | nil =>
    intro k hd hk l us h hl N
    have hkl : k = b.corners.length := by
      have := congrArg List.length hd
      simp at this
      omega
    have hT4 : (tV l).length = 4 := by rw [List.length_map, hl]
    obtain ⟨t3, f3, c3⟩ := N.c3
    refine fnM_body rfl rfl Try.func108 rfl Try.ntmps108 rfl ?_
    refine xp_seq ?_
    refine xp_region rfl ?_
    refine op_box (v := lkV l) (cs := tV l) rfl rfl fun b5 hb5 => ?_
    refine wp_norm [_, _] rfl ?_
    refine xp_seq ?_
    refine xp_seq ?_
    refine xp_region rfl ?_
    refine op_pure (pv_move (v := .int .i64 _) rfl) ?_
    refine op_pure (pv_fieldAddr rfl rfl rfl rfl _ rfl) ?_
    refine op_load (v := .slice _ _ _) rfl rfl (by simp only [cellA, N.c1]; rfl) ?_
    refine op_pure (pv_len rfl rfl) ?_
    refine op_pure (pv_of (v := .bool _) rfl) ?_
    refine xp_condF rfl (decide_eq_false (by omega)) ?_
    refine xp_skip ?_
    refine xp_seq ?_
    refine xp_seq ?_
    refine xp_region rfl ?_
    refine op_pure (pv_fieldAddr rfl rfl rfl rfl _ rfl) ?_
    refine op_load (v := .slice _ _ _) rfl rfl (by simp only [cellA, N.c1]; rfl) ?_
    refine op_pure (pv_len rfl rfl) ?_
    refine op_pure (pv_move (v := .int .i64 _) rfl) ?_
    refine xp_block ?_
    refine xp_unroll ?_
    refine xp_seq ?_
    refine xp_region rfl ?_
    refine op_pure (pv_of (v := .bool _) rfl) ?_
    refine xp_seq ?_
    refine xp_condF rfl (rfl) ?_
    refine xp_exit ?_
    refine xp_regionD rfl rfl ?_
    refine op_load (v := .chan (some c)) rfl rfl (by simp only [cellA, c3]; rfl) ?_
    refine op_loadPA 1 (m := 4) (vs := tV l) rfl rfl rfl rfl (rd_all hT4) ?_
    refine goes_send (j := 0) (v := lkV l) (vs := us) hco rfl rfl rfl rfl rfl rfl ?_
    refine goes_end ?_
    refine res_list (vs := []) Try.results108 trivial fun V => ?_
    obtain ⟨h9, E9, e9, V9⟩ := wl_drop [_] [some (c, gch us)] V
    exact ⟨h9, _, e9, V9, Ext.trans (Ext.refl _) E9, rfl⟩
  | cons r rs ih =>
    intro k hd hk l us h hl N
    have hkl : k < b.corners.length := by
      have := congrArg List.length hd
      simp at this
      omega
    have hlk : b.corners[k] = r := by
      have := List.drop_eq_getElem_cons hkl
      rw [hd] at this
      exact (List.cons.inj this).1.symm
    have hds : b.corners.drop (k + 1) = rs := by
      have := List.drop_eq_getElem_cons hkl
      rw [hd] at this
      exact (List.cons.inj this).2.symm
    obtain ⟨q1, q2, q3⟩ := BB.cb r (hlk ▸ List.getElem_mem hkl)
    have hT4 : (tV l).length = 4 := by rw [List.length_map, hl]
    obtain ⟨t2, c2⟩ := N.c2
    obtain ⟨g, off, rfl, hc⟩ := N.r.at (by omega) hkl
    rw [hlk] at hc
    refine fnM_body rfl rfl Try.func108 rfl Try.ntmps108 rfl ?_
    refine xp_seq ?_
    refine xp_region rfl ?_
    refine op_box (v := lkV l) (cs := tV l) rfl rfl fun b5 hb5 => ?_
    refine wp_norm [_, _] rfl ?_
    refine xp_seq ?_
    refine xp_seq ?_
    refine xp_region rfl ?_
    refine op_pure (pv_move (v := .int .i64 _) rfl) ?_
    refine op_pure (pv_fieldAddr rfl rfl rfl rfl _ rfl) ?_
    refine op_load (v := .slice _ _ _) rfl rfl (by simp only [cellA, N.c1]; rfl) ?_
    refine op_pure (pv_len rfl rfl) ?_
    refine op_pure (pv_of (v := .bool _) rfl) ?_
    refine xp_condT rfl (decide_eq_true (by omega)) ?_
    refine xp_seq ?_
    refine xp_seq ?_
    refine xp_region rfl ?_
    refine op_pure (pv_fieldAddr rfl rfl rfl rfl _ rfl) ?_
    refine op_load (v := .slice _ _ _) rfl rfl (by simp only [cellA, N.c1]; rfl) ?_
    refine op_pure (pv_move (v := .int .i64 _) rfl) ?_
    refine op_pure (pv_index rfl rfl rfl rfl (by omega) (by omega)) ?_
    refine op_pure (pv_fieldAddr rfl rfl rfl rfl _ rfl) ?_
    refine op_load (v := .int .i64 _) rfl rfl (hc 0 (.int .i64 r.mn) rfl) ?_
    refine op_pure (pv_assign (v := .int .i64 _) rfl) ?_
    refine xp_block ?_
    refine xp_loopL [7, 21, 22, 23, 24, 25, 26, 27, 28, 29, 30, 31, 32, 33, 34, 35, 36, 37, 38] 2 (α := Int × List Int) (fun ⟨n, x⟩ => [(7, .int .i64 n)]) (fun ⟨n, x⟩ L => (L.set 0 (some (c, gch ((lksR r rs k l n).map lkV ++ us)))).set 1 (some (b5, .cells (tV x).toArray 162 (0, 0)))) (fun ⟨n, x⟩ h_n => (r.mn ≤ n ∧ n ≤ r.mx + 1) ∧ x.length = 4 ∧ (x = l ∨ ∃ m, x = l.set k m)) (fun ⟨n, x⟩ => (r.mx + 1 - n).toNat) ((r.mn, l)) ⟨rfl, trivial⟩ (rfl) (⟨⟨by omega, by omega⟩, hl, .inl rfl⟩) ?_
    rintro ⟨n, x⟩ T1 h_n E_n J_n
    refine goes_norm [_, _] rfl ?_
    obtain ⟨⟨J1, J2⟩, J3, J4⟩ := J_n
    have B' := N.ext E_n
    have hx4 : (tV x).length = 4 := by rw [List.length_map, J3]
    refine xp_seq ?_
    refine xp_seq ?_
    refine xp_region rfl ?_
    refine op_pure (pv_move (v := .int .i64 _) rfl) ?_
    refine op_pure (pv_fieldAddr rfl rfl rfl rfl _ rfl) ?_
    refine op_load (v := .slice _ _ _) rfl rfl (by simp only [cellA, B'.c1]; rfl) ?_
    refine op_pure (pv_move (v := .int .i64 _) rfl) ?_
    refine op_pure (pv_index rfl rfl rfl rfl (by omega) (by omega)) ?_
    refine op_pure (pv_fieldAddr rfl rfl rfl rfl _ rfl) ?_
    refine op_load (v := .int .i64 _) rfl rfl ((hc.ext E_n) 1 (.int .i64 r.mx) rfl) ?_
    refine op_pure (pv_of (v := .bool _) rfl) ?_
    refine xp_cond rfl (fun hn => ?_) (fun hn => ?_)
    · skip
      have hle : n ≤ r.mx := of_decide_eq_true hn
      have hxs : x.set k n = l.set k n := by
        rcases J4 with rfl | ⟨m, rfl⟩
        · rfl
        · rw [List.set_set]
      refine xp_skip ?_
      refine xp_seq ?_
      refine xp_block ?_
      refine xp_seq ?_
      refine xp_region rfl ?_
      refine op_pure (pv_move (v := .int .i64 _) rfl) ?_
      refine op_pure (pv_move (v := .int .i64 _) rfl) ?_
      refine op_pure (pv_indexA rfl rfl rfl rfl (by omega) (by omega)) ?_
      refine op_storeP 1 (v := .int .i64 _) (vs := [_]) (c' := tV (l.set k n)) rfl rfl rfl rfl rfl rfl (Nat.ble_eq_true_of_le (show 0 + (k : Int).toNat * 1 + 1 ≤ (tV x).length by omega)) rfl (by rw [← hxs]; exact wrL_setK (show 0 + (k : Int).toNat * 1 = k by omega)) ?_
      refine wp_norm [_, _] rfl ?_
      refine xp_region rfl ?_
      refine op_load (v := .func _ _ _) rfl rfl (by simp only [cellA, E_n _ _ c2]; rfl) ?_
      have hT5 : (tV (l.set k n)).length = 4 := by rw [List.length_map, List.length_set, hl]
      refine op_loadPA 1 (m := 4) (vs := tV (l.set k n)) rfl rfl rfl rfl (rd_all hT5) ?_
      refine op_pure (pv_move (v := .int .i64 _) rfl) ?_
      refine op_pure (pv_arith rfl (by omega)) ?_
      refine wp_norm [some (c, gch ((lksM rs (k + 1) (l.set k n)).map lkV ++ ((lksR r rs k l (n + 1)).map lkV ++ us))), _] (by rw [lksR_step hle, List.map_append, List.append_assoc]) ?_
      refine op_fnMM [] [_] [_] (vs := _) rfl rfl rfl (ih (k + 1) hds hkl (l.set k n) ((lksR r rs k l (n + 1)).map lkV ++ us) h_n (by rw [List.length_set]; exact hl) B') ?_
      rintro _ h1 M1 E1 rfl
      refine wp_norm [_, _] rfl ?_
      refine xp_region rfl ?_
      refine op_pure (pv_move (v := .int .i64 _) rfl) ?_
      refine op_pure (pv_arith rfl (by omega)) ?_
      refine op_pure (pv_assign (v := .int .i64 _) rfl) ?_
      refine ⟨(n + 1, l.set k n), ⟨rfl, trivial⟩, rfl, rfl, (Ext.trans E_n E1), fun h3 E3 => ⟨⟨by omega, by omega⟩, by rw [List.length_set]; exact hl, .inr ⟨n, rfl⟩⟩, by first | omega | (dsimp only; omega), ?_⟩
      repeat (first | exact off_base _ _ _ | refine off_upd (by decide) ?_ | refine off_updL rfl ?_ | refine off_mix rfl ?_)
    · skip
      have hnn : r.mx < n := by have := of_decide_eq_false hn; omega
      refine xp_exit ?_
      refine xp_ret ?_
      refine res_list (vs := []) Try.results108 trivial fun V => ?_
      obtain ⟨h9, E9, e9, V9⟩ := wl_drop [_] [some (c, gch ((lksR r rs k l n).map lkV ++ us))] V
      exact ⟨h9, _, e9, V9, Ext.trans E_n E9, by rw [lksR_end hnn]; rfl⟩
end
end Go.Proofs.Ytlfbcimcehcomaa
/- Walks of package bellow: the goroutine's body; known. Conditions: as each theorem states. -/
namespace Go.Proofs.Ytlfbcimcehcomaa
open Go Go.HL Go.Proofs Go.Wx Go.Rd Go.Bw Go.Conc
set_option maxRecDepth 100000
theorem truths2_ok {c bB bN bC : Nat} {hw R : AH} (b : BelP) (BB : BelB b) (A TA : Option Addr) (cA tA : Nat) (fin : Fin (hun hw (zf R))) (d : Disj hw R) (hwc : hw c = none) (hRc : R c = none) (N : NextK (hun hw (zf R)) b A TA cA tA c bB bN bC) :
    RW Try.prog c (QW R c [baseG Try.prog []] (WEnd 109 6 c #[159] 0 hw)) (baseG Try.prog [{ target := .fn (.func 109) #[.pointer (some ⟨bC, 0, none⟩), .pointer (some ⟨bN, 0, none⟩)], args := #[] }]) [] (hun hw (zw R c ((lksB b).map lkV))) := by
  letI : Lvl := ⟨false, some c, none⟩
  obtain ⟨t2, c2⟩ := N.c2
  obtain ⟨t3, f3, c3⟩ := N.c3
  refine worker_bodyN (args := #[]) Try.func109 rfl rfl Try.ntmps109 rfl fin d hwc hRc ?_
  generalize hun hw (zf R) = h at *
  refine xp_seq ?_
  refine xp_regionD rfl rfl ?_
  refine op_load (v := .chan (some c)) rfl rfl (by simp only [cellA, c3]; rfl) ?_
  refine goes_defer rfl rfl rfl rfl ?_
  refine goes_end ?_
  refine goes_norm [_] rfl ?_
  refine xp_region rfl ?_
  refine op_load (v := .func _ _ _) rfl rfl (by simp only [cellA, c2]; rfl) ?_
  refine op_pure (pv_buildA (zc := [_, _, _, _]) (vs := []) (cs := [_, _, _, _]) rfl rfl rfl rfl rfl rfl) ?_
  refine wp_norm [some (c, gch ((lksM b.corners 0 zero4).map lkV ++ []))] (by rw [List.append_nil]; rfl) ?_
  refine op_fnMM [] [_] [] (vs := _) rfl rfl rfl ((nextK_ok b BB A TA cA tA c bB bN bC rfl b.corners 0 rfl (Nat.zero_le _) zero4 [] h rfl (N.ext (Ext.refl _)))) ?_
  rintro _ h1 M1 E1 rfl
  refine wp_norm [_] rfl ?_
  exact ⟨rfl, fun V => ⟨_, rfl, V, E1⟩⟩
set_option maxHeartbeats 4000000 in
theorem known_okB [Lvl] (hph : Lvl.ph = true) (b : BelP) (BB : BelB b) (A TA : Option Addr) (cA tA : Nat) (ws : List Int) (hws : ∀ e ∈ ws, e = 0) (hwl : ws.length < 2 ^ 20) (WA : Option Addr) (cW : Nat) (h : AH) (R : Row h 2 rgC A b.corners) (RW : Row h 1 intC WA ws) :
    FnT Try.prog 48 #[belV A TA cA tA b, .slice WA ws.length cW] h (fun v h' => ∃ A2 c2, v = .tuple #[.slice A2 (lksB b).length c2, .int .i64 0] ∧ Row h' 4 tV A2 (lksB b)) := by
  have hB := lksB_len BB
  refine call_body Try.func48 rfl Try.ntmps48 rfl ?_
  refine xp_seq ?_
  refine xp_region rfl ?_
  refine op_box (v := .agg #[.int .i64 _, .int .i64 _, .int .i64 _, .slice _ _ _, .slice _ _ _]) (cs := [_, _, _, _, _]) rfl rfl fun b2 hb2 => ?_
  refine wp_norm [_] rfl ?_
  refine op_pure (pv_assign (v := .slice _ _ _) rfl) ?_
  refine op_pure (pv_assign (v := .int .i64 _) rfl) ?_
  refine xp_seq ?_
  refine xp_seq ?_
  refine xp_region rfl ?_
  refine op_loadPA 0 (vs := [.int .i64 _, .int .i64 _, .int .i64 _, .slice _ _ _, .slice _ _ _]) rfl rfl rfl rfl rfl ?_
  refine op_fn (caps := []) (vs := [.agg #[.int .i64 _, .int .i64 _, .int .i64 _, .slice _ _ _, .slice _ _ _]]) rfl rfl rfl (bCheck_ok b BB A TA cA tA h (R.ext (Ext.refl _))) ?_
  rintro _ e1 E1 rfl
  refine op_pure (pv_assign (v := .int .i64 _) rfl) ?_
  refine xp_seq ?_
  refine xp_region rfl ?_
  refine op_pure (pv_move (v := .int .i64 _) rfl) ?_
  refine op_pure (pv_of (v := .bool _) rfl) ?_
  refine xp_condF rfl (rfl) ?_
  refine xp_skip ?_
  refine xp_seq ?_
  refine xp_seq ?_
  refine xp_region rfl ?_
  refine op_pure (pv_move (v := .slice _ _ _) rfl) ?_
  refine op_pure (pv_len rfl rfl) ?_
  refine op_pure (pv_move (v := .int .i64 _) rfl) ?_
  refine xp_block ?_
  refine xp_loopB [4, 5, 8, 18, 19, 20, 21, 22, 23, 24, 25] 1 (α := Nat) (fun k => [(18, .int .i64 k)]) (fun k => _) (fun k h_k => k ≤ ws.length) (fun k => ws.length - k) (0) ⟨rfl, trivial⟩ (rfl) (Nat.zero_le _) ?_
  rintro k T1 h_k E_k J_k
  refine goes_norm [_] rfl ?_
  refine xp_seq ?_
  refine xp_region rfl ?_
  refine op_pure (pv_of (v := .bool _) rfl) ?_
  refine xp_seq ?_
  refine xp_cond rfl (fun hk => ?_) (fun hk => ?_)
  · skip
    have hkl : k < ws.length := ltI hk
    obtain ⟨g, off, hA, hc⟩ := (RW.ext (Ext.trans E1 E_k)).at (by omega) hkl
    rw [hws _ (List.getElem_mem hkl)] at hc
    refine xp_skip ?_
    refine xp_seq ?_
    refine xp_block ?_
    refine xp_seq ?_
    refine xp_region rfl ?_
    refine op_pure (pv_indexE rfl hA rfl rfl rfl (by omega) (by omega)) ?_
    refine op_load (v := .int .i64 _) rfl rfl ((hc) 0 _ rfl) ?_
    refine op_pure (pv_assign (v := .int .i64 _) rfl) ?_
    refine xp_seq ?_
    refine xp_region rfl ?_
    refine op_pure (pv_move (v := .int .i64 _) rfl) ?_
    refine op_pure (pv_of (v := .bool _) rfl) ?_
    refine xp_condF rfl (rfl) ?_
    refine xp_skip ?_
    refine xp_region rfl ?_
    refine op_pure (pv_arith rfl (by omega)) ?_
    refine op_pure (pv_move (v := .int .i64 _) rfl) ?_
    refine ⟨k + 1, ⟨rfl, trivial⟩, rfl, rfl, E_k, fun h3 E3 => hkl, by first | omega | (dsimp only; omega), ?_⟩
    repeat (first | exact off_base _ _ _ | refine off_upd (by decide) ?_ | refine off_updL rfl ?_ | refine off_mix rfl ?_)
  · skip
    refine xp_exit ?_
    refine xp_seq ?_
    refine xp_region rfl ?_
    refine op_pure (pv_assign (v := .slice _ _ _) rfl) ?_
    refine goes_goq fun H0 V0 b0 hb0 k0 cs0 => ?_
    refine goq_seq ?_
    refine goq_seq ?_
    refine goq_region1 trivial rfl ?_
    refine op_loadPA 0 (vs := [_, _, _, _, _]) rfl rfl rfl rfl rfl ?_
    refine goq_enter (vs := [belV A TA cA tA b]) rfl rfl rfl rfl Try.func82 rfl Try.ntmps82 rfl ?_
    refine goq_seq ?_
    refine goq_code rfl ?_
    refine xp_region rfl ?_
    refine op_box (v := belV A TA cA tA b) (cs := belC A TA cA tA b) rfl rfl fun b1 hb1 => ?_
    refine op_pure (pv_assign (v := _) rfl) ?_
    refine ⟨rfl, rfl, ?_⟩
    refine goq_norm [_, _] rfl ?_
    refine goq_seq ?_
    refine goq_code rfl ?_
    refine xp_region rfl ?_
    refine op_makeChan rfl rfl rfl fun c hc => ?_
    refine op_alloc (cs := [_]) rfl rfl fun b3 hb3 => ?_
    refine wp_norm [_, _, _, _] rfl ?_
    refine op_storeP 3 (v := .chan _) (vs := [_]) (c' := [_]) rfl rfl rfl rfl rfl rfl rfl rfl rfl ?_
    refine ⟨rfl, rfl, ?_⟩
    refine goq_norm [_, _, _, _] rfl ?_
    refine goq_seq ?_
    refine goq_code rfl ?_
    refine xp_region rfl ?_
    refine op_alloc (cs := [_]) rfl rfl fun b4 hb4 => ?_
    refine ⟨rfl, rfl, ?_⟩
    refine goq_norm [_, _, _, _, _] rfl ?_
    refine goq_seq ?_
    refine goq_code rfl ?_
    refine xp_region rfl ?_
    refine op_pure (pv_makeFunc (vs := []) (ws := [.pointer _, .pointer _, .pointer _]) rfl rfl) ?_
    refine op_storeP 4 (v := .func _ _ _) (vs := [_]) (c' := [_]) rfl rfl rfl rfl rfl rfl rfl rfl rfl ?_
    refine ⟨rfl, rfl, ?_⟩
    refine goq_norm [_, _, _, _, _] rfl ?_
    refine goq_seq ?_
    refine goq_region ?_
    refine goq_pv (i := 0) (rest := [1]) rfl trivial (pv_makeFunc (vs := []) (ws := [.pointer _, .pointer _]) rfl rfl) ?_
    refine goq_valid fun V => ?_
    obtain ⟨hw, fw, wc, w3, c3ne, wext, wcase, wsplit⟩ := wl_pick2 (i := 2) (j := 3) V rfl rfl (by intro e; cases e)
    have g1 := wl_get V (i := 1) rfl
    have gc := wl_get V (i := 2) rfl
    have g3 := wl_get V (i := 3) rfl
    have g4 := wl_get V (i := 4) rfl
    have n1c : b1 ≠ c := wl_ne V (i := 1) (j := 2) rfl rfl (by intro e; cases e)
    have n13 : b1 ≠ b3 := wl_ne V (i := 1) (j := 3) rfl rfl (by intro e; cases e)
    have n4c : b4 ≠ c := wl_ne V (i := 4) (j := 2) rfl rfl (by intro e; cases e)
    have n43 : b4 ≠ b3 := wl_ne V (i := 4) (j := 3) rfl rfl (by intro e; cases e)
    have w1 := wext _ _ g1 n1c n13
    have w4 := wext _ _ g4 n4c n43
    have Ew : Ext h_k hw := fun y o hy => wext y o (ext_wl V y o hy) (fun e => by subst e; rw [wl_fresh V (i := 2) rfl] at hy; cases hy) (fun e => by subst e; rw [wl_fresh V (i := 3) rfl] at hy; cases hy)
    obtain ⟨Z, hZ⟩ : ∃ Z, Z = oneC b3 (.cells #[.chan (some c)] 159 (0, 0)) := ⟨_, rfl⟩
    have fZ : Fin Z := by rw [hZ]; exact fin_one _ _
    have Zc : Z c = none := by rw [hZ]; exact oneC_ne c3ne
    have Z3 : Z b3 = some (.cells #[.chan (some c)] 159 (0, 0)) := by rw [hZ]; exact oneC_same _ _
    have rows : OnlyRows Z := fun y o hb => by
      rw [hZ] at hb
      by_cases e : y = b3
      · subst e; rw [oneC_same] at hb; cases hb; exact ⟨_, _, _, rfl⟩
      · rw [oneC_ne e] at hb; cases hb
    have dwZ : Disj hw Z := by rw [hZ]; exact disj_out w3
    obtain ⟨V1, e2⟩ := solo_priv (g := gch ((lksB b).map lkV)) fZ Zc
    have z3 : zf Z b3 = some (.cells #[.chan (some c)] 159 (0, 2)) := by simp only [zf, Z3]; rfl
    have N : NextK (hun hw (zf Z)) b A TA cA tA c b1 b4 b3 := ⟨R.ext (((Ext.trans E1 E_k)).trans (Ew.trans ext_hun)), ext_hun _ _ w1, ⟨_, ext_hun _ _ w4⟩, ⟨_, _, by simp only [hun, w3]; exact z3⟩⟩
    have rW := truths2_ok b BB A TA cA tA (fin_hun fw (fin_zf fZ)) dwZ wc Zc N
    refine goq_phase (hm := hnil) (QM := fun fr cs' H' => cs' = cs0 ∧ ∃ S' todo hm', H' = hun hm' (zx Z c) ∧ hm' c = none ∧ Disj hm' Z ∧ fr = { mk b0 39 S' [] todo with mode := .returning } ∧ ∃ A2 c2, S' 4 = .slice A2 (lksB b).length c2 ∧ S' 5 = .int .i64 0 ∧ Row hm' 4 tV A2 (lksB b)) hph rfl rfl rfl rfl rows (fun _ => .inl rfl) (fun _ => .inl rfl) dwZ rfl wc Zc (fun _ => by rw [hZ]; exact wsplit) V1 e2 ?gm ?hqm (wend_close rfl rfl) rW ?join
    case hqm =>
      rintro fr cs' H' ⟨rfl, S', todo, hm', e, k1, k2, _⟩
      exact ⟨hm', e, k1, k2⟩
    case join =>
      rintro fr cs' hm' fr' hw' s r ⟨rfl, S', todo, hm2, e, k1, k2, rfl, A2, c2, k4, k5, kr⟩ ⟨EW, _⟩ d1 d2 d3 n1 n2 fin
      have eh := zx_inj e n1 k1 d2 k2
      subst eh
      refine ⟨rfl, .ret, S', [], [], hun hm' (hun hw' (hun Z (oneC c (.chan 0 #[] true s r false)))), ?_, ?_, fun _ => ⟨todo, rfl⟩, fun h => absurd hb0 h⟩
      · have := Fits.nil (valid_nil fin)
        rw [wl_nil] at this
        exact this
      · refine res_list (vs := [_, _]) Try.results48 ⟨resV_tmp rfl k4, resV_tmp rfl k5, trivial⟩ fun V => ?_
        rw [wl_nil]
        refine ⟨fun y o hy => ?_, A2, c2, rfl, kr.ext ext_hun⟩
        have e2 := EW y o (Ew y o ((Ext.trans E1 E_k) y o hy))
        have e3 : hm' y = none := (d1 y).resolve_right (by rw [e2]; simp)
        simp only [hun, e3, e2]
    case gm =>
      have c7 : cellA (zf Z) ⟨b3, 0, none⟩ = some (.chan (some c)) := by simp only [cellA, z3]; rfl
      letI : Lvl := ⟨false, none, some c⟩
      refine goq_end ?_
      refine goq_seq ?_
      refine goq_code rfl ?_
      refine xp_region rfl ?_
      refine op_load (v := .chan (some c)) rfl rfl c7 ?_
      refine op_pure (pv_assign (v := .chan (some c)) rfl) ?_
      refine ⟨rfl, rfl, ?_⟩
      refine goq_ret Try.func82 rfl rfl rfl rfl ?_
      refine res_list (vs := [_]) Try.results82 ⟨resV_tmp rfl rfl, trivial⟩ fun V2 => ?_
      refine ⟨rfl, ?_⟩
      refine goq_end ?_
      refine goq_last (items := [.code _] ++ [.code _]) (K := fun e S' D' L' h' => e = .ret ∧ D' = [] ∧ (Valid h' L' → ∃ hm', wl h' L' = hun hm' (zx Z c) ∧ hm' c = none ∧ Disj hm' Z ∧ ∃ A2 c2, S' 4 = .slice A2 (lksB b).length c2 ∧ S' 5 = .int .i64 0 ∧ Row hm' 4 tV A2 (lksB b))) hb0 (goes_append (x := [.code _]) (y := [.code _]) trivial ?_) ?_
      · skip
        refine goes_more ?_
        refine goes_norm [_, _] rfl ?_
        refine xp_block ?_
        refine xp_loopL [9, 10, 28, 29, 30, 31, 32, 33, 34] 2 (α := List (List Int) × Acc) (fun ⟨us, a⟩ => [(9, .slice a.A a.n a.c)]) (fun ⟨us, a⟩ L => (L.set 0 (some (c, gch (us.map lkV)))).set 1 (a.p)) (fun ⟨us, a⟩ h_us => ∃ dn, dn ++ us = lksB b ∧ AccR 162 4 (dn.flatMap tV) a) (fun ⟨us, a⟩ => us.length) ((lksB b, acc0)) ⟨rfl, trivial⟩ (rfl) (⟨[], rfl, accR0⟩) ?_
        rintro ⟨us, a⟩ T2 h_us E_us J_us
        refine goes_norm [_, _] rfl ?_
        obtain ⟨dn, J1, J2⟩ := J_us
        have hdl : dn.length ≤ 1296 := by rw [← J1, List.length_append] at hB; omega
        have h4 : ∀ x ∈ dn ++ us, x.length = 4 := fun x hx => lksM_len4 b.corners 0 zero4 rfl x (by rw [J1] at hx; exact hx)
        have hfl : (dn.flatMap tV).length = dn.length * 4 := flat_len fun x hx => by rw [List.length_map, h4 x (List.mem_append_left _ hx)]
        rcases us with _ | ⟨u, us⟩
        · skip
          refine xp_seq ?_
          refine xp_regionL ?_
          refine goes_last (i := 0) (rest := [1]) (j := 0) rfl rfl rfl rfl rfl rfl rfl rfl ?_
          refine goes_pv (items := []) (i := 1) (rest := []) rfl trivial (pv_of (v := .bool false) rfl) ?_
          refine goes_end ?_
          refine goes_norm [_, _] rfl ?_
          refine xp_seq ?_
          refine xp_condF rfl (rfl) ?_
          rw [List.append_nil] at J1
          have hn := J2.len
          rw [hfl] at hn
          have hn2 : a.n = dn.length := by omega
          have hne := lksM_ne b.corners 0 zero4 BB.cb
          have hnz : 0 < dn.length := by rw [J1]; exact List.length_pos_iff.2 hne
          refine xp_exit ?_
          refine xp_seq ?_
          refine xp_seq ?_
          refine xp_region rfl ?_
          refine op_pure (pv_move (v := .slice _ _ _) rfl) ?_
          refine op_pure (pv_len rfl rfl) ?_
          refine op_pure (pv_of (v := .bool _) rfl) ?_
          refine xp_condF rfl (decide_eq_false (by omega)) ?_
          refine xp_skip ?_
          refine xp_seq ?_
          refine xp_region rfl ?_
          refine op_pure (pv_move (v := .slice _ _ _) rfl) ?_
          refine op_pure (pv_assign (v := .slice _ _ _) rfl) ?_
          refine op_pure (pv_assign (v := .int .i64 _) rfl) ?_
          refine xp_ret ?_
          refine ⟨rfl, rfl, fun V2 => ?_⟩
          obtain ⟨hm', k1, k2, k3, k4⟩ := main_end V2 (j := 0) rfl E_us Zc
          rw [← J1]
          refine ⟨hm', k1, k2, k3, a.A, a.c, by rw [← hn2]; rfl, rfl, fun x hx => by rw [List.length_map, h4 x (List.mem_append_left _ hx)], J2.rd fun y o hy => ?_⟩
          refine k4 y o (wl_get V2 (i := 1) (by rw [← hy]; rfl)) (fun e => ?_) ?_
          · subst e
            have e3 := wl_get V2 (i := 1) (b := y) (o := o) (by rw [← hy]; rfl)
            rw [wl_get V2 (i := 0) (b := y) (o := gone) rfl] at e3
            cases e3
            rcases J2 with ⟨e5, _⟩ | ⟨_, _, _, _, _, _, e5, _⟩
            · rw [e5] at hy; cases hy
            · rw [e5] at hy; cases hy
          · rw [hZ]
            refine oneC_ne fun e => ?_
            subst e
            have e3 : h_us y = none := wl_fresh V2 (i := 1) (o := o) (by rw [← hy]; rfl)
            have e4 := (E_us) _ _ z3
            rw [e3] at e4
            cases e4
        · skip
          obtain ⟨u0, u1, u2, u3, rfl⟩ := len4 (h4 u (List.mem_append_right _ (List.mem_cons_self ..)))
          have hlt : us.length < ([u0, u1, u2, u3] :: us).length := by simp
          refine xp_seq ?_
          refine xp_regionL ?_
          refine goes_recv (i := 0) (rest := [1]) (j := 0) (v := lkV [u0, u1, u2, u3]) (vs := us.map lkV) rfl rfl rfl rfl rfl rfl rfl rfl ?_
          refine goes_pv (items := []) (i := 1) (rest := []) rfl trivial (pv_of (v := .bool true) rfl) ?_
          refine goes_end ?_
          refine goes_norm [_, _] rfl ?_
          refine xp_seq ?_
          refine xp_condT rfl (rfl) ?_
          refine xp_skip ?_
          refine xp_block ?_
          refine xp_seq ?_
          refine xp_region rfl ?_
          refine op_pure (pv_of (v := .agg #[.int .i64 _, .int .i64 _, .int .i64 _, .int .i64 _]) rfl) ?_
          refine op_alloc (cs := [_, _, _, _]) rfl rfl fun b10 hb10 => ?_
          refine wp_norm [_, _, _] rfl ?_
          refine op_storeP 2 (v := .agg #[.int .i64 _, .int .i64 _, .int .i64 _, .int .i64 _]) (vs := [_, _, _, _]) (c' := [_, _, _, _]) rfl rfl rfl rfl rfl rfl rfl rfl rfl ?_
          refine wp_norm [_, _, _] rfl ?_
          refine xp_region rfl ?_
          refine op_pure (pv_move (v := .slice _ _ _) rfl) ?_
          refine op_loadPA 2 (vs := [.int .i64 _, .int .i64 _, .int .i64 _, .int .i64 _]) rfl rfl rfl rfl rfl ?_
          refine op_buildSlice (zc := [_, _, _, _]) (vs := [(0, .agg #[.int .i64 _, .int .i64 _, .int .i64 _, .int .i64 _])]) (cs := [_, _, _, _]) rfl rfl rfl rfl rfl rfl rfl fun b33 hb33 => ?_
          refine wp_norm [_, _, _, _] rfl ?_
          refine op_appendR 1 J2 rfl rfl rfl (fun V => rdP V (i := 3) rfl) rfl rfl rfl rfl rfl rfl rfl rfl rfl (by omega) rfl (by rw [hfl]; simp; omega) fun a2 h3a E3a ha2 => ?_
          refine wp_norm [_, _, _, _] rfl ?_
          refine op_pure (pv_assign (v := .slice _ _ _) rfl) ?_
          refine ⟨(us, a2), ⟨rfl, trivial⟩, rfl, rfl, (Ext.trans E_us E3a), fun h3 E3 => ⟨dn ++ [[u0, u1, u2, u3]], by rw [List.append_assoc]; exact J1, by rw [List.flatMap_append]; exact ha2⟩, by first | omega | (dsimp only; omega), ?_⟩
          repeat (first | exact off_base _ _ _ | refine off_upd (by decide) ?_ | refine off_updL rfl ?_ | refine off_mix rfl ?_)
      · rintro fr H' e S' D' L' h' F' ⟨rfl, rfl, kk⟩ a
        obtain ⟨hm', e2, e3, d8, kk⟩ := kk F'.valid
        obtain ⟨todo, rfl⟩ := a.1 hb0
        exact ⟨rfl, S', todo, hm', (wl_of F' rfl).trans e2, e3, d8, rfl, kk⟩
end Go.Proofs.Ytlfbcimcehcomaa
/- Bellows without tests: what leaks in all is between the sums of the corners' ranges. Conditions: none. -/
namespace Go.Bw
open Go Go.HL Go.Wx Go.Rd
variable [Lvl]
end Go.Bw
/- Pieces that are played with a bellows that does not leak, in plain data. Conditions: none. -/
namespace Go.Bw
open Go Go.HL Go.Wx Go.Rd
variable [Lvl]
/-- A note that takes a known air per second. -/
structure NoteP where
  sec : Int
  k : Int
  rest : Bool
  deriving DecidableEq, Repr, Inhabited
def noteC (n : NoteP) : List Value := [.int .i64 n.sec, .int .i64 n.k, .int .i64 n.k, .bool n.rest]
structure NoteB (n : NoteP) : Prop where
  s1 : 1 ≤ n.sec
  s2 : n.sec ≤ 20
  k0 : 0 ≤ n.k
  k9 : n.k ≤ 9
def aftI (w a m : Int) : Int := if w = 1 then a - m else a + m
/-- The air after so many notes. -/
def airK (air : Int) (ns : List NoteP) (ws : List Int) : Nat → Int
  | 0 => air
  | i + 1 => aftI (ws.getD i 0) (airK air ns ws i) ((ns.getD i ⟨0, 0, false⟩).sec * (ns.getD i ⟨0, 0, false⟩).k)
def lvlR (air : Int) (ns : List NoteP) (ws : List Int) (i : Nat) : Rg := ⟨airK air ns ws (i + 1), airK air ns ws (i + 1)⟩
def lvls (air : Int) (ns : List NoteP) (ws : List Int) (n : Nat) : List Rg := (List.range n).map (lvlR air ns ws)
theorem lvls_len (air : Int) (ns : List NoteP) (ws : List Int) (n : Nat) : (lvls air ns ws n).length = n := by unfold lvls; simp
theorem lvls_succ (air : Int) (ns : List NoteP) (ws : List Int) (n : Nat) : lvls air ns ws (n + 1) = lvls air ns ws n ++ [lvlR air ns ws n] := by unfold lvls; rw [List.range_succ, List.map_append]; rfl
theorem lvls_at {air : Int} {ns : List NoteP} {ws : List Int} {n i : Nat} (h : i < (lvls air ns ws n).length) : (lvls air ns ws n)[i] = lvlR air ns ws i := by
  simp only [lvls, List.getElem_map, List.getElem_range]
/-- The airs of a piece may be reckoned without bounds being passed. -/
theorem airK_b {air : Int} {ns : List NoteP} {ws : List Int} (h0 : -200 ≤ air ∧ air ≤ 200) (hn : ∀ n ∈ ns, NoteB n) : ∀ i : Nat, -(200 + 180 * (i : Int)) ≤ airK air ns ws i ∧ airK air ns ws i ≤ 200 + 180 * i
  | 0 => by simpa [airK] using h0
  | i + 1 => by
    have ih := airK_b (ws := ws) h0 hn i
    have hm : 0 ≤ (ns.getD i ⟨0, 0, false⟩).sec * (ns.getD i ⟨0, 0, false⟩).k ∧ (ns.getD i ⟨0, 0, false⟩).sec * (ns.getD i ⟨0, 0, false⟩).k ≤ 180 := by
      rw [List.getD_eq_getElem?_getD]
      cases e : ns[i]? with
      | none => simp
      | some x =>
        obtain ⟨a, b, c, d⟩ := hn x (List.mem_of_getElem? e)
        simp only [Option.getD_some]
        constructor
        · exact Int.mul_nonneg (by omega) c
        · have h1 : x.sec * x.k ≤ 20 * x.k := Int.mul_le_mul_of_nonneg_right b c
          omega
    unfold airK aftI
    push_cast
    split <;> omega
theorem mul_b {n : NoteP} (h : NoteB n) : 0 ≤ n.sec * n.k ∧ n.sec * n.k ≤ 180 := by
  obtain ⟨a, b, c, d⟩ := h
  refine ⟨Int.mul_nonneg (by omega) c, ?_⟩
  have h1 : n.sec * n.k ≤ 20 * n.k := Int.mul_le_mul_of_nonneg_right b c
  omega
/-- Whether the air was always from nothing to full, after so many notes. -/
def fineK (full air : Int) (ns : List NoteP) (ws : List Int) : Nat → Bool
  | 0 => true
  | i + 1 => fineK full air ns ws i && (decide (0 ≤ airK air ns ws (i + 1)) && decide (airK air ns ws (i + 1) ≤ full))
theorem fineK_less {full air : Int} {ns : List NoteP} {ws : List Int} : ∀ {n i : Nat}, i ≤ n → fineK full air ns ws n = true → fineK full air ns ws i = true
  | 0, i, hi, h => by rw [Nat.le_zero.1 hi]; exact h
  | n + 1, i, hi, h => by
    rcases Nat.lt_or_ge i (n + 1) with h1 | h1
    · unfold fineK at h
      rw [Bool.and_eq_true] at h
      exact fineK_less (by omega) h.1
    · rw [show i = n + 1 by omega]; exact h
/-- A set that holds one air, as four words. -/
def wordA (m : Nat) (i : Nat) : Nat := if m / 64 = i then 2 ^ (m % 64) else 0
def oneA (m : Nat) : List Value := [.int .u64 (wordA m 0 : Nat), .int .u64 (wordA m 1 : Nat), .int .u64 (wordA m 2 : Nat), .int .u64 (wordA m 3 : Nat)]
def emptyA : List Value := [.int .u64 0, .int .u64 0, .int .u64 0, .int .u64 0]
theorem wordA_lt (m i : Nat) : wordA m i < 2 ^ 64 := by
  unfold wordA
  split
  · exact Nat.pow_lt_pow_right (by decide) (Nat.mod_lt _ (by decide))
  · decide
theorem wordA_bit (m a : Nat) : (wordA m (a / 64)).testBit (a % 64) = decide (a = m) := by
  unfold wordA
  by_cases h : m / 64 = a / 64
  · rw [if_pos h, Nat.testBit_two_pow]
    rw [decide_eq_decide]
    constructor
    · intro e
      have h1 := Nat.div_add_mod m 64
      have h2 := Nat.div_add_mod a 64
      omega
    · intro e; rw [e]
  · rw [if_neg h, Nat.zero_testBit]
    symm
    rw [decide_eq_false_iff_not]
    intro e; rw [e] at h; exact h rfl
/-- The set after so many notes: one air, or none. -/
def setK (full air : Int) (ns : List NoteP) (ws : List Int) (i : Nat) : Option Nat := if fineK full air ns ws i then some (airK air ns ws i).toNat else none
theorem fineK_at {full air : Int} {ns : List NoteP} {ws : List Int} (h0 : 0 ≤ air ∧ air ≤ full) : ∀ {i : Nat}, fineK full air ns ws i = true → 0 ≤ airK air ns ws i ∧ airK air ns ws i ≤ full
  | 0, _ => h0
  | i + 1, h => by
    unfold fineK at h
    rw [Bool.and_eq_true, Bool.and_eq_true, decide_eq_true_eq, decide_eq_true_eq] at h
    exact h.2
/-- The order in which ways may go: each is as the one before unless there is a rest. -/
def WaysB (ns : List NoteP) (ws : List Int) : Prop := ws.length = ns.length ∧ (∀ w ∈ ws, w = 1 ∨ w = 2) ∧ ∀ i : Nat, 0 < i → i < ns.length → (ns.getD i ⟨0, 0, false⟩).rest = false → ws.getD i 0 = ws.getD (i - 1) 0
theorem emptyAt : ∀ k : Nat, k < 4 → [Value.int .u64 0, .int .u64 0, .int .u64 0, .int .u64 0].toArray[0 + (k : Int).toNat * 1]? = some (.int .u64 0)
  | 0, _ => rfl
  | 1, _ => rfl
  | 2, _ => rfl
  | 3, _ => rfl
  | k + 4, h => by omega
theorem oneAt (m : Nat) : ∀ k : Nat, k < 4 → (oneA m).toArray[0 + (k : Int).toNat * 1]? = some (.int .u64 (wordA m k : Nat))
  | 0, _ => rfl
  | 1, _ => rfl
  | 2, _ => rfl
  | 3, _ => rfl
  | k + 4, h => by omega
theorem oneWr {m : Nat} {x : Int} (hm : m ≤ 200) (hx : x = ((2 ^ (m % 64) : Nat) : Int)) : wrL [Value.int .u64 0, .int .u64 0, .int .u64 0, .int .u64 0] (0 + ((m / 64 : Nat) : Int).toNat * 1) [.int .u64 x] = oneA m := by
  subst hx
  have h : m / 64 = 0 ∨ m / 64 = 1 ∨ m / 64 = 2 ∨ m / 64 = 3 := by omega
  unfold oneA wordA
  rcases h with h | h | h | h <;> rw [h] <;> rfl
theorem shr_bit (a k : Nat) : ((a / 2 ^ k) &&& 1 : Nat) = if a.testBit k then 1 else 0 := by
  rw [Nat.testBit_eq_decide_div_mod_eq, Nat.and_one_is_mod]
  have := Nat.mod_two_eq_zero_or_one (a / 2 ^ k)
  rcases this with h | h <;> simp [h]
end Go.Bw
/- The own logic, part CD: remainders of ints. Conditions: none. -/
namespace Go.HL
open Go
variable [Lvl]
end Go.HL
/- The own logic, part GQ: quotients and remainders of ints. Conditions: none. -/
namespace Go.HL
open Go
variable [Lvl]
section
variable {P : Program} {n : Nat} {d : Option Tmp} {ty : TypeId} {ps : String} {af : Array Edge} {S : Sl} {t u : TypeId} {x y : Operand}
theorem pv_remT {a b : Int} (hx : ev n S x = .int .i64 a) (hy : ev n S y = .int .i64 b) (hb : b ≠ 0) :
    pev P (execOp (ev n S) ⟨d, .binOp .rem t x y u, ty, ps, af, none⟩) = some (.value (.int .i64 (a.tmod b))) := by
  simp only [execOp, hx, hy, binOp, Op.intDiv, if_neg hb]
  rfl
theorem pv_quoT {a b c : Int} (hx : ev n S x = .int .i64 a) (hy : ev n S y = .int .i64 b) (hb : b ≠ 0) (hc : a.tdiv b = c) (h : -2 ^ 63 ≤ c ∧ c < 2 ^ 63) :
    pev P (execOp (ev n S) ⟨d, .binOp .quo t x y u, ty, ps, af, none⟩) = some (.value (.int .i64 c)) := by
  subst hc
  have e : IntKind.wrap .i64 (a.tdiv b) = a.tdiv b := IntWalk.i64_in _ ⟨by omega, by omega⟩
  simp only [execOp, hx, hy, binOp, Op.intDiv, if_neg hb, e]
  rfl
end
end Go.HL
/- The own logic, part HD: words of bits as pure facts; a key looked up in a map. Conditions: none. -/
namespace Go.HL
open Go
variable [Lvl]
section
variable {P : Program} {n : Nat} {d : Option Tmp} {ty : TypeId} {ps : String} {af : Array Edge} {S : Sl} {t u : TypeId} {x y : Operand}
theorem pv_shlU {q : IntKind} (a k : Nat) {a' y' : Int} (hx : ev n S x = .int .u64 a') (hy : ev n S y = .int q y') (ea : a' = a) (ek : y' = k) (hk : k < 64) (hb : a * 2 ^ k < 2 ^ 64) :
    pev P (execOp (ev n S) ⟨d, .binOp .shl t x y u, ty, ps, af, none⟩) = some (.value (.int .u64 ((a * 2 ^ k : Nat) : Int))) := by
  subst ea ek
  have e : IntKind.wrap .u64 ((a : Int) * 2 ^ (min ((k : Int).toNat) (IntKind.bits .u64))) = ((a * 2 ^ k : Nat) : Int) := by
    rw [show min ((k : Int).toNat) (IntKind.bits .u64) = k from by simp [IntKind.bits]; omega]
    rw [show (a : Int) * 2 ^ k = ((a * 2 ^ k : Nat) : Int) from by push_cast; rfl, u64_nat _ hb]
  have hn : ¬ (k : Int) < 0 := by omega
  simp only [execOp, hx, hy, binOp, Op.shift, if_neg hn, e]
  rfl
theorem pv_shrU {q : IntKind} (a k : Nat) {a' y' : Int} (hx : ev n S x = .int .u64 a') (hy : ev n S y = .int q y') (ea : a' = a) (ek : y' = k) (hk : k < 64) :
    pev P (execOp (ev n S) ⟨d, .binOp .shr t x y u, ty, ps, af, none⟩) = some (.value (.int .u64 ((a / 2 ^ k : Nat) : Int))) := by
  subst ea ek
  have e : (a : Int).fdiv (2 ^ (min ((k : Int).toNat) (IntKind.bits .u64))) = ((a / 2 ^ k : Nat) : Int) := by
    rw [show min ((k : Int).toNat) (IntKind.bits .u64) = k from by simp [IntKind.bits]; omega]
    rw [Int.fdiv_eq_ediv_of_nonneg _ (by exact_mod_cast Nat.zero_le (2 ^ k))]
    push_cast; rfl
  have hn : ¬ (k : Int) < 0 := by omega
  simp only [execOp, hx, hy, binOp, Op.shift, if_neg hn, e]
  rfl
end
section
variable {P : Program} {n : Nat} {ops : Array Oper} {os : List Oper} {K : Sl → Pv → AH → Prop} {E : Value → Sl → Pv → AH → Prop} {S : Sl} {L : Pv} {h : AH} {d : Option Tmp} {ty : TypeId} {ps : String} {af : Array Edge} {α : Type} [DecidableEq α] {kt : TypeId} {enc : α → Value}
theorem op_lookupZ (i : Nat) {t et : TypeId} {x y : Operand} {m : Nat} {a : α} {l : List (α × Value)} {z : Value} (hk : KeyT P kt enc) (ht : pev P (underlying t) = some (.map kt et)) (hx : ev n S x = .map (some m)) (hy : ev n S y = enc a) (hi : L[i]? = some (some (m, mapO (encs enc l)))) (hz : pev P (zeroValue et) = some z)
    (k : wpL P n ops os K E (put S d (match findL a l 0 with | some (_, v) => v | none => z)) L h) : wpL P n ops (⟨d, .lookup t x y false, ty, ps, af, none⟩ :: os) K E S L h := by
  refine op_of fun V => ?_
  unfold opW
  simp only [execOp, hx, hy]
  refine dem_bind ?_
  unfold Instr.lookup
  refine dem_pev_bind ht ?_
  simp only
  refine dem_bind ?_
  refine ⟨_, wl_get V hi, trivial, ?_⟩
  show dem P (Instr.checkKey (mapEs (encs enc l) 0).toArray.isEmpty 10000 kt (enc a) >>= _) _ _ _
  refine dem_pev_bind (hk.chk _ a) ?_
  have hf : pev P (Instr.findKey kt (enc a) (mapEs (encs enc l) 0).toArray.toList) = some (findL a l 0) := findKey_ok hk a l
  refine dem_pev_bind hf ?_
  cases hfl : findL a l 0 with
  | none =>
    rw [hfl] at k
    refine dem_pev_bind hz ?_
    exact ⟨L, h, rfl, V, k⟩
  | some p =>
    rw [hfl] at k
    exact ⟨L, h, rfl, V, k⟩
end
/-- A method's value, its receiver taken along. -/
theorem callV_fst {P : Program} {g : FuncId} {fs args : List Value} {H : AH} {K E : Value → AH → Prop} (hc : callable P g = true) (c : CallT P g (fs ++ args).toArray H K E) : CallV P (.func (.func g) fs.toArray #[]) args H K E := by
  unfold CallV
  refine dem_bind ?_
  show dem P (callFunc g ((fs.toArray ++ args.toArray) ++ #[])) H _ _
  refine dem_callFunc hc ?_
  have e : (fs.toArray ++ args.toArray) ++ #[] = (fs ++ args).toArray := by simp
  rw [e]
  exact c
end Go.HL
/- Walks of package bellow: pieces, ways, works, sets of airs. Conditions: as each theorem states. -/
namespace Go.Proofs.Ytlfbcimcehcomaa
open Go Go.HL Go.Proofs Go.Wx Go.Rd Go.Bw
section
variable [Lvl]
set_option maxRecDepth 100000
theorem piece_ok (ns : List NoteP) (hn : ∀ n ∈ ns, NoteB n) (hl : ns.length ≤ 6) (A : Option Addr) (cA : Nat) (h : AH) (R : Row h 4 noteC A ns) : FnT Try.prog 49 #[.slice A ns.length cA] h (fun v _ => v = .int .i64 0) := by
  refine call_body Try.func49 rfl Try.ntmps49 rfl ?_
  refine xp_seq ?_
  refine xp_region rfl ?_
  refine op_pure (pv_assign (v := .int .i64 _) rfl) ?_
  refine xp_seq ?_
  refine xp_seq ?_
  refine xp_region rfl ?_
  refine op_pure (pv_move (v := .slice _ _ _) rfl) ?_
  refine op_pure (pv_len rfl rfl) ?_
  refine op_pure (pv_of (v := .bool _) rfl) ?_
  refine xp_condF rfl (decide_eq_false (by omega)) ?_
  refine xp_skip ?_
  refine xp_seq ?_
  refine xp_seq ?_
  refine xp_region rfl ?_
  refine op_pure (pv_move (v := .slice _ _ _) rfl) ?_
  refine op_pure (pv_len rfl rfl) ?_
  refine op_pure (pv_move (v := .int .i64 _) rfl) ?_
  refine xp_block ?_
  refine xp_loopB [2, 4, 5, 11, 12, 13, 14, 15, 16, 17, 18, 19, 20, 21, 22, 23, 24, 25] 0 (α := Nat) (fun k => [(11, .int .i64 k)]) (fun k => _) (fun k h_k => k ≤ ns.length) (fun k => ns.length - k) (0) ⟨rfl, trivial⟩ (rfl) (Nat.zero_le _) ?_
  rintro k T1 h_k E_k J_k
  refine goes_norm [] rfl ?_
  refine xp_seq ?_
  refine xp_region rfl ?_
  refine op_pure (pv_of (v := .bool _) rfl) ?_
  refine xp_seq ?_
  refine xp_cond rfl (fun hk => ?_) (fun hk => ?_)
  · skip
    have hkl : k < ns.length := ltI hk
    obtain ⟨g, off, hA, hc⟩ := (R.ext E_k).at (by omega) hkl
    obtain ⟨q1, q2, q3, q4⟩ := hn _ (List.getElem_mem hkl)
    refine xp_skip ?_
    refine xp_seq ?_
    refine xp_block ?_
    refine xp_seq ?_
    refine xp_region rfl ?_
    refine op_pure (pv_indexE rfl hA rfl rfl rfl (by omega) (by omega)) ?_
    refine op_loadA rfl rfl rfl rfl (hc) ?_
    refine op_alloc (cs := [_, _, _, _]) rfl rfl fun b4 hb4 => ?_
    refine wp_norm [_] rfl ?_
    refine op_storeP 0 (v := .agg #[.int .i64 _, .int .i64 _, .int .i64 _, .bool _]) (vs := [_, _, _, _]) (c' := [_, _, _, _]) rfl rfl rfl rfl rfl rfl rfl rfl rfl ?_
    refine wp_norm [_] rfl ?_
    refine xp_seq ?_
    refine xp_seq ?_
    refine xp_region rfl ?_
    refine op_pure (pv_fieldAddr rfl rfl rfl rfl 0 rfl) ?_
    refine op_loadP 0 (v := .int .i64 _) rfl rfl rfl rfl ?_
    refine op_fn (caps := []) (vs := [.int .i64 _, .int .i64 _, .int .i64 _]) rfl rfl rfl (bIn_yes q1 q2 h_k) ?_
    rintro _ e1 E1 rfl
    refine op_pure (pv_of (v := .bool _) rfl) ?_
    refine xp_condF rfl (rfl) ?_
    refine xp_skip ?_
    refine xp_seq ?_
    refine xp_region rfl ?_
    refine op_pure (pv_fieldAddr rfl rfl rfl rfl 1 rfl) ?_
    refine op_loadPA 0 (vs := [.int .i64 _, .int .i64 _]) rfl rfl rfl rfl rfl ?_
    refine op_fn (caps := []) (vs := [.agg #[.int .i64 _, .int .i64 _], .int .i64 _]) rfl rfl rfl (bRange_ok ⟨ns[k].k, ns[k].k⟩ 9 q3 (Int.le_refl _) q4 e1) ?_
    rintro _ e2 E2 rfl
    refine op_pure (pv_assign (v := .int .i64 _) rfl) ?_
    refine xp_seq ?_
    refine xp_region rfl ?_
    refine op_pure (pv_move (v := .int .i64 _) rfl) ?_
    refine op_pure (pv_of (v := .bool _) rfl) ?_
    refine xp_condF rfl (rfl) ?_
    refine xp_skip ?_
    refine xp_region rfl ?_
    refine op_pure (pv_arith rfl (by omega)) ?_
    refine op_pure (pv_move (v := .int .i64 _) rfl) ?_
    refine ⟨k + 1, ⟨rfl, trivial⟩, rfl, rfl, (Ext.trans (Ext.trans E_k E1) E2), fun h3 E3 => hkl, by first | omega | (dsimp only; omega), ?_⟩
    repeat (first | exact off_base _ _ _ | refine off_upd (by decide) ?_ | refine off_updL rfl ?_ | refine off_mix rfl ?_)
  · skip
    refine xp_exit ?_
    refine xp_seq ?_
    refine xp_region rfl ?_
    refine op_pure (pv_assign (v := .int .i64 _) rfl) ?_
    refine xp_ret ?_
    refine res_list (vs := [_]) Try.results49 ⟨resV_tmp rfl rfl, trivial⟩ fun V => ?_
    exact ⟨(Ext.trans E_k (ext_wl V)), rfl⟩
theorem ways_ok (ns : List NoteP) (ws : List Int) (W : WaysB ns ws) (hl : ns.length ≤ 6) (A WA : Option Addr) (cA cW : Nat) (h : AH) (R : Row h 4 noteC A ns) (RW : Row h 1 intC WA ws) : FnT Try.prog 50 #[.slice A ns.length cA, .slice WA ws.length cW] h (fun v _ => v = .int .i64 0) := by
  obtain ⟨W1, W2, W3⟩ := W
  refine call_body Try.func50 rfl Try.ntmps50 rfl ?_
  refine xp_seq ?_
  refine xp_region rfl ?_
  refine op_pure (pv_assign (v := .int .i64 _) rfl) ?_
  refine xp_seq ?_
  refine xp_block ?_
  refine xp_seq ?_
  refine xp_region rfl ?_
  refine op_pure (pv_move (v := .slice _ _ _) rfl) ?_
  refine op_pure (pv_len rfl rfl) ?_
  refine op_pure (pv_move (v := .slice _ _ _) rfl) ?_
  refine op_pure (pv_len rfl rfl) ?_
  refine op_pure (pv_of (v := .bool _) rfl) ?_
  refine op_pure (pv_assign (v := .bool _) rfl) ?_
  refine xp_condF rfl (decide_eq_false (by omega)) ?_
  refine xp_seq ?_
  refine xp_region rfl ?_
  refine op_pure (pv_move (v := .slice _ _ _) rfl) ?_
  refine op_pure (pv_len rfl rfl) ?_
  refine op_pure (pv_move (v := .slice _ _ _) rfl) ?_
  refine op_pure (pv_len rfl rfl) ?_
  refine op_pure (pv_of (v := .bool _) rfl) ?_
  refine op_pure (pv_assign (v := .bool _) rfl) ?_
  refine xp_condF rfl (decide_eq_false (by omega)) ?_
  refine xp_skip ?_
  refine xp_seq ?_
  refine xp_seq ?_
  refine xp_region rfl ?_
  refine op_pure (pv_move (v := .slice _ _ _) rfl) ?_
  refine op_pure (pv_len rfl rfl) ?_
  refine op_pure (pv_move (v := .int .i64 _) rfl) ?_
  refine xp_block ?_
  refine xp_loopB [4, 5, 6, 21, 22, 23, 24, 25, 26, 27, 28, 29, 30, 31, 32, 33, 34, 35, 36, 37, 38, 39, 40, 41, 42, 43, 44, 45, 46, 47, 48, 49, 50] 0 (α := Nat) (fun k => [(21, .int .i64 k)]) (fun k => _) (fun k h_k => k ≤ ws.length) (fun k => ws.length - k) (0) ⟨rfl, trivial⟩ (rfl) (Nat.zero_le _) ?_
  rintro k T1 h_k E_k J_k
  refine goes_norm [] rfl ?_
  refine xp_seq ?_
  refine xp_region rfl ?_
  refine op_pure (pv_of (v := .bool _) rfl) ?_
  refine xp_seq ?_
  refine xp_cond rfl (fun hk => ?_) (fun hk => ?_)
  · skip
    have hkl : k < ws.length := ltI hk
    have hkn : k < ns.length := by omega
    obtain ⟨g, off, hA, hc⟩ := (RW.ext E_k).at (by omega) hkl
    have q1 := W2 _ (List.getElem_mem hkl)
    refine xp_skip ?_
    refine xp_seq ?_
    refine xp_block ?_
    refine xp_seq ?_
    refine xp_region rfl ?_
    refine op_pure (pv_move (v := .int .i64 _) rfl) ?_
    refine op_pure (pv_indexE rfl hA rfl rfl rfl (by omega) (by omega)) ?_
    refine op_load (v := .int .i64 _) rfl rfl ((hc) 0 _ rfl) ?_
    refine op_pure (pv_assign (v := .int .i64 _) rfl) ?_
    refine op_pure (pv_assign (v := .int .i64 _) rfl) ?_
    refine xp_block ?_
    refine xp_seq ?_
    refine xp_region rfl ?_
    refine op_pure (pv_move (v := .int .i64 _) rfl) ?_
    refine op_fn (caps := []) (vs := [.int .i64 _, .int .i64 _, .int .i64 _]) rfl rfl rfl (bIn_yes (show 1 ≤ ws[k] by omega) (show ws[k] ≤ 2 by omega) h_k) ?_
    rintro _ e1 E1 rfl
    refine op_pure (pv_of (v := .bool _) rfl) ?_
    refine op_pure (pv_assign (v := .bool _) rfl) ?_
    refine xp_condF rfl (rfl) ?_
    refine xp_seq ?_
    refine xp_region rfl ?_
    refine op_pure (pv_move (v := .int .i64 _) rfl) ?_
    refine op_pure (pv_of (v := .bool _) rfl) ?_
    refine op_pure (pv_move (v := .bool _) rfl) ?_
    by_cases hk0 : k = 0
    · skip
      have g0 : decide ((k : Int) > 0) = false := decide_eq_false (by omega)
      refine guard_no rfl g0 ?_
      refine guard_no rfl g0 ?_
      refine guard_no rfl g0 ?_
      refine guard_no rfl g0 ?_
      refine guard_no rfl g0 ?_
      refine guard_no rfl g0 ?_
      refine guard_no rfl g0 ?_
      refine op_pure (pv_pickF rfl g0 (v := .bool _) rfl) ?_
      refine op_pure (pv_move (v := .bool _) rfl) ?_
      refine guard_no rfl rfl ?_
      refine guard_no rfl rfl ?_
      refine guard_no rfl rfl ?_
      refine guard_no rfl rfl ?_
      refine guard_no rfl rfl ?_
      refine guard_no rfl rfl ?_
      refine op_pure (pv_pickF rfl rfl (v := .bool _) rfl) ?_
      refine op_pure (pv_assign (v := .bool _) rfl) ?_
      refine xp_condF rfl (rfl) ?_
      refine xp_skip ?_
      refine xp_region rfl ?_
      refine op_pure (pv_arith rfl (by omega)) ?_
      refine op_pure (pv_move (v := .int .i64 _) rfl) ?_
      refine ⟨k + 1, ⟨rfl, trivial⟩, rfl, rfl, (Ext.trans E_k E1), fun h3 E3 => hkl, by first | omega | (dsimp only; omega), ?_⟩
      repeat (first | exact off_base _ _ _ | refine off_upd (by decide) ?_ | refine off_updL rfl ?_ | refine off_mix rfl ?_)
    · skip
      have g0 : decide ((k : Int) > 0) = true := decide_eq_true (by omega)
      have hkp : k - 1 < ws.length := by omega
      obtain ⟨g2, off2, hA2, hc2⟩ := (RW.ext (Ext.trans E_k E1)).at (by omega) hkp
      obtain ⟨g3, off3, hA3, hc3⟩ := (R.ext (Ext.trans E_k E1)).at (by omega) hkn
      refine guard_yes rfl g0 ?_
      refine op_pure (pv_move (v := .int .i64 _) rfl) ?_
      refine guard_yes rfl g0 ?_
      refine op_pure (pv_move (v := .slice _ _ _) rfl) ?_
      refine guard_yes rfl g0 ?_
      refine op_pure (pv_move (v := .int .i64 _) rfl) ?_
      refine guard_yes rfl g0 ?_
      refine op_pure (pv_val (v' := .int .i64 ((k - 1 : Nat) : Int)) (intE (by omega)) (pv_arith rfl (by omega))) ?_
      refine guard_yes rfl g0 ?_
      refine op_pure (pv_indexE rfl hA2 rfl rfl rfl (by omega) (by omega)) ?_
      refine guard_yes rfl g0 ?_
      refine op_load (v := .int .i64 _) rfl rfl ((hc2) 0 _ rfl) ?_
      have gw1 : ws.getD k 0 = ws[k] := by rw [List.getD_eq_getElem?_getD, List.getElem?_eq_getElem hkl]; rfl
      have gw2 : ws.getD (k - 1) 0 = ws[k - 1] := by rw [List.getD_eq_getElem?_getD, List.getElem?_eq_getElem hkp]; rfl
      have gn1 : ns.getD k ⟨0, 0, false⟩ = ns[k] := by rw [List.getD_eq_getElem?_getD, List.getElem?_eq_getElem hkn]; rfl
      have w3 := W3 k (by omega) hkn
      rw [gw1, gw2, gn1] at w3
      by_cases hne : ws[k] = ws[k - 1]
      · skip
        have g1 : (!decide (ws[k] = ws[k - 1])) = false := by simp [hne]
        refine guard_yes rfl g0 ?_
        refine op_pure (pv_of (v := .bool _) rfl) ?_
        refine op_pure (pv_pickT rfl g0 (v := .bool _) rfl) ?_
        refine op_pure (pv_move (v := .bool _) rfl) ?_
        refine guard_no rfl g1 ?_
        refine guard_no rfl g1 ?_
        refine guard_no rfl g1 ?_
        refine guard_no rfl g1 ?_
        refine guard_no rfl g1 ?_
        refine guard_no rfl g1 ?_
        refine op_pure (pv_pickF rfl g1 (v := .bool _) rfl) ?_
        refine op_pure (pv_assign (v := .bool _) rfl) ?_
        refine xp_condF rfl (rfl) ?_
        refine xp_skip ?_
        refine xp_region rfl ?_
        refine op_pure (pv_arith rfl (by omega)) ?_
        refine op_pure (pv_move (v := .int .i64 _) rfl) ?_
        refine ⟨k + 1, ⟨rfl, trivial⟩, rfl, rfl, (Ext.trans E_k E1), fun h3 E3 => hkl, by first | omega | (dsimp only; omega), ?_⟩
        repeat (first | exact off_base _ _ _ | refine off_upd (by decide) ?_ | refine off_updL rfl ?_ | refine off_mix rfl ?_)
      · skip
        have g1 : (!decide (ws[k] = ws[k - 1])) = true := by simp [hne]
        have hr : ns[k].rest = true := by
          cases hh : ns[k].rest with
          | true => rfl
          | false => exact absurd (w3 hh) hne
        refine guard_yes rfl g0 ?_
        refine op_pure (pv_of (v := .bool _) rfl) ?_
        refine op_pure (pv_pickT rfl g0 (v := .bool _) rfl) ?_
        refine op_pure (pv_move (v := .bool _) rfl) ?_
        refine guard_yes rfl g1 ?_
        refine op_pure (pv_move (v := .slice _ _ _) rfl) ?_
        refine guard_yes rfl g1 ?_
        refine op_pure (pv_move (v := .int .i64 _) rfl) ?_
        refine guard_yes rfl g1 ?_
        refine op_pure (pv_indexE rfl hA3 rfl rfl rfl (by omega) (by omega)) ?_
        refine guard_yes rfl g1 ?_
        refine op_pure (pv_fieldAddr rfl rfl rfl rfl _ rfl) ?_
        refine guard_yes rfl g1 ?_
        refine op_load (v := .bool _) rfl rfl (hc3 3 _ rfl) ?_
        refine guard_yes rfl g1 ?_
        refine op_pure (pv_of (v := .bool _) rfl) ?_
        refine op_pure (pv_pickT rfl g1 (v := .bool _) rfl) ?_
        refine op_pure (pv_assign (v := .bool _) rfl) ?_
        refine xp_condF rfl ((by rw [hr]; rfl)) ?_
        refine xp_skip ?_
        refine xp_region rfl ?_
        refine op_pure (pv_arith rfl (by omega)) ?_
        refine op_pure (pv_move (v := .int .i64 _) rfl) ?_
        refine ⟨k + 1, ⟨rfl, trivial⟩, rfl, rfl, (Ext.trans E_k E1), fun h3 E3 => hkl, by first | omega | (dsimp only; omega), ?_⟩
        repeat (first | exact off_base _ _ _ | refine off_upd (by decide) ?_ | refine off_updL rfl ?_ | refine off_mix rfl ?_)
  · skip
    refine xp_exit ?_
    refine xp_seq ?_
    refine xp_region rfl ?_
    refine op_pure (pv_assign (v := .int .i64 _) rfl) ?_
    refine xp_ret ?_
    refine res_list (vs := [_]) Try.results50 ⟨resV_tmp rfl rfl, trivial⟩ fun V => ?_
    exact ⟨(Ext.trans E_k (ext_wl V)), rfl⟩
/-- How a bellows works, one way or the other. -/
def worksV (w : Int) : Value := if w = 1 then .agg #[.func (.func 110) #[] #[], .func (.func 111) #[] #[]] else .agg #[.func (.func 112) #[] #[], .func (.func 113) #[] #[]]
end
end Go.Proofs.Ytlfbcimcehcomaa
/- Walks of package bellow: how it works; sets of airs. Conditions: as each theorem states. -/
namespace Go.Proofs.Ytlfbcimcehcomaa
open Go Go.HL Go.Proofs Go.Wx Go.Rd Go.Bw
section
variable [Lvl]
set_option maxRecDepth 100000
theorem works_ok (w : Int) (h : AH) : FnT Try.prog 87 #[.int .i64 w] h (fun v _ => v = worksV w) := by
  refine call_body Try.func87 rfl Try.ntmps87 rfl ?_
  refine xp_seq ?_
  refine xp_region rfl ?_
  refine op_alloc (cs := [_, _]) rfl rfl fun b2 hb2 => ?_
  refine wp_norm [_] rfl ?_
  refine xp_seq ?_
  refine xp_seq ?_
  refine xp_region rfl ?_
  refine op_pure (pv_move (v := .int .i64 _) rfl) ?_
  refine op_pure (pv_of (v := .bool _) rfl) ?_
  refine xp_cond rfl (fun hw => ?_) (fun hw => ?_)
  · skip
    have e : w = 1 := by simpa using hw
    subst e
    refine xp_seq ?_
    refine xp_region rfl ?_
    refine op_pure (pv_build (zc := [_, _]) (vs := [(0, _), (1, _)]) (cs := [_, _]) rfl rfl rfl rfl rfl rfl) ?_
    refine op_storeP 0 (v := .agg #[_, _]) (vs := [_, _]) (c' := [_, _]) rfl rfl rfl rfl rfl rfl rfl rfl rfl ?_
    refine wp_norm [_] rfl ?_
    refine xp_ret ?_
    refine res_list (vs := [_]) Try.results87 ⟨resV_agg 0 rfl rfl rfl rfl rfl (vs := [_, _]) rfl, trivial⟩ fun V => ?_
    exact ⟨(ext_wl V), rfl⟩
  · skip
    have e : w ≠ 1 := by simpa using hw
    refine xp_skip ?_
    refine xp_seq ?_
    refine xp_region rfl ?_
    refine op_pure (pv_build (zc := [_, _]) (vs := [(0, _), (1, _)]) (cs := [_, _]) rfl rfl rfl rfl rfl rfl) ?_
    refine op_storeP 0 (v := .agg #[_, _]) (vs := [_, _]) (c' := [_, _]) rfl rfl rfl rfl rfl rfl rfl rfl rfl ?_
    refine wp_norm [_] rfl ?_
    refine xp_ret ?_
    refine res_list (vs := [_]) Try.results87 ⟨resV_agg 0 rfl rfl rfl rfl rfl (vs := [_, _]) rfl, trivial⟩ fun V => ?_
    exact ⟨(ext_wl V), by unfold worksV; rw [if_neg e]; rfl⟩
theorem after1_ok (a m : Int) (ha : -10000 ≤ a ∧ a ≤ 10000) (hm : -10000 ≤ m ∧ m ≤ 10000) (h : AH) : FnT Try.prog 110 #[.int .i64 a, .int .i64 m] h (fun v _ => v = .int .i64 (a - m)) := by
  refine call_body Try.func110 rfl Try.ntmps110 rfl ?_
  refine xp_seq ?_
  refine xp_region rfl ?_
  refine op_pure (pv_assign (v := .int .i64 _) rfl) ?_
  refine xp_seq ?_
  refine xp_region rfl ?_
  refine op_pure (pv_move (v := .int .i64 _) rfl) ?_
  refine op_pure (pv_move (v := .int .i64 _) rfl) ?_
  refine op_pure (pv_arith rfl (by omega)) ?_
  refine op_pure (pv_assign (v := .int .i64 _) rfl) ?_
  refine xp_ret ?_
  refine res_list (vs := [_]) Try.results110 ⟨resV_tmp rfl rfl, trivial⟩ fun V => ?_
  exact ⟨(ext_wl V), rfl⟩
theorem after3_ok (a m : Int) (ha : -10000 ≤ a ∧ a ≤ 10000) (hm : -10000 ≤ m ∧ m ≤ 10000) (h : AH) : FnT Try.prog 112 #[.int .i64 a, .int .i64 m] h (fun v _ => v = .int .i64 (a + m)) := by
  refine call_body Try.func112 rfl Try.ntmps112 rfl ?_
  refine xp_seq ?_
  refine xp_region rfl ?_
  refine op_pure (pv_assign (v := .int .i64 _) rfl) ?_
  refine xp_seq ?_
  refine xp_region rfl ?_
  refine op_pure (pv_move (v := .int .i64 _) rfl) ?_
  refine op_pure (pv_move (v := .int .i64 _) rfl) ?_
  refine op_pure (pv_arith rfl (by omega)) ?_
  refine op_pure (pv_assign (v := .int .i64 _) rfl) ?_
  refine xp_ret ?_
  refine res_list (vs := [_]) Try.results112 ⟨resV_tmp rfl rfl, trivial⟩ fun V => ?_
  exact ⟨(ext_wl V), rfl⟩
/-- What is done with an air. -/
def aftV (w : Int) : Value := if w = 1 then .func (.func 110) #[] #[] else .func (.func 112) #[] #[]
theorem aftV_call (w a m : Int) (ha : -10000 ≤ a ∧ a ≤ 10000) (hm : -10000 ≤ m ∧ m ≤ 10000) (h : AH) : CallV Try.prog (aftV w) [.int .i64 a, .int .i64 m] h (fun v h' => Ext h h' ∧ v = .int .i64 (aftI w a m)) (fun _ _ => False) := by
  unfold aftV aftI
  by_cases e : w = 1
  · rw [if_pos e, if_pos e]
    exact callV_fst (fs := []) rfl (after1_ok a m ha hm h)
  · rw [if_neg e, if_neg e]
    exact callV_fst (fs := []) rfl (after3_ok a m ha hm h)
theorem pv_aft {n : Nat} {S : Sl} {d : Option Tmp} {ty : TypeId} {ps : String} {af : Array Edge} {x : Operand} {w : Int} (hx : ev n S x = worksV w) : pev Try.prog (execOp (ev n S) ⟨d, .field 168 x 0, ty, ps, af, none⟩) = some (.value (aftV w)) := by
  unfold worksV at hx
  unfold aftV
  split at hx
  · rw [if_pos ‹_›]
    simp only [execOp, hx]
    rfl
  · rw [if_neg ‹_›]
    simp only [execOp, hx]
    rfl
theorem airWith_ok (m : Nat) (hm : m ≤ 200) (h : AH) : FnT Try.prog 115 #[.agg emptyA.toArray, .int .i64 m] h (fun v _ => v = .agg (oneA m).toArray) := by
  have hq : m / 64 < 4 := by omega
  have hlt : 2 ^ (m % 64) < 2 ^ 64 := Nat.pow_lt_pow_right (by decide) (Nat.mod_lt _ (by decide))
  unfold emptyA
  refine call_body Try.func115 rfl Try.ntmps115 rfl ?_
  refine xp_seq ?_
  refine xp_region rfl ?_
  refine op_box (v := .agg #[.int .u64 _, .int .u64 _, .int .u64 _, .int .u64 _]) (cs := [_, _, _, _]) rfl rfl fun b2 hb2 => ?_
  refine wp_norm [_] rfl ?_
  refine op_alloc (cs := [_, _, _, _]) rfl rfl fun b4 hb4 => ?_
  refine wp_norm [_, _] rfl ?_
  refine xp_seq ?_
  refine xp_dw [] rfl rfl rfl ?_
  refine dw_pure (i := 0) rfl (by decide +kernel) (pv_move (v := .int .i64 _) rfl) ?_
  refine dw_pure (i := 1) rfl (by decide +kernel) (pv_quoT (c := ((m / 64 : Nat) : Int)) rfl rfl (by decide) (by rw [Int.tdiv_eq_ediv_of_nonneg (by omega)]; omega) (by omega)) ?_
  refine dw_pure (i := 2) rfl (by decide +kernel) (pv_indexA (m := 1) rfl rfl rfl rfl (by omega) (by omega)) ?_
  refine dw_load (i := 3) rfl (by decide +kernel) ?_
  refine op_loadP 0 (v := .int .u64 0) rfl rfl rfl (emptyAt (m / 64) hq) ?_
  refine dw_pure (i := 4) rfl (by decide +kernel) (pv_move (v := .int .i64 _) rfl) ?_
  refine dw_pure (i := 5) rfl (by decide +kernel) (pv_val (v' := .int .i64 ((m % 64 : Nat) : Int)) (intE (by rw [Int.tmod_eq_emod_of_nonneg (by omega)]; omega)) (pv_remT rfl rfl (by decide))) ?_
  refine dw_pure (i := 6) rfl (by decide +kernel) (pv_shlU 1 (m % 64) rfl rfl rfl rfl (Nat.mod_lt _ (by decide)) (by rw [Nat.one_mul]; exact hlt)) ?_
  refine dw_pure (i := 7) rfl (by decide +kernel) (pv_val (u64_or 0 (1 * 2 ^ (m % 64)) (by decide) (by rw [Nat.one_mul]; exact hlt)) (pv_of rfl)) ?_
  refine dw_pure (i := 8) rfl (by decide +kernel) (pv_indexA (m := 1) rfl rfl rfl rfl (by omega) (by omega)) ?_
  refine dw_last (i := 9) rfl (by decide +kernel) (by decide +kernel) ?_
  refine op_storeP 0 (v := .int .u64 _) (vs := [_]) (c' := oneA m) rfl rfl rfl rfl rfl rfl (Nat.ble_eq_true_of_le (show 0 + ((m / 64 : Nat) : Int).toNat * 1 + 1 ≤ 4 by omega)) rfl (oneWr hm (by rw [Nat.zero_or, Nat.one_mul])) ?_
  refine dw_norm [_, _] rfl ?_
  refine dw_end rfl ?_
  refine xp_seq ?_
  refine xp_region rfl ?_
  refine op_loadPA 0 (vs := [.int .u64 _, .int .u64 _, .int .u64 _, .int .u64 _]) rfl rfl rfl rfl rfl ?_
  refine op_storeP 1 (v := .agg #[.int .u64 _, .int .u64 _, .int .u64 _, .int .u64 _]) (vs := [_, _, _, _]) (c' := [_, _, _, _]) rfl rfl rfl rfl rfl rfl rfl rfl rfl ?_
  refine wp_norm [_, _] rfl ?_
  refine xp_ret ?_
  refine res_list (vs := [_]) Try.results115 ⟨resV_agg 1 rfl rfl rfl rfl rfl (vs := [.int .u64 _, .int .u64 _, .int .u64 _, .int .u64 _]) rfl, trivial⟩ fun V => ?_
  exact ⟨(ext_wl V), rfl⟩
theorem airHas_ok (m a : Nat) (hm : m ≤ 200) (ha : a ≤ 200) (h : AH) : FnT Try.prog 116 #[.agg (oneA m).toArray, .int .i64 a] h (fun v _ => v = .bool (decide (a = m))) := by
  have hq : a / 64 < 4 := by omega
  unfold oneA
  refine call_body Try.func116 rfl Try.ntmps116 rfl ?_
  refine xp_seq ?_
  refine xp_region rfl ?_
  refine op_box (v := .agg #[.int .u64 _, .int .u64 _, .int .u64 _, .int .u64 _]) (cs := [_, _, _, _]) rfl rfl fun b2 hb2 => ?_
  refine wp_norm [_] rfl ?_
  refine op_pure (pv_assign (v := .bool _) rfl) ?_
  refine xp_seq ?_
  refine xp_region rfl ?_
  refine op_pure (pv_move (v := .int .i64 _) rfl) ?_
  refine op_pure (pv_quoT (c := ((a / 64 : Nat) : Int)) rfl rfl (by decide) (by rw [Int.tdiv_eq_ediv_of_nonneg (by omega)]; omega) (by omega)) ?_
  refine op_pure (pv_indexA (m := 1) rfl rfl rfl rfl (by omega) (by omega)) ?_
  refine op_loadP 0 (v := .int .u64 (wordA m (a / 64) : Nat)) rfl rfl rfl (oneAt m (a / 64) hq) ?_
  refine op_pure (pv_move (v := .int .i64 _) rfl) ?_
  refine op_pure (pv_val (v' := .int .i64 ((a % 64 : Nat) : Int)) (intE (by rw [Int.tmod_eq_emod_of_nonneg (by omega)]; omega)) (pv_remT rfl rfl (by decide))) ?_
  refine op_pure (pv_shrU (wordA m (a / 64)) (a % 64) rfl rfl rfl rfl (Nat.mod_lt _ (by decide))) ?_
  refine op_pure (pv_val (u64_and (wordA m (a / 64) / 2 ^ (a % 64)) 1 (Nat.lt_of_le_of_lt (Nat.div_le_self _ _) (wordA_lt m (a / 64))) (by decide)) (pv_of rfl)) ?_
  refine op_pure (pv_of (v := .bool _) rfl) ?_
  refine op_pure (pv_assign (v := .bool _) rfl) ?_
  refine xp_ret ?_
  refine res_list (vs := [_]) Try.results116 ⟨resV_tmp rfl rfl, trivial⟩ fun V => ?_
  refine ⟨(ext_wl V), boolE ?_⟩
  rw [shr_bit, wordA_bit]
  by_cases e : a = m
  · simp [e]
  · simp [e]
end
end Go.Proofs.Ytlfbcimcehcomaa
/- Walks of package bellow: the airs of a piece; whether it must be played. Conditions: as each theorem states. -/
namespace Go.Proofs.Ytlfbcimcehcomaa
open Go Go.HL Go.Proofs Go.Wx Go.Rd Go.Bw
section
variable [Lvl]
set_option maxRecDepth 100000
def plV (full air : Int) (A0 A1 PA : Option Addr) (c0 c1 n cP : Nat) : Value := .agg #[.int .i64 full, .int .i64 air, .int .i64 air, .slice A0 0 c0, .slice A1 0 c1, .slice PA n cP, .int .i64 0]
set_option maxHeartbeats 4000000 in
theorem levels_ok (full air : Int) (h0 : 0 ≤ air ∧ air ≤ full) (hf : full ≤ 200) (ns : List NoteP) (hn : ∀ n ∈ ns, NoteB n) (hl : ns.length ≤ 6) (ws : List Int) (W : WaysB ns ws) (A0 A1 PA WA : Option Addr) (c0 c1 cP cW : Nat) (h : AH) (R : Row h 4 noteC PA ns) (RW : Row h 1 intC WA ws) :
    FnT Try.prog 52 #[plV full air A0 A1 PA c0 c1 ns.length cP, .slice WA ws.length cW] h (fun v h' => ∃ u, v = u ∧ SlR h' 2 rgC (lvls air ns ws ns.length) u) := by
  obtain ⟨W1, W2, W3⟩ := W
  unfold plV
  refine call_body Try.func52 rfl Try.ntmps52 rfl ?_
  refine xp_seq ?_
  refine xp_region rfl ?_
  refine op_box (v := .agg #[.int .i64 _, .int .i64 _, .int .i64 _, .slice _ _ _, .slice _ _ _, .slice _ _ _, .int .i64 _]) (cs := [_, _, _, _, _, _, _]) rfl rfl fun b2 hb2 => ?_
  refine wp_norm [_] rfl ?_
  refine op_pure (pv_assign (v := .slice _ _ _) rfl) ?_
  refine xp_seq ?_
  refine xp_region rfl ?_
  refine op_pure (pv_fieldAddr rfl rfl rfl rfl 0 rfl) ?_
  refine op_pure (pv_fieldAddr rfl rfl rfl rfl 1 rfl) ?_
  refine op_loadPA 0 (vs := [.int .i64 _, .int .i64 _]) rfl rfl rfl rfl rfl ?_
  refine op_alloc (cs := [_, _]) rfl rfl fun b5 hb5 => ?_
  refine wp_norm [_, _] rfl ?_
  refine op_storeP 1 (v := .agg #[.int .i64 _, .int .i64 _]) (vs := [_, _]) (c' := [_, _]) rfl rfl rfl rfl rfl rfl rfl rfl rfl ?_
  refine wp_norm [_, _] rfl ?_
  refine xp_seq ?_
  refine xp_region rfl ?_
  refine op_pure (pv_assign (v := .slice _ _ _) rfl) ?_
  refine xp_seq ?_
  refine xp_seq ?_
  refine xp_region rfl ?_
  refine op_pure (pv_fieldAddr rfl rfl rfl rfl 5 rfl) ?_
  refine op_loadP 0 (v := .slice _ _ _) rfl rfl rfl rfl ?_
  refine op_pure (pv_len rfl rfl) ?_
  refine op_pure (pv_move (v := .int .i64 _) rfl) ?_
  refine xp_block ?_
  refine goes_more ?_
  refine goes_norm [_, _, _] rfl ?_
  refine xp_loopL [6, 7, 8, 9, 10, 11, 18, 19, 20, 21, 22, 23, 24, 25, 26, 27, 28, 29, 30, 31, 32, 33, 34, 35, 36, 37, 38, 39, 40, 41, 42, 43, 44, 45, 46, 47, 48, 49, 50, 51, 52, 53, 54, 55, 56, 57, 58, 59, 60, 61, 62, 63, 64, 65, 66, 67, 68, 69, 70, 71, 72, 73, 74] 3 (α := Nat × Int × Acc) (fun ⟨i, x, a⟩ => [(18, .int .i64 i), (6, .slice a.A a.n a.c)]) (fun ⟨i, x, a⟩ L => (L.set 1 (some (b5, .cells #[.int .i64 x, .int .i64 x] 58 (0, 0)))).set 2 (a.p)) (fun ⟨i, x, a⟩ h_i => i ≤ ns.length ∧ x = airK air ns ws i ∧ AccR 58 2 ((lvls air ns ws i).flatMap rgC) a) (fun ⟨i, x, a⟩ => ns.length - i) ((0, air, acc0)) ⟨rfl, rfl, trivial⟩ (rfl) (⟨Nat.zero_le _, rfl, accR0⟩) ?_
  rintro ⟨i, x, a⟩ T1 h_i E_i J_i
  refine goes_norm [_, _, _] rfl ?_
  obtain ⟨hi0, hx, ha⟩ := J_i
  subst hx
  have B := airK_b (ws := ws) (ns := ns) (air := air) ⟨by omega, by omega⟩ hn i
  refine xp_seq ?_
  refine xp_region rfl ?_
  refine op_pure (pv_of (v := .bool _) rfl) ?_
  refine xp_seq ?_
  refine xp_cond rfl (fun hk => ?_) (fun hk => ?_)
  · skip
    have hkl : i < ns.length := ltI hk
    have hkw : i < ws.length := by omega
    obtain ⟨g, off, hA, hc⟩ := (R.ext E_i).at (by omega) hkl
    obtain ⟨g2, off2, hA2, hc2⟩ := (RW.ext E_i).at (by omega) hkw
    have NB := hn _ (List.getElem_mem hkl)
    have mb := mul_b NB
    obtain ⟨s1, s2, k0, k9⟩ := NB
    refine xp_skip ?_
    refine xp_seq ?_
    refine xp_block ?_
    refine xp_seq ?_
    refine xp_region rfl ?_
    refine op_pure (pv_move (v := .int .i64 _) rfl) ?_
    refine op_pure (pv_indexE rfl hA rfl rfl rfl (by omega) (by omega)) ?_
    refine op_loadA rfl rfl rfl rfl (hc) ?_
    refine op_alloc (cs := [_, _, _, _]) rfl rfl fun b8 hb8 => ?_
    refine wp_norm [_, _, _, _] rfl ?_
    refine op_pure (pv_assign (v := .int .i64 _) rfl) ?_
    refine op_storeP 3 (v := .agg #[.int .i64 _, .int .i64 _, .int .i64 _, .bool _]) (vs := [_, _, _, _]) (c' := [_, _, _, _]) rfl rfl rfl rfl rfl rfl rfl rfl rfl ?_
    refine wp_norm [_, _, _, _] rfl ?_
    refine xp_seq ?_
    refine xp_region rfl ?_
    refine op_pure (pv_move (v := .slice _ _ _) rfl) ?_
    refine op_pure (pv_move (v := .int .i64 _) rfl) ?_
    refine op_pure (pv_indexE rfl hA2 rfl rfl rfl (by omega) (by omega)) ?_
    refine op_load (v := .int .i64 _) rfl rfl ((hc2) 0 _ rfl) ?_
    refine op_fn (caps := []) (vs := [.int .i64 _]) rfl rfl rfl (works_ok _ h_i) ?_
    rintro _ f1 F1 rfl
    refine op_pure (pv_aft rfl) ?_
    have e0 : ns[i].sec * (ns[i].k + 0) = ns[i].sec * ns[i].k := by rw [Int.add_zero]
    have gw1 : ws.getD i 0 = ws[i] := by rw [List.getD_eq_getElem?_getD, List.getElem?_eq_getElem hkw]; rfl
    have gn1 : ns.getD i ⟨0, 0, false⟩ = ns[i] := by rw [List.getD_eq_getElem?_getD, List.getElem?_eq_getElem hkl]; rfl
    have ea : aftI ws[i] (airK air ns ws i) (ns[i].sec * (ns[i].k + 0)) = airK air ns ws (i + 1) := by rw [e0]; show _ = aftI (ws.getD i 0) _ _; rw [gw1, gn1]
    refine op_pure (pv_assign (v := _) rfl) ?_
    refine xp_seq ?_
    refine xp_dw [] rfl rfl rfl ?_
    refine dw_pure (i := 0) rfl (by decide +kernel) (pv_fieldAddr rfl rfl rfl rfl 0 rfl) ?_
    refine dw_load (i := 1) rfl (by decide +kernel) ?_
    refine op_loadP 3 (v := .int .i64 _) rfl rfl rfl rfl ?_
    refine dw_pure (i := 2) rfl (by decide +kernel) (pv_fieldAddr rfl rfl rfl rfl 1 rfl) ?_
    refine dw_pure (i := 3) rfl (by decide +kernel) (pv_fieldAddr rfl rfl rfl rfl 1 rfl) ?_
    refine dw_load (i := 4) rfl (by decide +kernel) ?_
    refine op_loadP 3 (v := .int .i64 _) rfl rfl rfl rfl ?_
    refine dw_pure (i := 5) rfl (by decide +kernel) (pv_fieldAddr rfl rfl rfl rfl 6 rfl) ?_
    refine dw_load (i := 6) rfl (by decide +kernel) ?_
    refine op_loadP 0 (v := .int .i64 _) rfl rfl rfl rfl ?_
    refine dw_pure (i := 7) rfl (by decide +kernel) (pv_arith rfl (by omega)) ?_
    refine dw_pure (i := 8) rfl (by decide +kernel) (pv_arith rfl (by omega)) ?_
    refine dw_pure (i := 9) rfl (by decide +kernel) (pv_fieldAddr rfl rfl rfl rfl 0 rfl) ?_
    refine dw_load (i := 10) rfl (by decide +kernel) ?_
    refine op_loadP 3 (v := .int .i64 _) rfl rfl rfl rfl ?_
    refine dw_pure (i := 11) rfl (by decide +kernel) (pv_fieldAddr rfl rfl rfl rfl 1 rfl) ?_
    refine dw_pure (i := 12) rfl (by decide +kernel) (pv_fieldAddr rfl rfl rfl rfl 2 rfl) ?_
    refine dw_load (i := 13) rfl (by decide +kernel) ?_
    refine op_loadP 3 (v := .int .i64 _) rfl rfl rfl rfl ?_
    refine dw_pure (i := 14) rfl (by decide +kernel) (pv_fieldAddr rfl rfl rfl rfl 6 rfl) ?_
    refine dw_load (i := 15) rfl (by decide +kernel) ?_
    refine op_loadP 0 (v := .int .i64 _) rfl rfl rfl rfl ?_
    refine dw_pure (i := 16) rfl (by decide +kernel) (pv_arith rfl (by omega)) ?_
    refine dw_pure (i := 17) rfl (by decide +kernel) (pv_arith rfl (by omega)) ?_
    refine dw_pure (i := 18) rfl (by decide +kernel) (pv_assign (v := .int .i64 _) rfl) ?_
    refine dw_pure (i := 19) rfl (by decide +kernel) (pv_assign (v := .int .i64 _) rfl) ?_
    refine dw_end rfl ?_
    refine xp_seq ?_
    refine xp_dw [] rfl rfl rfl ?_
    refine dw_pure (i := 0) rfl (by decide +kernel) (pv_move (v := _) rfl) ?_
    refine dw_pure (i := 1) rfl (by decide +kernel) (pv_fieldAddr rfl rfl rfl rfl 0 rfl) ?_
    refine dw_load (i := 2) rfl (by decide +kernel) ?_
    refine op_loadP 1 (v := .int .i64 _) rfl rfl rfl rfl ?_
    refine dw_pure (i := 3) rfl (by decide +kernel) (pv_move (v := .int .i64 _) rfl) ?_
    refine dw_pure (i := 5) rfl (by decide +kernel) (pv_move (v := _) rfl) ?_
    refine dw_pure (i := 6) rfl (by decide +kernel) (pv_fieldAddr rfl rfl rfl rfl 0 rfl) ?_
    refine dw_load (i := 7) rfl (by decide +kernel) ?_
    refine op_loadP 1 (v := .int .i64 _) rfl rfl rfl rfl ?_
    refine dw_pure (i := 8) rfl (by decide +kernel) (pv_move (v := .int .i64 _) rfl) ?_
    refine dw_pure (i := 11) rfl (by decide +kernel) (pv_move (v := _) rfl) ?_
    refine dw_pure (i := 12) rfl (by decide +kernel) (pv_fieldAddr rfl rfl rfl rfl 1 rfl) ?_
    refine dw_load (i := 13) rfl (by decide +kernel) ?_
    refine op_loadP 1 (v := .int .i64 _) rfl rfl rfl rfl ?_
    refine dw_pure (i := 14) rfl (by decide +kernel) (pv_move (v := .int .i64 _) rfl) ?_
    refine dw_pure (i := 16) rfl (by decide +kernel) (pv_move (v := _) rfl) ?_
    refine dw_pure (i := 17) rfl (by decide +kernel) (pv_fieldAddr rfl rfl rfl rfl 1 rfl) ?_
    refine dw_load (i := 18) rfl (by decide +kernel) ?_
    refine op_loadP 1 (v := .int .i64 _) rfl rfl rfl rfl ?_
    refine dw_pure (i := 19) rfl (by decide +kernel) (pv_move (v := .int .i64 _) rfl) ?_
    refine dw_eff (i := 4) rfl (by decide +kernel) ?_
    refine op_callV (y := aftV ws[i]) (vs := [.int .i64 (airK air ns ws i), .int .i64 (ns[i].sec * (ns[i].k + 0))]) rfl rfl (fun _ => aftV_call ws[i] (airK air ns ws i) (ns[i].sec * (ns[i].k + 0)) (by omega) (by omega) f1) ?_
    rintro _ q1 Q1 rfl
    refine ⟨ext_wlm Q1 _, ?_⟩
    refine dw_eff (i := 9) rfl (by decide +kernel) ?_
    refine op_callV (y := aftV ws[i]) (vs := [.int .i64 (airK air ns ws i), .int .i64 (ns[i].sec * (ns[i].k + 0))]) rfl rfl (fun _ => aftV_call ws[i] (airK air ns ws i) (ns[i].sec * (ns[i].k + 0)) (by omega) (by omega) q1) ?_
    rintro _ q2 Q2 rfl
    refine ⟨ext_wlm Q2 _, ?_⟩
    refine dw_pure (i := 10) rfl (by decide +kernel) (pv_val (v' := .int .i64 (airK air ns ws (i + 1))) (intE (by rw [ea]; omega)) (pv_min rfl rfl)) ?_
    refine dw_eff (i := 15) rfl (by decide +kernel) ?_
    refine op_callV (y := aftV ws[i]) (vs := [.int .i64 (airK air ns ws i), .int .i64 (ns[i].sec * (ns[i].k + 0))]) rfl rfl (fun _ => aftV_call ws[i] (airK air ns ws i) (ns[i].sec * (ns[i].k + 0)) (by omega) (by omega) q2) ?_
    rintro _ q3 Q3 rfl
    refine ⟨ext_wlm Q3 _, ?_⟩
    refine dw_last (i := 20) rfl (by decide +kernel) (by decide +kernel) ?_
    refine op_callV (y := aftV ws[i]) (vs := [.int .i64 (airK air ns ws i), .int .i64 (ns[i].sec * (ns[i].k + 0))]) rfl rfl (fun _ => aftV_call ws[i] (airK air ns ws i) (ns[i].sec * (ns[i].k + 0)) (by omega) (by omega) q3) ?_
    rintro _ q4 Q4 rfl
    refine dw_pure (i := 21) rfl (by decide +kernel) (pv_val (v' := .int .i64 (airK air ns ws (i + 1))) (intE (by rw [ea]; omega)) (pv_max rfl rfl)) ?_
    refine dw_pure (i := 22) rfl (by decide +kernel) (pv_build (zc := [_, _]) (vs := [(0, .int .i64 _), (1, .int .i64 _)]) (cs := [_, _]) rfl rfl rfl rfl rfl rfl) ?_
    refine dw_last (i := 23) rfl (by decide +kernel) (by decide +kernel) ?_
    refine op_storeP 1 (v := .agg #[.int .i64 _, .int .i64 _]) (vs := [_, _]) (c' := [_, _]) rfl rfl rfl rfl rfl rfl rfl rfl rfl ?_
    refine dw_norm [_, _, _, _] rfl ?_
    refine dw_end rfl ?_
    refine xp_region rfl ?_
    refine op_pure (pv_move (v := .slice _ _ _) rfl) ?_
    refine op_loadPA 1 (vs := [.int .i64 _, .int .i64 _]) rfl rfl rfl rfl rfl ?_
    refine op_buildSlice (zc := [_, _]) (vs := [(0, .agg #[.int .i64 _, .int .i64 _])]) (cs := [_, _]) rfl rfl rfl rfl rfl rfl rfl fun b72 hb72 => ?_
    refine wp_norm [_, _, _, _, _] rfl ?_
    have hal := lvls_len air ns ws i
    refine op_appendR 2 ha rfl rfl rfl (fun V => rdP V (i := 4) rfl) rfl rfl rfl rfl rfl rfl rfl rfl rfl (by omega) rfl (by rw [flat_len (m := 2) (fun _ _ => rfl), hal]; simp; omega) fun a2 h2a E2a ha2 => ?_
    refine wp_norm [_, _, _, _, _] rfl ?_
    refine op_pure (pv_assign (v := .slice _ _ _) rfl) ?_
    refine xp_region rfl ?_
    refine op_pure (pv_arith rfl (by omega)) ?_
    refine op_pure (pv_move (v := .int .i64 _) rfl) ?_
    refine ⟨(i + 1, airK air ns ws (i + 1), a2), ⟨rfl, rfl, trivial⟩, rfl, rfl, (Ext.trans (Ext.trans (Ext.trans (Ext.trans (Ext.trans (Ext.trans E_i F1) Q1) Q2) Q3) Q4) E2a), fun h3 E3 => ⟨hkl, rfl, by rw [lvls_succ, List.flatMap_append]; exact ha2⟩, by first | omega | (dsimp only; omega), ?_⟩
    repeat (first | exact off_base _ _ _ | refine off_upd (by decide) ?_ | refine off_updL rfl ?_ | refine off_mix rfl ?_)
  · skip
    have hke : i = ns.length := by have := geI hk; omega
    subst hke
    refine xp_exit ?_
    refine xp_seq ?_
    refine xp_region rfl ?_
    refine op_pure (pv_move (v := .slice _ _ _) rfl) ?_
    refine op_pure (pv_assign (v := .slice _ _ _) rfl) ?_
    refine xp_ret ?_
    refine res_list (vs := [_]) Try.results52 ⟨resV_tmp rfl rfl, trivial⟩ fun V => ?_
    exact ⟨(Ext.trans E_i (ext_wl V)), _, rfl, AccP.row (i := 2) ha (by omega) (fun _ _ => rfl) V rfl⟩
end
end Go.Proofs.Ytlfbcimcehcomaa
/- Walks of package bellow: whether a piece must be playable. Conditions: as each theorem states. -/
namespace Go.Proofs.Ytlfbcimcehcomaa
open Go Go.HL Go.Proofs Go.Wx Go.Rd Go.Bw
section
variable [Lvl]
set_option maxRecDepth 100000
set_option maxHeartbeats 4000000 in
theorem must_ok (full air : Int) (h0 : 0 ≤ air ∧ air ≤ full) (hf : full ≤ 200) (ns : List NoteP) (hn : ∀ n ∈ ns, NoteB n) (hl : ns.length ≤ 6) (ws : List Int) (W : WaysB ns ws) (A0 A1 PA WA : Option Addr) (c0 c1 cP cW : Nat) (h : AH) (R : Row h 4 noteC PA ns) (RW : Row h 1 intC WA ws) :
    FnT Try.prog 90 #[plV full air A0 A1 PA c0 c1 ns.length cP, .slice WA ws.length cW] h (fun v _ => v = .bool (fineK full air ns ws ns.length)) := by
  unfold plV
  refine call_body Try.func90 rfl Try.ntmps90 rfl ?_
  refine xp_seq ?_
  refine xp_region rfl ?_
  refine op_box (v := .agg #[.int .i64 _, .int .i64 _, .int .i64 _, .slice _ _ _, .slice _ _ _, .slice _ _ _, .int .i64 _]) (cs := [_, _, _, _, _, _, _]) rfl rfl fun b2 hb2 => ?_
  refine wp_norm [_] rfl ?_
  refine op_pure (pv_assign (v := .bool _) rfl) ?_
  refine xp_seq ?_
  refine xp_seq ?_
  refine xp_region rfl ?_
  refine op_loadPA 0 (vs := [.int .i64 _, .int .i64 _, .int .i64 _, .slice _ _ _, .slice _ _ _, .slice _ _ _, .int .i64 _]) rfl rfl rfl rfl rfl ?_
  refine op_pure (pv_move (v := .slice _ _ _) rfl) ?_
  refine op_fn (caps := []) (vs := [.agg #[.int .i64 _, .int .i64 _, .int .i64 _, .slice _ _ _, .slice _ _ _, .slice _ _ _, .int .i64 _], .slice _ _ _]) rfl rfl rfl (levels_ok full air h0 hf ns hn hl ws W A0 A1 PA WA c0 c1 cP cW h (R.ext (Ext.refl _)) (RW.ext (Ext.refl _))) ?_
  rintro _ f1 F1 ⟨_, rfl, A, c, rfl, RL⟩
  rw [lvls_len]
  refine op_pure (pv_len rfl rfl) ?_
  refine op_pure (pv_move (v := .int .i64 _) rfl) ?_
  refine xp_block ?_
  refine xp_loopB [4, 6, 11, 12, 13, 14, 15, 16, 17, 18, 19, 20, 21, 22, 23, 24, 25, 26] 1 (α := Nat) (fun i => [(11, .int .i64 i)]) (fun i => _) (fun i h_i => i ≤ ns.length ∧ fineK full air ns ws i = true) (fun i => ns.length - i) (0) ⟨rfl, trivial⟩ (rfl) (⟨Nat.zero_le _, rfl⟩) ?_
  rintro i T1 h_i E_i J_i
  refine goes_norm [_] rfl ?_
  refine xp_seq ?_
  refine xp_region rfl ?_
  refine op_pure (pv_of (v := .bool _) rfl) ?_
  refine xp_seq ?_
  refine xp_cond rfl (fun hk => ?_) (fun hk => ?_)
  · skip
    have hkl : i < ns.length := ltI hk
    have hkl2 : i < (lvls air ns ws ns.length).length := by rw [lvls_len]; exact hkl
    obtain ⟨g, off, hA, hc⟩ := (RL.ext E_i).at (by omega) hkl2
    rw [lvls_at] at hc
    refine xp_skip ?_
    refine xp_seq ?_
    refine xp_block ?_
    refine xp_seq ?_
    refine xp_region rfl ?_
    refine op_pure (pv_indexE rfl hA rfl rfl rfl (by omega) (by omega)) ?_
    refine op_loadA rfl rfl rfl rfl (hc) ?_
    refine op_alloc (cs := [_, _]) rfl rfl fun b6 hb6 => ?_
    refine wp_norm [_, _] rfl ?_
    refine op_storeP 1 (v := .agg #[.int .i64 _, .int .i64 _]) (vs := [_, _]) (c' := [_, _]) rfl rfl rfl rfl rfl rfl rfl rfl rfl ?_
    refine wp_norm [_, _] rfl ?_
    refine xp_seq ?_
    refine xp_region rfl ?_
    refine op_pure (pv_fieldAddr rfl rfl rfl rfl 0 rfl) ?_
    refine op_loadP 1 (v := .int .i64 _) rfl rfl rfl rfl ?_
    refine op_pure (pv_of (v := .bool _) rfl) ?_
    refine op_pure (pv_move (v := .bool _) rfl) ?_
    have fk : fineK full air ns ws (i + 1) = (fineK full air ns ws i && (decide (0 ≤ airK air ns ws (i + 1)) && decide (airK air ns ws (i + 1) ≤ full))) := rfl
    rw [J_i.2, Bool.true_and] at fk
    by_cases ha : airK air ns ws (i + 1) < 0
    · skip
      have hb : decide (airK air ns ws (i + 1) < 0) = true := decide_eq_true ha
      have fx : fineK full air ns ws (i + 1) = false := by rw [fk, decide_eq_false (by omega)]; rfl
      refine guard_no rfl hb ?_
      refine guard_no rfl hb ?_
      refine guard_no rfl hb ?_
      refine guard_no rfl hb ?_
      refine guard_no rfl hb ?_
      refine guard_no rfl hb ?_
      refine op_pure (pv_pickT rfl hb (v := .bool _) rfl) ?_
      refine xp_condT rfl ((by simpa using ha)) ?_
      refine xp_seq ?_
      refine xp_region rfl ?_
      refine op_pure (pv_assign (v := .bool _) rfl) ?_
      refine xp_ret ?_
      refine res_list (vs := [_]) Try.results90 ⟨resV_tmp rfl rfl, trivial⟩ fun V => ?_
      exact ⟨(Ext.trans (Ext.trans F1 E_i) (ext_wl V)), boolE (by cases hh : fineK full air ns ws ns.length with | false => rfl | true => rw [fineK_less hkl hh] at fx; cases fx)⟩
    · skip
      have hb : decide (airK air ns ws (i + 1) < 0) = false := decide_eq_false ha
      refine guard_yes rfl hb ?_
      refine op_pure (pv_fieldAddr rfl rfl rfl rfl 1 rfl) ?_
      refine guard_yes rfl hb ?_
      refine op_loadP 1 (v := .int .i64 _) rfl rfl rfl rfl ?_
      refine guard_yes rfl hb ?_
      refine op_pure (pv_fieldAddr rfl rfl rfl rfl 0 rfl) ?_
      refine guard_yes rfl hb ?_
      refine op_pure (pv_fieldAddr rfl rfl rfl rfl 0 rfl) ?_
      refine guard_yes rfl hb ?_
      refine op_loadP 0 (v := .int .i64 _) rfl rfl rfl rfl ?_
      refine guard_yes rfl hb ?_
      refine op_pure (pv_of (v := .bool _) rfl) ?_
      refine op_pure (pv_pickF rfl hb (v := .bool _) rfl) ?_
      refine xp_cond rfl (fun hq => ?_) (fun hq => ?_)
      · skip
        have hq2 : full < airK air ns ws (i + 1) := by simpa [lvlR] using hq
        have fx : fineK full air ns ws (i + 1) = false := by rw [fk, decide_eq_false (show ¬ airK air ns ws (i + 1) ≤ full by omega), Bool.and_false]
        refine xp_seq ?_
        refine xp_region rfl ?_
        refine op_pure (pv_assign (v := .bool _) rfl) ?_
        refine xp_ret ?_
        refine res_list (vs := [_]) Try.results90 ⟨resV_tmp rfl rfl, trivial⟩ fun V => ?_
        exact ⟨(Ext.trans (Ext.trans F1 E_i) (ext_wl V)), boolE (by cases hh : fineK full air ns ws ns.length with | false => rfl | true => rw [fineK_less hkl hh] at fx; cases fx)⟩
      · skip
        have hq2 : ¬ full < airK air ns ws (i + 1) := by simpa [lvlR] using hq
        refine xp_skip ?_
        refine xp_region rfl ?_
        refine op_pure (pv_arith rfl (by omega)) ?_
        refine op_pure (pv_move (v := .int .i64 _) rfl) ?_
        refine ⟨i + 1, ⟨rfl, trivial⟩, rfl, rfl, E_i, fun h3 E3 => ⟨hkl, by rw [fk, decide_eq_true (by omega), decide_eq_true (by omega)]; rfl⟩, by first | omega | (dsimp only; omega), ?_⟩
        repeat (first | exact off_base _ _ _ | refine off_upd (by decide) ?_ | refine off_updL rfl ?_ | refine off_mix rfl ?_)
  · skip
    have hke : i = ns.length := by have := geI hk; omega
    subst hke
    refine xp_exit ?_
    refine xp_seq ?_
    refine xp_region rfl ?_
    refine op_pure (pv_assign (v := .bool _) rfl) ?_
    refine xp_ret ?_
    refine res_list (vs := [_]) Try.results90 ⟨resV_tmp rfl rfl, trivial⟩ fun V => ?_
    exact ⟨(Ext.trans (Ext.trans F1 E_i) (ext_wl V)), by rw [J_i.2]; rfl⟩
end
end Go.Proofs.Ytlfbcimcehcomaa
/- Walks of package bellow: whether a piece can be played. Conditions: as each theorem states. -/
namespace Go.Bw
open Go Go.HL
/-- The words of a set of one air, or of none. -/
def wO : Option Nat → Nat → Nat
  | none, _ => 0
  | some m, k => wordA m k
def setO (o : Option Nat) : List Value := [.int .u64 (wO o 0 : Nat), .int .u64 (wO o 1 : Nat), .int .u64 (wO o 2 : Nat), .int .u64 (wO o 3 : Nat)]
theorem setO_none (o : Option Nat) (h : ∀ m, o = some m → m ≤ 200) : ((wO o 0 : Int) == 0 && ((wO o 1 : Int) == 0 && ((wO o 2 : Int) == 0 && (wO o 3 : Int) == 0))) = decide (o = none) := by
  cases o with
  | none => rfl
  | some m =>
    have hm := h m rfl
    have hp : 0 < 2 ^ (m % 64) := Nat.pow_pos (by decide)
    have hz : ((2 ^ (m % 64) : Nat) : Int) ≠ 0 := by omega
    have hc : m / 64 = 0 ∨ m / 64 = 1 ∨ m / 64 = 2 ∨ m / 64 = 3 := by omega
    have key : ∀ i, (wO (some m) i : Int) = if m / 64 = i then ((2 ^ (m % 64) : Nat) : Int) else 0 := by intro i; show ((wordA m i : Nat) : Int) = _; unfold wordA; split <;> rfl
    rw [key, key, key, key]
    generalize ((2 ^ (m % 64) : Nat) : Int) = x at hz
    rcases hc with e | e | e | e <;> rw [e] <;> simp [hz]
end Go.Bw
namespace Go.Proofs.Ytlfbcimcehcomaa
open Go Go.HL Go.Proofs Go.Wx Go.Rd Go.Bw
section
variable [Lvl]
set_option maxRecDepth 100000
theorem airsEq (o : Option Nat) (h : ∀ m, o = some m → m ≤ 200) : pev Try.prog (Op.equalIn Op.maxDepth 185 (.agg (setO o).toArray) (.agg emptyA.toArray)) = some (decide (o = none)) := by
  have h1 := eq_array (P := Try.prog) (t := 185) (d := 9999) (len := 4) (xs := (setO o).toArray) (ys := emptyA.toArray) (rs := [(wO o 0 : Int) == 0, (wO o 1 : Int) == 0, (wO o 2 : Int) == 0, (wO o 3 : Int) == 0]) rfl rfl rfl ?_
  · refine h1.trans ?_
    rw [← setO_none o h]
    simp only [List.all_cons, List.all_nil, id, Bool.and_true]
  · intro i r hr
    match i, hr with
    | 0, hr => cases hr; exact ⟨_, _, rfl, rfl, eq_int rfl _ _⟩
    | 1, hr => cases hr; exact ⟨_, _, rfl, rfl, eq_int rfl _ _⟩
    | 2, hr => cases hr; exact ⟨_, _, rfl, rfl, eq_int rfl _ _⟩
    | 3, hr => cases hr; exact ⟨_, _, rfl, rfl, eq_int rfl _ _⟩
    | i + 4, hr => simp at hr
theorem hasV_call (m a : Nat) (hm : m ≤ 200) (ha : a ≤ 200) (h : AH) : CallV Try.prog (.func (.func 116) #[.agg (oneA m).toArray] #[]) [.int .i64 a] h (fun v h' => Ext h h' ∧ v = .bool (decide (a = m))) (fun _ _ => False) :=
  callV_fst (fs := [.agg (oneA m).toArray]) rfl (airHas_ok m a hm ha h)
theorem aftV_callE (w a m r : Int) (e : aftI w a m = r) (ha : -10000 ≤ a ∧ a ≤ 10000) (hm : -10000 ≤ m ∧ m ≤ 10000) (h : AH) : CallV Try.prog (aftV w) [.int .i64 a, .int .i64 m] h (fun v h' => Ext h h' ∧ v = .int .i64 r) (fun _ _ => False) := by
  subst e
  exact aftV_call w a m ha hm h
set_option maxHeartbeats 8000000 in
theorem can_ok (full air : Int) (h0 : 0 ≤ air ∧ air ≤ full) (hf : full ≤ 200) (ns : List NoteP) (hn : ∀ n ∈ ns, NoteB n) (hl : ns.length ≤ 6) (ws : List Int) (W : WaysB ns ws) (A0 A1 PA WA : Option Addr) (c0 c1 cP cW : Nat) (h : AH) (R : Row h 4 noteC PA ns) (RW : Row h 1 intC WA ws) :
    FnT Try.prog 92 #[plV full air A0 A1 PA c0 c1 ns.length cP, .slice WA ws.length cW] h (fun v _ => v = .bool (fineK full air ns ws ns.length)) := by
  obtain ⟨W1, W2, W3⟩ := W
  obtain ⟨a0, ea0⟩ : ∃ a0 : Nat, air = (a0 : Int) := ⟨air.toNat, by omega⟩
  have ha0 : a0 ≤ 200 := by omega
  unfold plV
  refine call_body Try.func92 rfl Try.ntmps92 rfl ?_
  refine xp_seq ?_
  refine xp_region rfl ?_
  refine op_box (v := .agg #[.int .i64 _, .int .i64 _, .int .i64 _, .slice _ _ _, .slice _ _ _, .slice _ _ _, .int .i64 _]) (cs := [_, _, _, _, _, _, _]) rfl rfl fun b2 hb2 => ?_
  refine wp_norm [_] rfl ?_
  refine op_pure (pv_assign (v := .bool _) rfl) ?_
  refine xp_seq ?_
  refine xp_region rfl ?_
  refine op_alloc (cs := [_, _, _, _]) rfl rfl fun b5 hb5 => ?_
  refine wp_norm [_, _] rfl ?_
  refine xp_seq ?_
  refine xp_seq ?_
  refine xp_region rfl ?_
  refine op_pure (pv_fieldAddr rfl rfl rfl rfl 0 rfl) ?_
  refine op_pure (pv_fieldAddr rfl rfl rfl rfl 1 rfl) ?_
  refine op_pure (pv_fieldAddr rfl rfl rfl rfl 1 rfl) ?_
  refine op_loadP 0 (v := .int .i64 _) rfl rfl rfl rfl ?_
  refine op_pure (pv_assign (v := .int .i64 _) rfl) ?_
  refine xp_block ?_
  refine xp_unroll ?_
  refine xp_seq ?_
  refine xp_seq ?_
  refine xp_region rfl ?_
  refine op_pure (pv_move (v := .int .i64 _) rfl) ?_
  refine op_pure (pv_fieldAddr rfl rfl rfl rfl 0 rfl) ?_
  refine op_pure (pv_fieldAddr rfl rfl rfl rfl 1 rfl) ?_
  refine op_pure (pv_fieldAddr rfl rfl rfl rfl 2 rfl) ?_
  refine op_loadP 0 (v := .int .i64 _) rfl rfl rfl rfl ?_
  refine op_pure (pv_of (v := .bool _) rfl) ?_
  refine xp_condT rfl (decide_eq_true (Int.le_refl _)) ?_
  refine xp_skip ?_
  refine xp_seq ?_
  refine xp_block ?_
  refine xp_region rfl ?_
  refine op_loadPA 1 (vs := [.int .u64 _, .int .u64 _, .int .u64 _, .int .u64 _]) rfl rfl rfl rfl rfl ?_
  refine op_pure (pv_move (v := .int .i64 _) rfl) ?_
  refine op_fn (caps := []) (vs := [.agg #[.int .u64 _, .int .u64 _, .int .u64 _, .int .u64 _], .int .i64 _]) rfl rfl rfl ((show FnT Try.prog 115 #[.agg emptyA.toArray, .int .i64 air] h _ by rw [ea0]; exact airWith_ok a0 ha0 h)) ?_
  rintro _ f0 F0 rfl
  refine op_storeP 1 (v := .agg #[.int .u64 _, .int .u64 _, .int .u64 _, .int .u64 _]) (vs := [_, _, _, _]) (c' := [_, _, _, _]) rfl rfl rfl rfl rfl rfl rfl rfl rfl ?_
  refine wp_norm [_, _] rfl ?_
  refine xp_region rfl ?_
  refine op_pure (pv_move (v := .int .i64 _) rfl) ?_
  refine op_pure (pv_arith rfl (by omega)) ?_
  refine op_pure (pv_assign (v := .int .i64 _) rfl) ?_
  refine again_unroll ?_
  refine xp_seq ?_
  refine xp_seq ?_
  refine xp_region rfl ?_
  refine op_pure (pv_move (v := .int .i64 _) rfl) ?_
  refine op_pure (pv_fieldAddr rfl rfl rfl rfl 0 rfl) ?_
  refine op_pure (pv_fieldAddr rfl rfl rfl rfl 1 rfl) ?_
  refine op_pure (pv_fieldAddr rfl rfl rfl rfl 2 rfl) ?_
  refine op_loadP 0 (v := .int .i64 _) rfl rfl rfl rfl ?_
  refine op_pure (pv_of (v := .bool _) rfl) ?_
  refine xp_condF rfl (decide_eq_false (by omega)) ?_
  refine xp_exit ?_
  refine xp_seq ?_
  refine xp_seq ?_
  refine xp_region rfl ?_
  refine op_pure (pv_fieldAddr rfl rfl rfl rfl 5 rfl) ?_
  refine op_loadP 0 (v := .slice _ _ _) rfl rfl rfl rfl ?_
  refine op_pure (pv_len rfl rfl) ?_
  refine op_pure (pv_move (v := .int .i64 _) rfl) ?_
  refine xp_block ?_
  refine xp_loopL [4, 7, 8, 9, 10, 11, 12, 13, 14, 33, 34, 35, 36, 37, 38, 39, 40, 41, 42, 43, 44, 45, 46, 47, 48, 49, 50, 51, 52, 53, 54, 55, 56, 57, 58, 59, 60, 61, 62, 63, 64, 65, 66, 67, 68, 69, 70, 71, 72, 73, 74, 75, 76, 77, 78, 79, 80, 81, 82, 83, 84, 85, 86, 87, 88, 89, 90, 91] 2 (α := Nat × Nat) (fun ⟨i, m⟩ => [(33, .int .i64 i)]) (fun ⟨i, m⟩ L => L.set 1 (some (b5, .cells #[.int .u64 (wordA m 0 : Nat), .int .u64 (wordA m 1 : Nat), .int .u64 (wordA m 2 : Nat), .int .u64 (wordA m 3 : Nat)] 185 (0, 0)))) (fun ⟨i, m⟩ h_i => i ≤ ns.length ∧ fineK full air ns ws i = true ∧ airK air ns ws i = (m : Int)) (fun ⟨i, m⟩ => ns.length - i) ((0, a0)) ⟨rfl, trivial⟩ (rfl) (⟨Nat.zero_le _, rfl, ea0⟩) ?_
  rintro ⟨i, m⟩ T1 h_i E_i J_i
  refine goes_norm [_, _] rfl ?_
  obtain ⟨hi0, hfk, hm⟩ := J_i
  refine xp_seq ?_
  refine xp_region rfl ?_
  refine op_pure (pv_of (v := .bool _) rfl) ?_
  refine xp_seq ?_
  refine xp_cond rfl (fun hk => ?_) (fun hk => ?_)
  · skip
    have hkl : i < ns.length := ltI hk
    have hkw : i < ws.length := by omega
    obtain ⟨g, off, hA, hc⟩ := (R.ext (Ext.trans F0 E_i)).at (by omega) hkl
    obtain ⟨g2, off2, hA2, hc2⟩ := (RW.ext (Ext.trans F0 E_i)).at (by omega) hkw
    have NB := hn _ (List.getElem_mem hkl)
    have mb := mul_b NB
    obtain ⟨s1, s2, k0, k9⟩ := NB
    have hat := fineK_at h0 hfk
    rw [hm] at hat
    have hm200 : m ≤ 200 := by omega
    have e0 : ns[i].sec * (ns[i].k + 0) = ns[i].sec * ns[i].k := by rw [Int.add_zero]
    have gw1 : ws.getD i 0 = ws[i] := by rw [List.getD_eq_getElem?_getD, List.getElem?_eq_getElem hkw]; rfl
    have gn1 : ns.getD i ⟨0, 0, false⟩ = ns[i] := by rw [List.getD_eq_getElem?_getD, List.getElem?_eq_getElem hkl]; rfl
    have ea : aftI ws[i] (m : Int) (ns[i].sec * (ns[i].k + 0)) = airK air ns ws (i + 1) := by rw [e0, ← hm]; show _ = aftI (ws.getD i 0) _ _; rw [gw1, gn1]
    have fk : fineK full air ns ws (i + 1) = (fineK full air ns ws i && (decide (0 ≤ airK air ns ws (i + 1)) && decide (airK air ns ws (i + 1) ≤ full))) := rfl
    rw [hfk, Bool.true_and] at fk
    refine xp_skip ?_
    refine xp_seq ?_
    refine xp_block ?_
    refine xp_seq ?_
    refine xp_region rfl ?_
    refine op_pure (pv_move (v := .int .i64 _) rfl) ?_
    refine op_pure (pv_indexE rfl hA rfl rfl rfl (by omega) (by omega)) ?_
    refine op_loadA rfl rfl rfl rfl (hc) ?_
    refine op_alloc (cs := [_, _, _, _]) rfl rfl fun b8 hb8 => ?_
    refine wp_norm [_, _, _] rfl ?_
    refine op_pure (pv_assign (v := .int .i64 _) rfl) ?_
    refine op_storeP 2 (v := .agg #[.int .i64 _, .int .i64 _, .int .i64 _, .bool _]) (vs := [_, _, _, _]) (c' := [_, _, _, _]) rfl rfl rfl rfl rfl rfl rfl rfl rfl ?_
    refine wp_norm [_, _, _] rfl ?_
    refine xp_seq ?_
    refine xp_region rfl ?_
    refine op_pure (pv_move (v := .slice _ _ _) rfl) ?_
    refine op_pure (pv_move (v := .int .i64 _) rfl) ?_
    refine op_pure (pv_indexE rfl hA2 rfl rfl rfl (by omega) (by omega)) ?_
    refine op_load (v := .int .i64 _) rfl rfl ((hc2) 0 _ rfl) ?_
    refine op_fn (caps := []) (vs := [.int .i64 _]) rfl rfl rfl (works_ok _ h_i) ?_
    rintro _ f1 F1 rfl
    refine op_pure (pv_aft rfl) ?_
    refine op_pure (pv_assign (v := _) rfl) ?_
    refine xp_seq ?_
    refine xp_region rfl ?_
    refine op_alloc (cs := [_, _, _, _]) rfl rfl fun b10 hb10 => ?_
    refine wp_norm [_, _, _, _] rfl ?_
    refine xp_seq ?_
    refine xp_region rfl ?_
    refine op_loadPA 1 (vs := [.int .u64 _, .int .u64 _, .int .u64 _, .int .u64 _]) rfl rfl rfl rfl rfl ?_
    refine op_pure (pv_makeFunc (vs := [_]) (ws := []) rfl rfl) ?_
    refine op_pure (pv_assign (v := _) rfl) ?_
    refine xp_seq ?_
    refine xp_seq ?_
    refine xp_region rfl ?_
    refine op_pure (pv_fieldAddr rfl rfl rfl rfl 0 rfl) ?_
    refine op_pure (pv_fieldAddr rfl rfl rfl rfl 0 rfl) ?_
    refine op_loadP 0 (v := .int .i64 _) rfl rfl rfl rfl ?_
    refine op_pure (pv_arith rfl (by omega)) ?_
    refine op_pure (pv_move (v := .int .i64 _) rfl) ?_
    refine xp_block ?_
    refine xp_loopL [12, 13, 14, 50, 51, 52, 53, 54, 55, 56, 57, 58, 59, 60, 61, 62, 63, 64, 65, 66, 67, 68, 69, 70, 71, 72, 73, 74, 75, 76, 77, 78, 79, 80, 81, 82, 83, 84, 85, 86] 4 (α := Nat × Option Nat) (fun ⟨a, o⟩ => [(50, .int .i64 a)]) (fun ⟨a, o⟩ L => L.set 3 (some (b10, .cells #[.int .u64 (wO o 0 : Nat), .int .u64 (wO o 1 : Nat), .int .u64 (wO o 2 : Nat), .int .u64 (wO o 3 : Nat)] 185 (0, 0)))) (fun ⟨a, o⟩ h_a => (a : Int) ≤ full + 1 ∧ o = (if m < a then setK full air ns ws (i + 1) else none)) (fun ⟨a, o⟩ => (full + 1 - (a : Int)).toNat) ((0, none)) ⟨rfl, trivial⟩ (rfl) (⟨by omega, by rw [if_neg (Nat.not_lt_zero _)]⟩) ?_
    rintro ⟨a, o⟩ T2 h_a E_a J_a
    refine goes_norm [_, _, _, _] rfl ?_
    obtain ⟨q1, q2⟩ := J_a
    refine xp_seq ?_
    refine xp_region rfl ?_
    refine op_pure (pv_of (v := .bool _) rfl) ?_
    refine xp_seq ?_
    refine xp_cond rfl (fun hk2 => ?_) (fun hk2 => ?_)
    · skip
      have hkl2 : (a : Int) < full + 1 := by simpa using hk2
      refine xp_skip ?_
      refine xp_seq ?_
      refine xp_block ?_
      refine xp_seq ?_
      refine xp_region rfl ?_
      refine op_pure (pv_move (v := .int .i64 _) rfl) ?_
      refine op_pure (pv_assign (v := .int .i64 _) rfl) ?_
      refine xp_seq ?_
      refine xp_region rfl ?_
      refine op_pure (pv_fieldAddr rfl rfl rfl rfl 1 rfl) ?_
      refine op_pure (pv_fieldAddr rfl rfl rfl rfl 1 rfl) ?_
      refine op_loadP 2 (v := .int .i64 _) rfl rfl rfl rfl ?_
      refine op_pure (pv_assign (v := .int .i64 _) rfl) ?_
      refine xp_block ?_
      refine xp_unroll ?_
      refine xp_seq ?_
      refine xp_seq ?_
      refine xp_region rfl ?_
      refine op_pure (pv_move (v := _) rfl) ?_
      refine op_pure (pv_move (v := .int .i64 _) rfl) ?_
      refine op_callV (y := .func (.func 116) #[.agg (oneA m).toArray] #[]) (vs := [.int .i64 a]) rfl rfl (fun _ => hasV_call m a hm200 (by omega) h_a) ?_
      rintro _ f2 F2 rfl
      refine op_pure (pv_move (v := .bool _) rfl) ?_
      by_cases hma : a = m
      · skip
        have hd : decide (a = m) = true := decide_eq_true hma
        have on : o = none := by rw [q2, if_neg (by omega)]
        subst on
        refine guard_yes rfl hd ?_
        refine op_pure (pv_move (v := .int .i64 _) rfl) ?_
        refine guard_yes rfl hd ?_
        refine op_pure (pv_fieldAddr rfl rfl rfl rfl 1 rfl) ?_
        refine guard_yes rfl hd ?_
        refine op_pure (pv_fieldAddr rfl rfl rfl rfl 2 rfl) ?_
        refine guard_yes rfl hd ?_
        refine op_loadP 2 (v := .int .i64 _) rfl rfl rfl rfl ?_
        refine guard_yes rfl hd ?_
        refine op_pure (pv_of (v := .bool _) rfl) ?_
        refine op_pure (pv_pickT rfl hd (v := .bool _) rfl) ?_
        refine xp_condT rfl (decide_eq_true (Int.le_refl _)) ?_
        refine xp_skip ?_
        refine xp_seq ?_
        refine xp_block ?_
        refine xp_seq ?_
        refine xp_region rfl ?_
        refine op_pure (pv_move (v := _) rfl) ?_
        refine op_pure (pv_move (v := .int .i64 _) rfl) ?_
        refine op_pure (pv_fieldAddr rfl rfl rfl rfl 0 rfl) ?_
        refine op_loadP 2 (v := .int .i64 _) rfl rfl rfl rfl ?_
        refine op_pure (pv_move (v := .int .i64 _) rfl) ?_
        refine op_pure (pv_fieldAddr rfl rfl rfl rfl 6 rfl) ?_
        refine op_loadP 0 (v := .int .i64 _) rfl rfl rfl rfl ?_
        refine op_pure (pv_arith rfl (by omega)) ?_
        refine op_pure (pv_arith rfl (by omega)) ?_
        refine op_callV (y := aftV ws[i]) (vs := [.int .i64 (a : Int), .int .i64 (ns[i].sec * (ns[i].k + 0))]) rfl rfl (fun _ => aftV_callE ws[i] (a : Int) (ns[i].sec * (ns[i].k + 0)) (airK air ns ws (i + 1)) (by rw [hma]; exact ea) (by omega) (by omega) f2) ?_
        rintro _ f3 F3 rfl
        refine op_pure (pv_assign (v := .int .i64 _) rfl) ?_
        refine xp_seq ?_
        refine xp_region rfl ?_
        refine op_pure (pv_move (v := .int .i64 _) rfl) ?_
        refine op_pure (pv_fieldAddr rfl rfl rfl rfl 0 rfl) ?_
        refine op_pure (pv_fieldAddr rfl rfl rfl rfl 0 rfl) ?_
        refine op_loadP 0 (v := .int .i64 _) rfl rfl rfl rfl ?_
        refine op_fn (caps := []) (vs := [.int .i64 _, .int .i64 _, .int .i64 _]) rfl rfl rfl (bIn_ok _ _ _ f3) ?_
        rintro _ f4 F4 rfl
        cases hfi : fineK full air ns ws (i + 1) with
        | true =>
          have hat2 := fineK_at h0 hfi
          obtain ⟨r, er⟩ : ∃ r : Nat, airK air ns ws (i + 1) = (r : Int) := ⟨(airK air ns ws (i + 1)).toNat, by omega⟩
          refine xp_condT rfl (fk.symm.trans hfi) ?_
          refine xp_region rfl ?_
          refine op_loadPA 3 (vs := [.int .u64 _, .int .u64 _, .int .u64 _, .int .u64 _]) rfl rfl rfl rfl rfl ?_
          refine op_pure (pv_move (v := .int .i64 _) rfl) ?_
          refine op_fn (caps := []) (vs := [.agg #[.int .u64 _, .int .u64 _, .int .u64 _, .int .u64 _], .int .i64 _]) rfl rfl rfl ((show FnT Try.prog 115 #[.agg emptyA.toArray, .int .i64 (airK air ns ws (i + 1))] f4 _ by rw [er]; exact airWith_ok r (by omega) f4)) ?_
          rintro _ f5 F5 rfl
          refine op_storeP 3 (v := .agg #[.int .u64 _, .int .u64 _, .int .u64 _, .int .u64 _]) (vs := [_, _, _, _]) (c' := [_, _, _, _]) rfl rfl rfl rfl rfl rfl rfl rfl rfl ?_
          refine wp_norm [_, _, _, _] rfl ?_
          refine xp_region rfl ?_
          refine op_pure (pv_move (v := .int .i64 _) rfl) ?_
          refine op_pure (pv_arith rfl (by omega)) ?_
          refine op_pure (pv_assign (v := .int .i64 _) rfl) ?_
          refine again_unroll ?_
          refine xp_seq ?_
          refine xp_seq ?_
          refine xp_region rfl ?_
          refine op_pure (pv_move (v := _) rfl) ?_
          refine op_pure (pv_move (v := .int .i64 _) rfl) ?_
          refine op_callV (y := .func (.func 116) #[.agg (oneA m).toArray] #[]) (vs := [.int .i64 a]) rfl rfl (fun _ => hasV_call m a hm200 (by omega) f5) ?_
          rintro _ f6 F6 rfl
          refine op_pure (pv_move (v := .bool _) rfl) ?_
          refine guard_yes rfl hd ?_
          refine op_pure (pv_move (v := .int .i64 _) rfl) ?_
          refine guard_yes rfl hd ?_
          refine op_pure (pv_fieldAddr rfl rfl rfl rfl 1 rfl) ?_
          refine guard_yes rfl hd ?_
          refine op_pure (pv_fieldAddr rfl rfl rfl rfl 2 rfl) ?_
          refine guard_yes rfl hd ?_
          refine op_loadP 2 (v := .int .i64 _) rfl rfl rfl rfl ?_
          refine guard_yes rfl hd ?_
          refine op_pure (pv_of (v := .bool _) rfl) ?_
          refine op_pure (pv_pickT rfl hd (v := .bool _) rfl) ?_
          refine xp_condF rfl (decide_eq_false (by omega)) ?_
          refine xp_exit ?_
          refine xp_region rfl ?_
          refine op_pure (pv_arith rfl (by omega)) ?_
          refine op_pure (pv_move (v := .int .i64 _) rfl) ?_
          refine ⟨(a + 1, some r), ⟨rfl, trivial⟩, rfl, rfl, (Ext.trans (Ext.trans (Ext.trans (Ext.trans (Ext.trans E_a F2) F3) F4) F5) F6), fun h3 E3 => ⟨by push_cast; omega, by rw [if_pos (by omega)]; unfold setK; rw [if_pos hfi, er]; rfl⟩, by first | omega | (dsimp only; omega), ?_⟩
          repeat (first | exact off_base _ _ _ | refine off_upd (by decide) ?_ | refine off_updL rfl ?_ | refine off_mix rfl ?_)
        | false =>
          refine xp_condF rfl (fk.symm.trans hfi) ?_
          refine xp_skip ?_
          refine xp_region rfl ?_
          refine op_pure (pv_move (v := .int .i64 _) rfl) ?_
          refine op_pure (pv_arith rfl (by omega)) ?_
          refine op_pure (pv_assign (v := .int .i64 _) rfl) ?_
          refine again_unroll ?_
          refine xp_seq ?_
          refine xp_seq ?_
          refine xp_region rfl ?_
          refine op_pure (pv_move (v := _) rfl) ?_
          refine op_pure (pv_move (v := .int .i64 _) rfl) ?_
          refine op_callV (y := .func (.func 116) #[.agg (oneA m).toArray] #[]) (vs := [.int .i64 a]) rfl rfl (fun _ => hasV_call m a hm200 (by omega) f4) ?_
          rintro _ f6 F6 rfl
          refine op_pure (pv_move (v := .bool _) rfl) ?_
          refine guard_yes rfl hd ?_
          refine op_pure (pv_move (v := .int .i64 _) rfl) ?_
          refine guard_yes rfl hd ?_
          refine op_pure (pv_fieldAddr rfl rfl rfl rfl 1 rfl) ?_
          refine guard_yes rfl hd ?_
          refine op_pure (pv_fieldAddr rfl rfl rfl rfl 2 rfl) ?_
          refine guard_yes rfl hd ?_
          refine op_loadP 2 (v := .int .i64 _) rfl rfl rfl rfl ?_
          refine guard_yes rfl hd ?_
          refine op_pure (pv_of (v := .bool _) rfl) ?_
          refine op_pure (pv_pickT rfl hd (v := .bool _) rfl) ?_
          refine xp_condF rfl (decide_eq_false (by omega)) ?_
          refine xp_exit ?_
          refine xp_region rfl ?_
          refine op_pure (pv_arith rfl (by omega)) ?_
          refine op_pure (pv_move (v := .int .i64 _) rfl) ?_
          refine ⟨(a + 1, none), ⟨rfl, trivial⟩, rfl, rfl, (Ext.trans (Ext.trans (Ext.trans (Ext.trans E_a F2) F3) F4) F6), fun h3 E3 => ⟨by push_cast; omega, by rw [if_pos (by omega)]; unfold setK; rw [if_neg (by rw [hfi]; exact Bool.false_ne_true)]⟩, by first | omega | (dsimp only; omega), ?_⟩
          repeat (first | exact off_base _ _ _ | refine off_upd (by decide) ?_ | refine off_updL rfl ?_ | refine off_mix rfl ?_)
      · skip
        have hd : decide (a = m) = false := decide_eq_false hma
        refine guard_no rfl hd ?_
        refine guard_no rfl hd ?_
        refine guard_no rfl hd ?_
        refine guard_no rfl hd ?_
        refine guard_no rfl hd ?_
        refine op_pure (pv_pickF rfl hd (v := .bool _) rfl) ?_
        refine xp_condF rfl (rfl) ?_
        refine xp_exit ?_
        refine xp_region rfl ?_
        refine op_pure (pv_arith rfl (by omega)) ?_
        refine op_pure (pv_move (v := .int .i64 _) rfl) ?_
        have hnx : o = (if m < a + 1 then setK full air ns ws (i + 1) else none) := by
          rw [q2]
          by_cases hlt : m < a
          · rw [if_pos hlt, if_pos (by omega)]
          · rw [if_neg hlt, if_neg (by omega)]
        refine ⟨(a + 1, o), ⟨rfl, trivial⟩, rfl, rfl, (Ext.trans E_a F2), fun h3 E3 => ⟨by push_cast; omega, hnx⟩, by first | omega | (dsimp only; omega), ?_⟩
        repeat (first | exact off_base _ _ _ | refine off_upd (by decide) ?_ | refine off_updL rfl ?_ | refine off_mix rfl ?_)
    · skip
      have hke2 : (a : Int) = full + 1 := by have : ¬ (a : Int) < full + 1 := by simpa using hk2
                                             omega
      have ho : o = setK full air ns ws (i + 1) := by rw [q2, if_pos (by omega)]
      have ho2 : ∀ x, o = some x → x ≤ 200 := by
        intro x hx
        rw [ho] at hx
        unfold setK at hx
        split at hx
        · have := fineK_at h0 ‹_›
          cases hx
          omega
        · cases hx
      refine xp_exit ?_
      refine xp_seq ?_
      refine xp_region rfl ?_
      refine op_loadPA 3 (vs := [.int .u64 _, .int .u64 _, .int .u64 _, .int .u64 _]) rfl rfl rfl rfl rfl ?_
      refine op_storeP 1 (v := .agg #[.int .u64 _, .int .u64 _, .int .u64 _, .int .u64 _]) (vs := [_, _, _, _]) (c' := [_, _, _, _]) rfl rfl rfl rfl rfl rfl rfl rfl rfl ?_
      refine wp_norm [_, _, _, _] rfl ?_
      refine xp_seq ?_
      refine xp_region rfl ?_
      refine op_loadPA 1 (vs := [.int .u64 _, .int .u64 _, .int .u64 _, .int .u64 _]) rfl rfl rfl rfl rfl ?_
      refine op_pure (pv_buildA (zc := [_, _, _, _]) (vs := []) (cs := [_, _, _, _]) rfl rfl rfl rfl rfl rfl) ?_
      refine op_pure (pv_eqA rfl rfl (by kernel_rfl) (airsEq o ho2)) ?_
      refine xp_cond rfl (fun he => ?_) (fun he => ?_)
      · skip
        have hon : o = none := by simpa using he
        have hf1 : fineK full air ns ws (i + 1) = false := by
          cases hh : fineK full air ns ws (i + 1) with
          | false => rfl
          | true => rw [hon] at ho; unfold setK at ho; rw [if_pos hh] at ho; cases ho
        refine xp_seq ?_
        refine xp_region rfl ?_
        refine op_pure (pv_assign (v := .bool _) rfl) ?_
        refine xp_ret ?_
        refine res_list (vs := [_]) Try.results92 ⟨resV_tmp rfl rfl, trivial⟩ fun V => ?_
        exact ⟨(Ext.trans (Ext.trans (Ext.trans (Ext.trans F0 E_i) F1) E_a) (ext_wl V)), boolE (by cases hh : fineK full air ns ws ns.length with | false => rfl | true => rw [fineK_less hkl hh] at hf1; cases hf1)⟩
      · skip
        have hon : o ≠ none := by simpa using he
        obtain ⟨x, hx⟩ := Option.ne_none_iff_exists'.1 hon
        subst hx
        have hf1 : fineK full air ns ws (i + 1) = true ∧ airK air ns ws (i + 1) = (x : Int) := by
          unfold setK at ho
          split at ho
          · have := fineK_at h0 ‹_›
            cases ho
            exact ⟨‹_›, by omega⟩
          · cases ho
        refine xp_skip ?_
        refine xp_region rfl ?_
        refine op_pure (pv_arith rfl (by omega)) ?_
        refine op_pure (pv_move (v := .int .i64 _) rfl) ?_
        refine ⟨(i + 1, x), ⟨rfl, trivial⟩, rfl, rfl, (Ext.trans (Ext.trans E_i F1) E_a), fun h3 E3 => ⟨hkl, hf1⟩, by first | omega | (dsimp only; omega), ?_⟩
        repeat (first | exact off_base _ _ _ | refine off_upd (by decide) ?_ | refine off_updL rfl ?_ | refine off_mix rfl ?_)
  · skip
    have hke : i = ns.length := by have := geI hk; omega
    subst hke
    refine xp_exit ?_
    refine xp_seq ?_
    refine xp_region rfl ?_
    refine op_pure (pv_assign (v := .bool _) rfl) ?_
    refine xp_ret ?_
    refine res_list (vs := [_]) Try.results92 ⟨resV_tmp rfl rfl, trivial⟩ fun V => ?_
    exact ⟨(Ext.trans (Ext.trans F0 E_i) (ext_wl V)), boolE hfk.symm⟩
end
end Go.Proofs.Ytlfbcimcehcomaa
/- Walks of package bellow: what is played, for a bellows without corners. Conditions: as each theorem states. -/
namespace Go.Bw
open Go Go.HL
def plC (full air : Int) (A TA PA : Option Addr) (cA tA n cP : Nat) : List Value := [.int .i64 full, .int .i64 air, .int .i64 air, .slice A 0 cA, .slice TA 0 tA, .slice PA n cP, .int .i64 0]
abbrev naV (x : Nat) : Value := .int .i64 x
theorem naBeq (a b : Nat) : ((a : Int) == (b : Int)) = decide (a = b) := by
  by_cases h : a = b
  · subst h; simp
  · rw [decide_eq_false h, beq_eq_false_iff_ne]
    omega
end Go.Bw
namespace Go.Proofs.Ytlfbcimcehcomaa
open Go Go.HL Go.Proofs Go.Wx Go.Rd Go.Bw
section
variable [Lvl]
set_option maxRecDepth 100000
theorem naK : KeyT Try.prog 3 naV := by
  refine ⟨fun e a => chk_int rfl, fun a b => ?_, fun td ht a b => ?_, ⟨_, rfl⟩, fun a => by simp [Instr.sameBits]⟩
  · refine (eq_int (P := Try.prog) (t := 3) (d := 9999) rfl a b).trans ?_
    rw [naBeq]
  · cases ht
    right
    show some ((a : Int) == (b : Int)) = _
    rw [naBeq]
theorem emptyB {full air : Int} (h0 : 0 ≤ air ∧ air ≤ full) (hf : 1 ≤ full ∧ full ≤ 200) : BelB ⟨full, ⟨air, air⟩, []⟩ := ⟨hf.1, hf.2, h0.1, Int.le_refl _, h0.2, Nat.zero_le _, fun _ h => absurd h List.not_mem_nil⟩
theorem playedBy_ok (full air : Int) (h0 : 0 ≤ air ∧ air ≤ full) (hf : 1 ≤ full ∧ full ≤ 200) (A TA PA LA : Option Addr) (cA tA n cP cL : Nat) (h : AH) (RL : Row h 4 tV LA [zero4]) :
    FnT Try.prog 51 #[belV A TA cA tA ⟨full, ⟨air, air⟩, []⟩, .slice LA 1 cL, .slice PA n cP, .slice none 0 0] h (fun v h' => SlR h' 7 (fun _ : Unit => plC full air A TA PA cA tA n cP) [()] v) := by
  obtain ⟨g, off, hA, hc⟩ := RL.at (i := 0) (by omega) (by decide)
  unfold belV
  refine call_body Try.func51 rfl Try.ntmps51 rfl ?_
  refine xp_seq ?_
  refine xp_region rfl ?_
  refine op_box (v := .agg #[.int .i64 _, .int .i64 _, .int .i64 _, .slice _ _ _, .slice _ _ _]) (cs := [_, _, _, _, _]) rfl rfl fun b4 hb4 => ?_
  refine wp_norm [_] rfl ?_
  refine op_pure (pv_assign (v := .slice _ _ _) rfl) ?_
  refine xp_seq ?_
  refine xp_region rfl ?_
  refine op_makeMap fun b15 hb15 => ?_
  refine wp_norm [_, _] rfl ?_
  refine op_pure (pv_assign (v := .map _) rfl) ?_
  refine xp_seq ?_
  refine xp_region rfl ?_
  refine op_loadPA 0 (vs := [.int .i64 _, .int .i64 _, .int .i64 _, .slice _ _ _, .slice _ _ _]) rfl rfl rfl rfl rfl ?_
  refine op_pure (pv_move (v := .slice _ _ _) rfl) ?_
  refine op_fn (caps := []) (vs := [.agg #[.int .i64 _, .int .i64 _, .int .i64 _, .slice _ _ _, .slice _ _ _], .slice _ _ _]) rfl rfl rfl (corners_ok ⟨full, ⟨air, air⟩, []⟩ (emptyB h0 hf) A TA cA tA h) ?_
  rintro _ f1 F1 ⟨A3, c3, rfl, R3⟩
  refine op_pure (pv_assign (v := .slice _ _ _) rfl) ?_
  refine xp_seq ?_
  refine xp_region rfl ?_
  refine op_pure (pv_assign (v := .slice _ _ _) rfl) ?_
  refine xp_seq ?_
  refine xp_seq ?_
  refine xp_region rfl ?_
  refine op_pure (pv_move (v := .slice _ _ _) rfl) ?_
  refine op_pure (pv_len rfl rfl) ?_
  refine op_pure (pv_move (v := .int .i64 _) rfl) ?_
  refine xp_block ?_
  refine goes_more ?_
  refine goes_norm [_, _, _] rfl ?_
  have ha0 : AccR 120 7 [] acc0 := accR0
  refine xp_unroll ?_
  refine xp_seq ?_
  refine xp_region rfl ?_
  refine op_pure (pv_of (v := .bool _) rfl) ?_
  refine xp_seq ?_
  refine xp_condT rfl (rfl) ?_
  refine xp_skip ?_
  refine xp_seq ?_
  refine xp_block ?_
  refine xp_seq ?_
  refine xp_region rfl ?_
  refine op_pure (pv_indexE rfl hA rfl rfl rfl (by omega) (by decide)) ?_
  refine op_loadA rfl rfl rfl rfl (hc.ext F1) ?_
  refine op_alloc (cs := [_, _, _, _]) rfl rfl fun b13 hb13 => ?_
  refine wp_norm [_, _, _, _] rfl ?_
  refine op_storeP 3 (v := .agg #[.int .i64 _, .int .i64 _, .int .i64 _, .int .i64 _]) (vs := [_, _, _, _]) (c' := [_, _, _, _]) rfl rfl rfl rfl rfl rfl rfl rfl rfl ?_
  refine wp_norm [_, _, _, _] rfl ?_
  refine xp_seq ?_
  refine xp_region rfl ?_
  refine op_loadPA 3 (vs := [.int .i64 _, .int .i64 _, .int .i64 _, .int .i64 _]) rfl rfl rfl rfl rfl ?_
  refine op_pure (pv_move (v := .slice _ _ _) rfl) ?_
  refine op_fn (caps := []) (vs := [.agg #[.int .i64 _, .int .i64 _, .int .i64 _, .int .i64 _], .slice _ _ _]) rfl rfl rfl (total_ok zero4 rfl (by decide) [] (by simp) (by simp) A3 c3 f1 (R3.ext (Ext.refl _))) ?_
  rintro _ f2 F2 rfl
  refine op_pure (pv_assign (v := .int .i64 _) rfl) ?_
  refine xp_seq ?_
  refine xp_region rfl ?_
  refine op_pure (pv_move (v := .map _) rfl) ?_
  refine op_pure (pv_move (v := .int .i64 _) rfl) ?_
  refine op_lookupZ 1 (a := (0 : Nat)) (l := []) (z := .bool false) naK rfl rfl rfl rfl rfl ?_
  refine op_pure (pv_of (v := .bool _) rfl) ?_
  refine xp_condT rfl (rfl) ?_
  refine xp_seq ?_
  refine xp_region rfl ?_
  refine op_pure (pv_move (v := .map _) rfl) ?_
  refine op_pure (pv_move (v := .int .i64 _) rfl) ?_
  refine op_mapUpdate 1 (a := (0 : Nat)) (l := []) naK rfl rfl rfl rfl rfl ?_
  refine wp_norm [_, _, _, _] rfl ?_
  refine xp_region rfl ?_
  refine op_pure (pv_move (v := .slice _ _ _) rfl) ?_
  refine op_loadPA 0 (vs := [.int .i64 _, .int .i64 _, .int .i64 _, .slice _ _ _, .slice _ _ _]) rfl rfl rfl rfl rfl ?_
  refine op_pure (pv_move (v := .slice _ _ _) rfl) ?_
  refine op_pure (pv_move (v := .int .i64 _) rfl) ?_
  refine op_pure (pv_build (zc := [_, _, _, _, _, _, _]) (vs := [(0, .agg #[.int .i64 _, .int .i64 _, .int .i64 _, .slice _ _ _, .slice _ _ _]), (1, .slice _ _ _), (2, .int .i64 _)]) (cs := [_, _, _, _, _, _, _]) rfl rfl rfl rfl rfl rfl) ?_
  refine op_buildSlice (zc := [_, _, _, _, _, _, _]) (vs := [(0, .agg #[.int .i64 _, .int .i64 _, .int .i64 _, .slice _ _ _, .slice _ _ _, .slice _ _ _, .int .i64 _])]) (cs := [_, _, _, _, _, _, _]) rfl rfl rfl rfl rfl rfl rfl fun b39 hb39 => ?_
  refine wp_norm [_, _, _, _, _] rfl ?_
  refine op_appendR 2 ha0 rfl rfl rfl (fun V => rdP V (i := 4) rfl) rfl rfl rfl rfl rfl rfl rfl rfl rfl (by omega) rfl (by simp) fun a2 h1a E1a ha2 => ?_
  refine wp_norm [_, _, _, _, _] rfl ?_
  refine op_pure (pv_assign (v := .slice _ _ _) rfl) ?_
  refine xp_region rfl ?_
  refine op_pure (pv_arith rfl (by omega)) ?_
  refine op_pure (pv_move (v := .int .i64 _) rfl) ?_
  refine again_unroll ?_
  refine xp_seq ?_
  refine xp_region rfl ?_
  refine op_pure (pv_of (v := .bool _) rfl) ?_
  refine xp_seq ?_
  refine xp_condF rfl (rfl) ?_
  refine xp_exit ?_
  refine xp_seq ?_
  refine xp_region rfl ?_
  refine op_pure (pv_move (v := .slice _ _ _) rfl) ?_
  refine op_pure (pv_assign (v := .slice _ _ _) rfl) ?_
  refine xp_ret ?_
  refine res_list (vs := [_]) Try.results51 ⟨resV_tmp rfl rfl, trivial⟩ fun V => ?_
  exact ⟨(Ext.trans (Ext.trans (Ext.trans F1 F2) E1a) (ext_wl V)), AccP.row (l := [()]) (enc := fun _ : Unit => plC full air A TA PA cA tA n cP) (i := 2) ha2 (by omega) (fun _ _ => rfl) V rfl⟩
end
end Go.Proofs.Ytlfbcimcehcomaa
/- Walks of package bellow: what must and may be played. Conditions: as each theorem states. -/
namespace Go.Proofs.Ytlfbcimcehcomaa
open Go Go.HL Go.Proofs Go.Wx Go.Rd Go.Bw
section
variable [Lvl]
set_option maxRecDepth 100000
/-- A question that is asked of one thing that is played. -/
theorem indexF_ok (f : Value) (xs : List Value) (t : Bool) (A : Option Addr) (cA : Nat) (h : AH) (hx : xs.length = 7) (R : Row h 7 (fun _ : Unit => xs) A [()]) (C : ∀ h', Ext h h' → CallV Try.prog f [.agg xs.toArray] h' (fun v h2 => Ext h' h2 ∧ v = .bool t) (fun _ _ => False)) :
    FnT Try.prog 114 #[.slice A 1 cA, f] h (fun v _ => v = .int .i64 (if t then 0 else -1)) := by
  obtain ⟨x0, x1, x2, x3, x4, x5, x6, rfl⟩ : ∃ a b c d e f g, xs = [a, b, c, d, e, f, g] := by
    match xs, hx with
    | [a, b, c, d, e, f, g], _ => exact ⟨a, b, c, d, e, f, g, rfl⟩
  obtain ⟨g, off, hA, hc⟩ := R.at (i := 0) (by omega) (by decide)
  refine call_body Try.func114 rfl Try.ntmps114 rfl ?_
  refine xp_seq ?_
  refine xp_region rfl ?_
  refine op_pure (pv_assign (v := .int .i64 _) rfl) ?_
  refine xp_seq ?_
  refine xp_seq ?_
  refine xp_region rfl ?_
  refine op_pure (pv_move (v := .slice _ _ _) rfl) ?_
  refine op_pure (pv_len rfl rfl) ?_
  refine op_pure (pv_move (v := .int .i64 _) rfl) ?_
  refine xp_block ?_
  refine xp_unroll ?_
  refine xp_seq ?_
  refine xp_region rfl ?_
  refine op_pure (pv_of (v := .bool _) rfl) ?_
  refine xp_seq ?_
  refine xp_condT rfl (rfl) ?_
  refine xp_skip ?_
  refine xp_seq ?_
  refine xp_block ?_
  refine xp_seq ?_
  refine xp_region rfl ?_
  refine op_pure (pv_move (v := .int .i64 _) rfl) ?_
  refine op_pure (pv_assign (v := .int .i64 _) rfl) ?_
  refine xp_seq ?_
  refine xp_region rfl ?_
  refine op_pure (pv_move (v := _) rfl) ?_
  refine op_pure (pv_move (v := .slice _ _ _) rfl) ?_
  refine op_pure (pv_move (v := .int .i64 _) rfl) ?_
  refine op_pure (pv_indexE rfl hA rfl rfl rfl (by omega) (by decide)) ?_
  refine op_loadA rfl rfl rfl rfl (hc.ext (Ext.refl _)) ?_
  refine op_callV (y := f) (vs := [.agg #[x0, x1, x2, x3, x4, x5, x6]]) rfl rfl (fun _ => C h (Ext.refl _)) ?_
  rintro _ f1 F1 rfl
  cases t with
  | true =>
    refine xp_condT rfl (rfl) ?_
    refine xp_seq ?_
    refine xp_region rfl ?_
    refine op_pure (pv_move (v := .int .i64 _) rfl) ?_
    refine op_pure (pv_assign (v := .int .i64 _) rfl) ?_
    refine xp_ret ?_
    refine res_list (vs := [_]) Try.results114 ⟨resV_tmp rfl rfl, trivial⟩ fun V => ?_
    exact ⟨(Ext.trans F1 (ext_wl V)), rfl⟩
  | false =>
    refine xp_condF rfl (rfl) ?_
    refine xp_skip ?_
    refine xp_region rfl ?_
    refine op_pure (pv_arith rfl (by omega)) ?_
    refine op_pure (pv_move (v := .int .i64 _) rfl) ?_
    refine again_unroll ?_
    refine xp_seq ?_
    refine xp_region rfl ?_
    refine op_pure (pv_of (v := .bool _) rfl) ?_
    refine xp_seq ?_
    refine xp_condF rfl (rfl) ?_
    refine xp_exit ?_
    refine xp_seq ?_
    refine xp_region rfl ?_
    refine op_pure (pv_assign (v := .int .i64 _) rfl) ?_
    refine xp_ret ?_
    refine res_list (vs := [_]) Try.results114 ⟨resV_tmp rfl rfl, trivial⟩ fun V => ?_
    exact ⟨(Ext.trans F1 (ext_wl V)), rfl⟩
theorem containsF_ok (f : Value) (xs : List Value) (t : Bool) (A : Option Addr) (cA : Nat) (h : AH) (hx : xs.length = 7) (R : Row h 7 (fun _ : Unit => xs) A [()]) (C : ∀ h', Ext h h' → CallV Try.prog f [.agg xs.toArray] h' (fun v h2 => Ext h' h2 ∧ v = .bool t) (fun _ _ => False)) :
    FnT Try.prog 88 #[.slice A 1 cA, f] h (fun v _ => v = .bool t) := by
  refine call_body Try.func88 rfl Try.ntmps88 rfl ?_
  refine xp_seq ?_
  refine xp_region rfl ?_
  refine op_pure (pv_assign (v := .bool _) rfl) ?_
  refine xp_seq ?_
  refine xp_region rfl ?_
  refine op_pure (pv_move (v := .slice _ _ _) rfl) ?_
  refine op_pure (pv_move (v := _) rfl) ?_
  refine op_fn (caps := []) (vs := [.slice _ _ _, _]) rfl rfl rfl (indexF_ok f xs t A cA h hx (R.ext (Ext.refl _)) (fun h' e => C h' e)) ?_
  rintro _ f1 F1 rfl
  refine op_pure (pv_of (v := .bool _) rfl) ?_
  refine op_pure (pv_assign (v := .bool _) rfl) ?_
  refine xp_ret ?_
  refine res_list (vs := [_]) Try.results88 ⟨resV_tmp rfl rfl, trivial⟩ fun V => ?_
  exact ⟨(Ext.trans F1 (ext_wl V)), boolE (by cases t <;> rfl)⟩
theorem always1_ok (full air : Int) (h0 : 0 ≤ air ∧ air ≤ full) (hf : full ≤ 200) (ns : List NoteP) (hn : ∀ n ∈ ns, NoteB n) (hl : ns.length ≤ 6) (ws : List Int) (W : WaysB ns ws) (A TA PA WA : Option Addr) (cA tA cP cW b1 : Nat) (h : AH) (R : Row h 4 noteC PA ns) (RW : Row h 1 intC WA ws) (p1 : h b1 = some (.cells #[.slice WA ws.length cW] 22 (0, 0))) :
    FnT Try.prog 89 #[.agg (plC full air A TA PA cA tA ns.length cP).toArray, .pointer (some ⟨b1, 0, none⟩)] h (fun v _ => v = .bool (!fineK full air ns ws ns.length)) := by
  unfold plC
  refine call_body Try.func89 rfl Try.ntmps89 rfl ?_
  refine xp_seq ?_
  refine xp_region rfl ?_
  refine op_box (v := .agg #[.int .i64 _, .int .i64 _, .int .i64 _, .slice _ _ _, .slice _ _ _, .slice _ _ _, .int .i64 _]) (cs := [_, _, _, _, _, _, _]) rfl rfl fun b2 hb2 => ?_
  refine wp_norm [_] rfl ?_
  refine op_pure (pv_assign (v := .bool _) rfl) ?_
  refine xp_seq ?_
  refine xp_region rfl ?_
  refine op_loadPA 0 (vs := [.int .i64 _, .int .i64 _, .int .i64 _, .slice _ _ _, .slice _ _ _, .slice _ _ _, .int .i64 _]) rfl rfl rfl rfl rfl ?_
  refine op_load (v := .slice _ _ _) rfl rfl (by simp only [cellA, (Ext.refl _) _ _ p1]; rfl) ?_
  refine op_fn (caps := []) (vs := [.agg #[.int .i64 _, .int .i64 _, .int .i64 _, .slice _ _ _, .slice _ _ _, .slice _ _ _, .int .i64 _], .slice _ _ _]) rfl rfl rfl (must_ok full air h0 hf ns hn hl ws W A TA PA WA cA tA cP cW h (R.ext (Ext.refl _)) (RW.ext (Ext.refl _))) ?_
  rintro _ f1 F1 rfl
  refine op_pure (pv_of (v := .bool _) rfl) ?_
  refine op_pure (pv_assign (v := .bool _) rfl) ?_
  refine xp_ret ?_
  refine res_list (vs := [_]) Try.results89 ⟨resV_tmp rfl rfl, trivial⟩ fun V => ?_
  exact ⟨(Ext.trans F1 (ext_wl V)), rfl⟩
theorem maybe1_ok (full air : Int) (h0 : 0 ≤ air ∧ air ≤ full) (hf : full ≤ 200) (ns : List NoteP) (hn : ∀ n ∈ ns, NoteB n) (hl : ns.length ≤ 6) (ws : List Int) (W : WaysB ns ws) (A TA PA WA : Option Addr) (cA tA cP cW b1 : Nat) (h : AH) (R : Row h 4 noteC PA ns) (RW : Row h 1 intC WA ws) (p1 : h b1 = some (.cells #[.slice WA ws.length cW] 22 (0, 0))) :
    FnT Try.prog 91 #[.agg (plC full air A TA PA cA tA ns.length cP).toArray, .pointer (some ⟨b1, 0, none⟩)] h (fun v _ => v = .bool (fineK full air ns ws ns.length)) := by
  unfold plC
  refine call_body Try.func91 rfl Try.ntmps91 rfl ?_
  refine xp_seq ?_
  refine xp_region rfl ?_
  refine op_box (v := .agg #[.int .i64 _, .int .i64 _, .int .i64 _, .slice _ _ _, .slice _ _ _, .slice _ _ _, .int .i64 _]) (cs := [_, _, _, _, _, _, _]) rfl rfl fun b2 hb2 => ?_
  refine wp_norm [_] rfl ?_
  refine op_pure (pv_assign (v := .bool _) rfl) ?_
  refine xp_seq ?_
  refine xp_region rfl ?_
  refine op_loadPA 0 (vs := [.int .i64 _, .int .i64 _, .int .i64 _, .slice _ _ _, .slice _ _ _, .slice _ _ _, .int .i64 _]) rfl rfl rfl rfl rfl ?_
  refine op_load (v := .slice _ _ _) rfl rfl (by simp only [cellA, (Ext.refl _) _ _ p1]; rfl) ?_
  refine op_fn (caps := []) (vs := [.agg #[.int .i64 _, .int .i64 _, .int .i64 _, .slice _ _ _, .slice _ _ _, .slice _ _ _, .int .i64 _], .slice _ _ _]) rfl rfl rfl (can_ok full air h0 hf ns hn hl ws W A TA PA WA cA tA cP cW h (R.ext (Ext.refl _)) (RW.ext (Ext.refl _))) ?_
  rintro _ f1 F1 rfl
  refine op_pure (pv_assign (v := .bool _) rfl) ?_
  refine xp_ret ?_
  refine res_list (vs := [_]) Try.results91 ⟨resV_tmp rfl rfl, trivial⟩ fun V => ?_
  exact ⟨(Ext.trans F1 (ext_wl V)), rfl⟩
theorem always_ok (full air : Int) (h0 : 0 ≤ air ∧ air ≤ full) (hf : full ≤ 200) (ns : List NoteP) (hn : ∀ n ∈ ns, NoteB n) (hl : ns.length ≤ 6) (ws : List Int) (W : WaysB ns ws) (A TA PA WA LA : Option Addr) (cA tA cP cW cL : Nat) (h : AH) (R : Row h 4 noteC PA ns) (RW : Row h 1 intC WA ws) (RL : Row h 7 (fun _ : Unit => plC full air A TA PA cA tA ns.length cP) LA [()]) :
    FnT Try.prog 53 #[.slice LA 1 cL, .slice WA ws.length cW] h (fun v _ => v = .bool (fineK full air ns ws ns.length)) := by
  refine call_body Try.func53 rfl Try.ntmps53 rfl ?_
  refine xp_seq ?_
  refine xp_region rfl ?_
  refine op_box (v := .slice _ _ _) (cs := [_]) rfl rfl fun b3 hb3 => ?_
  refine wp_norm [_] rfl ?_
  refine op_pure (pv_assign (v := .bool _) rfl) ?_
  refine goes_pub 0 rfl ?_
  intro h1 E1 p1
  refine xp_seq ?_
  refine xp_region rfl ?_
  refine op_pure (pv_move (v := .slice _ _ _) rfl) ?_
  refine op_pure (pv_makeFunc (vs := []) (ws := [_]) rfl rfl) ?_
  refine op_fn (caps := []) (vs := [.slice _ _ _, _]) rfl rfl rfl (containsF_ok (.func (.func 89) #[] #[.pointer (some ⟨b3, 0, none⟩)]) _ (!fineK full air ns ws ns.length) LA cL h1 rfl (RL.ext E1) (fun h' e => callV_fn (caps := [.pointer (some ⟨b3, 0, none⟩)]) rfl (always1_ok full air h0 hf ns hn hl ws W A TA PA WA cA tA cP cW b3 h' (R.ext (E1.trans e)) (RW.ext (E1.trans e)) (e _ _ p1)))) ?_
  rintro _ f1 F1 rfl
  refine op_pure (pv_of (v := .bool _) rfl) ?_
  refine op_pure (pv_assign (v := .bool _) rfl) ?_
  refine xp_ret ?_
  refine res_list (vs := [_]) Try.results53 ⟨resV_tmp rfl rfl, trivial⟩ fun V => ?_
  exact ⟨(Ext.trans (Ext.trans E1 F1) (ext_wl V)), boolE (by cases fineK full air ns ws ns.length <;> rfl)⟩
theorem maybe_ok (full air : Int) (h0 : 0 ≤ air ∧ air ≤ full) (hf : full ≤ 200) (ns : List NoteP) (hn : ∀ n ∈ ns, NoteB n) (hl : ns.length ≤ 6) (ws : List Int) (W : WaysB ns ws) (A TA PA WA LA : Option Addr) (cA tA cP cW cL : Nat) (h : AH) (R : Row h 4 noteC PA ns) (RW : Row h 1 intC WA ws) (RL : Row h 7 (fun _ : Unit => plC full air A TA PA cA tA ns.length cP) LA [()]) :
    FnT Try.prog 54 #[.slice LA 1 cL, .slice WA ws.length cW] h (fun v _ => v = .bool (fineK full air ns ws ns.length)) := by
  refine call_body Try.func54 rfl Try.ntmps54 rfl ?_
  refine xp_seq ?_
  refine xp_region rfl ?_
  refine op_box (v := .slice _ _ _) (cs := [_]) rfl rfl fun b3 hb3 => ?_
  refine wp_norm [_] rfl ?_
  refine op_pure (pv_assign (v := .bool _) rfl) ?_
  refine goes_pub 0 rfl ?_
  intro h1 E1 p1
  refine xp_seq ?_
  refine xp_region rfl ?_
  refine op_pure (pv_move (v := .slice _ _ _) rfl) ?_
  refine op_pure (pv_makeFunc (vs := []) (ws := [_]) rfl rfl) ?_
  refine op_fn (caps := []) (vs := [.slice _ _ _, _]) rfl rfl rfl (containsF_ok (.func (.func 91) #[] #[.pointer (some ⟨b3, 0, none⟩)]) _ (fineK full air ns ws ns.length) LA cL h1 rfl (RL.ext E1) (fun h' e => callV_fn (caps := [.pointer (some ⟨b3, 0, none⟩)]) rfl (maybe1_ok full air h0 hf ns hn hl ws W A TA PA WA cA tA cP cW b3 h' (R.ext (E1.trans e)) (RW.ext (E1.trans e)) (e _ _ p1)))) ?_
  rintro _ f1 F1 rfl
  refine op_pure (pv_assign (v := .bool _) rfl) ?_
  refine xp_ret ?_
  refine res_list (vs := [_]) Try.results54 ⟨resV_tmp rfl rfl, trivial⟩ fun V => ?_
  exact ⟨(Ext.trans (Ext.trans E1 F1) (ext_wl V)), rfl⟩
end
end Go.Proofs.Ytlfbcimcehcomaa
/- Slices of things that point into memory themselves. Conditions: none. -/
namespace Go.Rd
open Go Go.HL Go.Wx
variable [Lvl]
/-- A slice of things of m cells each, each of which stands for a datum. -/
def SlX {α : Type} (h : AH) (m : Nat) (T : AH → α → List Value → Prop) (l : List α) (v : Value) : Prop :=
  ∃ (cs : List (List Value)) (A : Option Addr) (cap : Nat), v = .slice A l.length cap ∧ cs.length = l.length ∧ Row h m id A cs ∧ ∀ (i : Nat) (x : α) (c : List Value), l[i]? = some x → cs[i]? = some c → T h x c
def Mono {α : Type} (T : AH → α → List Value → Prop) : Prop := ∀ h h' x c, Ext h h' → T h x c → T h' x c
theorem SlX.ext {α : Type} {h h' : AH} {m : Nat} {T : AH → α → List Value → Prop} {l : List α} {v : Value} (r : SlX h m T l v) (mo : Mono T) (e : Ext h h') : SlX h' m T l v := by
  obtain ⟨cs, A, cap, hv, hl, R, hT⟩ := r
  exact ⟨cs, A, cap, hv, hl, R.ext e, fun i x c h1 h2 => mo _ _ _ _ e (hT i x c h1 h2)⟩
theorem SlX.nil {α : Type} (h : AH) (m : Nat) (T : AH → α → List Value → Prop) (A : Option Addr) (c : Nat) : SlX h m T ([] : List α) (.slice A 0 c) :=
  ⟨[], A, c, rfl, rfl, ⟨fun _ hx => absurd hx (List.not_mem_nil), Rd.nil _ _⟩, fun i x c h1 _ => by simp at h1⟩
/-- The elements so far of what grows in a place of its own. -/
def Els {α : Type} (h : AH) (T : AH → α → List Value → Prop) (l : List α) (cs : List (List Value)) : Prop := cs.length = l.length ∧ ∀ (i : Nat) (x : α) (c : List Value), l[i]? = some x → cs[i]? = some c → T h x c
theorem Els.nil {α : Type} (h : AH) (T : AH → α → List Value → Prop) : Els h T ([] : List α) [] := ⟨rfl, fun i x c h1 _ => by simp at h1⟩
theorem Els.ext {α : Type} {h h' : AH} {T : AH → α → List Value → Prop} {l : List α} {cs : List (List Value)} (r : Els h T l cs) (mo : Mono T) (e : Ext h h') : Els h' T l cs := ⟨r.1, fun i x c h1 h2 => mo _ _ _ _ e (r.2 i x c h1 h2)⟩
theorem Els.snoc {α : Type} {h : AH} {T : AH → α → List Value → Prop} {l : List α} {cs : List (List Value)} {x : α} {c : List Value} (r : Els h T l cs) (t : T h x c) : Els h T (l ++ [x]) (cs ++ [c]) := by
  refine ⟨by simp [r.1], fun i y d h1 h2 => ?_⟩
  rw [List.getElem?_append] at h1 h2
  rw [r.1] at h2
  split at h1
  · rename_i hi; rw [if_pos hi] at h2; exact r.2 i y d h1 h2
  · rename_i hi
    rw [if_neg hi] at h2
    have h0 : i - l.length = 0 := by
      have := (List.getElem?_eq_some_iff.1 h1).1
      simp at this
      omega
    rw [h0] at h1 h2
    simp at h1 h2
    subst h1 h2
    exact t
theorem Els.at {α : Type} {h : AH} {T : AH → α → List Value → Prop} {l : List α} {cs : List (List Value)} (r : Els h T l cs) {i : Nat} (hi : i < l.length) : ∃ hc : i < cs.length, T h l[i] cs[i] :=
  ⟨by rw [r.1]; exact hi, r.2 i _ _ (List.getElem?_eq_getElem hi) (List.getElem?_eq_getElem (by rw [r.1]; exact hi))⟩
theorem SlX.els {α : Type} {h : AH} {m : Nat} {T : AH → α → List Value → Prop} {l : List α} {v : Value} (r : SlX h m T l v) : ∃ cs A cap, v = .slice A l.length cap ∧ Row h m id A cs ∧ Els h T l cs := by
  obtain ⟨cs, A, cap, hv, hl, R, hT⟩ := r
  exact ⟨cs, A, cap, hv, R, hl, hT⟩
theorem SlX.of {α : Type} {h : AH} {m : Nat} {T : AH → α → List Value → Prop} {l : List α} {cs : List (List Value)} {A : Option Addr} {cap n : Nat} (R : Row h m id A cs) (e : Els h T l cs) (hn : l.length = n) : SlX h m T l (.slice A n cap) := by
  subst hn
  exact ⟨cs, A, cap, rfl, e.1, R, e.2⟩
/-- What has grown in a place of its own. -/
theorem SlX.acc {α : Type} {e : TypeId} {m : Nat} {T : AH → α → List Value → Prop} {l : List α} {cs : List (List Value)} {p : Option (Nat × Obj)} {v : Value} (a : AccP e m (cs.flatMap id) p v) (hm : 0 < m) (hl : ∀ x ∈ cs, x.length = m) {L : Pv} {h : AH} (V : Valid h L) {i : Nat} (hi : L[i]? = some p) (E : Els (wl h L) T l cs) : SlX (wl h L) m T l v := by
  obtain ⟨A, cap, rfl, R⟩ := AccP.row a hm hl V hi
  exact SlX.of R E E.1.symm
/-- Lists of numbers as elements. -/
def TL (h : AH) (l : List Int) (c : List Value) : Prop := ∃ v, c = [v] ∧ SlR h 1 intC l v
theorem TL.mono : Mono TL := fun h h' l c e ⟨v, hc, r⟩ => ⟨v, hc, r.ext e⟩
/-- Hands as elements. -/
def TH (h : AH) (a : HandP) (c : List Value) : Prop := ∃ B O, c = [B, O] ∧ SlR h 1 intC a.buttons B ∧ SlR h 1 intC a.on O
theorem TH.mono : Mono TH := fun h h' l c e ⟨B, O, hc, r, s⟩ => ⟨B, O, hc, r.ext e, s.ext e⟩
/-- What was heard. -/
structure HeardP where
  hand : HandP
  sounds : List Int
def TU (h : AH) (x : HeardP) (c : List Value) : Prop := ∃ B O U, c = [B, O, U] ∧ SlR h 1 intC x.hand.buttons B ∧ SlR h 1 intC x.hand.on O ∧ SlR h 1 intC x.sounds U
theorem TU.mono : Mono TU := fun h h' l c e ⟨B, O, U, hc, r, s, t⟩ => ⟨B, O, U, hc, r.ext e, s.ext e, t.ext e⟩
end Go.Rd
/- Plain: machines with faults. Conditions: none. -/
namespace Go.Rd
open Go Go.HL Go.Wx
variable [Lvl]
inductive FaultP
  | shut (i : Nat)
  | opn (i : Nat)
  | pin (i : Nat)
  | link (i : Nat)
  deriving DecidableEq
structure BrkP where
  pins : List PinP
  links : List LinkP
  stay : Nat
  dumb : Nat
def lagP (ps : List PinP) (i : Nat) (t : Int) : List PinP := match ps[i]? with | some p => ps.set i ⟨p.rod, p.lever, t⟩ | none => ps
def lagL (ls : List LinkP) (i : Nat) (t : Int) : List LinkP := match ls[i]? with | some x => ls.set i ⟨x.frm, x.to, x.reg, t⟩ | none => ls
def brkS (t : Int) (b : BrkP) : FaultP → BrkP
  | .shut i => ⟨b.pins, b.links, b.stay, withM b.dumb i⟩
  | .opn i => ⟨b.pins, b.links, withM b.stay i, b.dumb⟩
  | .pin i => ⟨lagP b.pins i t, b.links, b.stay, b.dumb⟩
  | .link i => ⟨b.pins, lagL b.links i t, b.stay, b.dumb⟩
def brkF (m : MachP) (l : List FaultP) : BrkP := l.foldl (brkS m.travel) ⟨m.pins, m.links, 0, 0⟩
/-- The machine with its pins and links that are gone. -/
def brkM (m : MachP) (l : List FaultP) : MachP := { m with pins := (brkF m l).pins, links := (brkF m l).links }
/-- What sounds in a machine with faults. -/
def soundsB (m : MachP) (l : List FaultP) (a : HandP) : Nat := (soundsM (brkM m l) a m.travel ||| (brkF m l).stay) &&& (2 ^ 64 - 1 - (brkF m l).dumb)
end Go.Rd
/- Plain: all sets of numbers. Conditions: none. -/
namespace Go.Rd
open Go Go.HL Go.Wx
def choP {α : Type} (f : Nat → List α) (a d : Nat) : List α := (List.range' a d).flatMap f
/-- All sets of so many numbers more, from a on and below n, behind l. -/
def choM (n : Nat) : Nat → Nat → List Int → List (List Int)
  | 0, _, l => [l]
  | m + 1, a, l => choP (fun i => choM n m (i + 1) (l ++ [(i : Int)])) a (n - a)
/-- All sets of numbers below n: smaller ones first. -/
def setsM (n : Nat) : List (List Int) := choP (fun m => choM n m 0 []) 0 (n + 1)
end Go.Rd
/- Plain: more causes turn and lift no less; how far rods turn is reached by a cause. Conditions: none. -/
namespace Go.Rd
open Go Go.HL Go.Wx
variable [Lvl]
/-- More of all. -/
structure More (m : MachP) (a : HandP) (m' : MachP) (a' : HandP) : Prop where
  btn : m'.buttons = m.buttons
  hb : ∀ b ∈ a.buttons, b ∈ a'.buttons
  ho : ∀ r ∈ a.on, r ∈ a'.on
  links : ∀ l ∈ m.links, l ∈ m'.links
  pins : ∀ p ∈ m.pins, p ∈ m'.pins
  levers : m'.levers = m.levers
  travel : m'.travel = m.travel
  opn : m'.opn = m.opn
end Go.Rd
/- Plain: elements changed in place; orders. Conditions: none. -/
namespace Go.Wx
open Go Go.HL
variable [Lvl]
structure Order (o : List Int) (n : Nat) : Prop where
  len : o.length = n
  bd : ∀ x ∈ o, 0 ≤ x ∧ x < n
  inj : ∀ (i k : Nat), i < n → k < n → o[i]? = o[k]? → i = k
theorem wrL_mid (a c : List Value) : ∀ (vs b : List Value) (j : Nat), j + vs.length ≤ b.length → wrL (a ++ b ++ c) (a.length + j) vs = a ++ wrL b j vs ++ c
  | [], b, j, _ => rfl
  | v :: vs, b, j, h => by
    rw [List.length_cons] at h
    have hj : j < b.length := by omega
    have e : (a ++ b ++ c).set (a.length + j) v = a ++ b.set j v ++ c := by
      rw [List.append_assoc, List.set_append_right _ _ (by omega), Nat.add_sub_cancel_left, List.set_append_left _ _ hj, List.append_assoc]
    show wrL ((a ++ b ++ c).set (a.length + j) v) (a.length + j + 1) vs = _
    rw [e, Nat.add_assoc, wrL_mid a c vs (b.set j v) (j + 1) (by rw [List.length_set]; omega)]
    rfl
section
variable {α : Type} {enc : α → List Value} {m : Nat} (hm : ∀ x, (enc x).length = m)
include hm
end
/-- The first i places hold the numbers below i, in some order. -/
structure MixP (l : List Int) (i : Nat) : Prop where
  bd : ∀ m, m < i → ∃ v : Int, l[m]? = some v ∧ 0 ≤ v ∧ v < i
  inj : ∀ m m' : Nat, m < i → m' < i → l[m]? = l[m']? → m = m'
theorem MixP.zero (l : List Int) : MixP l 0 := ⟨fun m h => absurd h (Nat.not_lt_zero m), fun m _ h => absurd h (Nat.not_lt_zero m)⟩
def mixS (l : List Int) (i k : Nat) : List Int := (l.set i (l.getD k 0)).set k (i : Int)
theorem mixS_get {l : List Int} {i k : Nat} (hi : i < l.length) (hk : k ≤ i) (m : Nat) : (mixS l i k)[m]? = if m = k then some (i : Int) else if m = i then l[k]? else l[m]? := by
  unfold mixS
  have hkl : k < l.length := by omega
  rw [List.getElem?_set, List.length_set]
  by_cases h1 : k = m
  · subst h1
    simp [hkl]
  · rw [if_neg h1, if_neg (fun e => h1 e.symm), List.getElem?_set]
    by_cases h2 : i = m
    · subst h2
      simp [hi, List.getD_eq_getElem?_getD, List.getElem?_eq_getElem hkl]
    · rw [if_neg h2, if_neg (fun e => h2 e.symm)]
theorem MixP.step {l : List Int} {i k : Nat} (P : MixP l i) (hi : i < l.length) (hk : k ≤ i) : MixP (mixS l i k) (i + 1) := by
  have gk : k < i → ∃ v : Int, l[k]? = some v ∧ 0 ≤ v ∧ v < i := fun h => P.bd k h
  constructor
  · intro m hm
    rw [mixS_get hi hk]
    by_cases h1 : m = k
    · rw [if_pos h1]; exact ⟨i, rfl, by omega, by omega⟩
    · rw [if_neg h1]
      by_cases h2 : m = i
      · rw [if_pos h2]
        obtain ⟨v, e, a, b⟩ := gk (by omega)
        exact ⟨v, e, a, by omega⟩
      · rw [if_neg h2]
        obtain ⟨v, e, a, b⟩ := P.bd m (by omega)
        exact ⟨v, e, a, by omega⟩
  · have val : ∀ m, m < i + 1 → ∃ v : Int, (mixS l i k)[m]? = some v ∧ (m ≠ k → v < i) ∧ (m = k → v = i) := by
      intro m hm
      rw [mixS_get hi hk]
      by_cases h1 : m = k
      · rw [if_pos h1]; exact ⟨i, rfl, fun h => absurd h1 h, fun _ => rfl⟩
      · rw [if_neg h1]
        by_cases h2 : m = i
        · rw [if_pos h2]
          obtain ⟨v, e, a, b⟩ := gk (by omega)
          exact ⟨v, e, fun _ => b, fun h => absurd h h1⟩
        · rw [if_neg h2]
          obtain ⟨v, e, a, b⟩ := P.bd m (by omega)
          exact ⟨v, e, fun _ => b, fun h => absurd h h1⟩
    intro m m' hm hm' e
    obtain ⟨v, e1, a1, b1⟩ := val m hm
    obtain ⟨v', e2, a2, b2⟩ := val m' hm'
    have hv : v = v' := by rw [e1, e2] at e; simpa using e
    by_cases h1 : m = k
    · by_cases h2 : m' = k
      · omega
      · have := a2 h2; have := b1 h1; omega
    · by_cases h2 : m' = k
      · have := a1 h1; have := b2 h2; omega
      · rw [mixS_get hi hk, mixS_get hi hk, if_neg h1, if_neg h2] at e
        by_cases h3 : m = i
        · by_cases h4 : m' = i
          · omega
          · rw [if_pos h3, if_neg h4] at e
            have := P.inj k m' (by omega) (by omega) e
            omega
        · by_cases h4 : m' = i
          · rw [if_neg h3, if_pos h4] at e
            have := P.inj m k (by omega) (by omega) e
            omega
          · rw [if_neg h3, if_neg h4] at e
            exact P.inj m m' (by omega) (by omega) e
theorem MixP.order {l : List Int} {n : Nat} (P : MixP l n) (hl : l.length = n) : Order l n := by
  refine ⟨hl, fun x hx => ?_, P.inj⟩
  obtain ⟨i, hi⟩ := List.mem_iff_getElem?.1 hx
  have := (List.getElem?_eq_some_iff.1 hi).1
  obtain ⟨v, e, a, b⟩ := P.bd i (by omega)
  rw [hi] at e
  cases e
  exact ⟨a, b⟩
theorem row_of_block {α : Type} {enc : α → List Value} {m : Nat} {l : List α} (hl : ∀ x ∈ l, (enc x).length = m) {h : AH} {b : Nat} {t : TypeId} (hb : h b = some (.cells (l.flatMap enc).toArray t (0, 0))) : Row h m enc (some ⟨b, 0, none⟩) l :=
  ⟨hl, fun _ => ⟨b, 0, rfl, cellsB hb⟩⟩
end Go.Wx
