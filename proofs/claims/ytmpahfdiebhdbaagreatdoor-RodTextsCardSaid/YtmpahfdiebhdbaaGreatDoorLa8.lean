/- An own logic over the model, its walks and its plain laws, joined of parts Z6 Uk. Conditions: as each theorem states. -/
import Derived.Test.YtmpahfdiebhdbaaGreatDoorLa7
import Derived.Conc.LeavingOf
import Derived.LaidMore
import Derived.SevenTiedAt
set_option linter.all false
namespace Go.Proofs.YtmpahfdiebhdbaaGreatDoor
open Go Go.HL Go.Proofs Go.Wx Go.Rd
section
variable [Lvl]
set_option maxRecDepth 100000
theorem Harmed_ok (s : List UInt8) (at_ how : Int) (by_ : UInt8) (h : AH) (hs : s.length < 2 ^ 20) : FnT Tryz.prog 11 #[.string (bs s), .int .i64 at_, .int .i64 how, .int .u8 by_.toNat] h (fun v _ => ∃ s', v = .string (bs s') ∧ s'.length ≤ s.length + 1) := by
 refine wH Tryz.func11 rfl Tryz.ntmps11 rfl ?_
 refine qE ?_
 refine qB rfl ?_
 refine qA (qD (v := .string _) rfl) ?_
 refine qE ?_
 refine qE ?_
 refine qB rfl ?_
 refine qA (qC (v := .string _) rfl) ?_
 refine qA (pv_streq rfl rfl) ?_
 refine qP rfl (fun h0 => ?_) (fun h0 => ?_)
 ·skip
  refine qE ?_
  refine qB rfl ?_
  refine qA (qC (v := .string _) rfl) ?_
  refine qA (qD (v := .string _) rfl) ?_
  refine qQ ?_
  refine qM (vs := [_]) Tryz.results11 ⟨qJ rfl rfl, trivial⟩ fun V => ?_
  exact ⟨(qR V), s, rfl, Nat.le_succ _⟩
 ·skip
  have h0' : 0 < s.length := by
   have : ¬ s = [] := of_decide_eq_false h0
   exact Nat.pos_of_ne_zero fun e => this (List.eq_nil_of_length_eq_zero e)
  have ht := turnI_bd at_ (s.length : Int)
  obtain ⟨j, hj⟩ : ∃ j : Nat, turnI at_ (s.length : Int) = (j : Int) := ⟨(turnI at_ (s.length : Int)).toNat, by omega⟩
  have hjl : j < s.length := by have := ht.2 (by omega); omega
  refine qO ?_
  refine qE ?_
  refine qB rfl ?_
  refine qA (qC (v := .int .i64 _) rfl) ?_
  refine qA (qC (v := .string _) rfl) ?_
  refine qA (zF rfl rfl) ?_
  refine wJ (caps := []) (vs := [.int .i64 _, .int .i64 _]) rfl rfl rfl (Turn_ok at_ (s.length : Int) (by omega) h) ?_
  rintro v1 h1 E1 hv1
  rw [hj] at hv1
  subst hv1
  refine qA (qD (v := .int .i64 _) rfl) ?_
  refine qE ?_
  refine qE ?_
  refine qB rfl ?_
  refine qA (qC (v := .int .i64 _) rfl) ?_
  refine qT ?_
  refine qE ?_
  refine qB rfl ?_
  refine qA (qK (v := .bool _) rfl) ?_
  refine qA (qD (v := .bool _) rfl) ?_
  refine qP rfl (fun q0 => ?_) (fun q0 => ?_)
  ·skip
   refine qE ?_
   refine xp_dw [] rfl rfl rfl ?_
   refine qI (i := 0) rfl (by decide +kernel) (qC (v := .string _) rfl) ?_
   refine qI (i := 1) rfl (by decide +kernel) (qC (v := .int .i64 _) rfl) ?_
   refine qI (i := 2) rfl (by decide +kernel) (pv_strcut 0 j rfl rfl (.inl ⟨rfl, rfl⟩) (.inr ⟨_, _, rfl, rfl⟩) (by omega) (by omega)) ?_
   refine qI (i := 3) rfl (by decide +kernel) (qC (v := .int .u8 _) rfl) ?_
   refine qI (i := 7) rfl (by decide +kernel) (qC (v := .string _) rfl) ?_
   refine qI (i := 8) rfl (by decide +kernel) (qC (v := .int .i64 _) rfl) ?_
   refine qI (i := 9) rfl (by decide +kernel) (qS rfl (by omega)) ?_
   refine qI (i := 10) rfl (by decide +kernel) (pv_strcut (j + 1) s.length rfl rfl (.inr ⟨_, _, rfl, by push_cast; rfl⟩) (.inl ⟨rfl, rfl⟩) (by omega) (Nat.le_refl _)) ?_
   refine wV (i := 4) rfl (by decide +kernel) (by decide +kernel) ?_
   refine qX (zc := [_]) (vs := [(0, .int .u8 _)]) (cs := [_]) rfl rfl rfl rfl rfl rfl rfl fun b24 hb24 => ?_
   refine wN [_] rfl ?_
   refine wV (i := 5) rfl (by decide +kernel) (by decide +kernel) ?_
   refine op_b2s [by_] rfl rfl (fun V => rdP V (i := 0) rfl) rfl rfl rfl ?_
   refine qI (i := 6) rfl (by decide +kernel) (pv_cat rfl rfl (by rw [List.length_drop, List.length_take]; show _ + 1 < _; omega)) ?_
   refine qI (i := 11) rfl (by decide +kernel) (pv_cat rfl rfl (by rw [List.length_append, List.length_drop, List.length_take, List.length_drop, List.length_take]; show _ + 1 + _ < _; omega)) ?_
   refine qI (i := 12) rfl (by decide +kernel) (qD (v := .string _) rfl) ?_
   refine zI rfl ?_
   refine qQ ?_
   refine qM (vs := [_]) Tryz.results11 ⟨qJ rfl rfl, trivial⟩ fun V => ?_
   exact ⟨(zL E1 (qR V)), _, rfl, by simp only [List.length_append, List.length_drop, List.length_take, List.length_cons, List.length_nil]; omega⟩
  ·skip
   refine qE ?_
   refine qB rfl ?_
   refine qA (qK (v := .bool _) rfl) ?_
   refine qA (qD (v := .bool _) rfl) ?_
   refine qP rfl (fun q1 => ?_) (fun q1 => ?_)
   ·skip
    refine qE ?_
    refine xp_dw [] rfl rfl rfl ?_
    refine qI (i := 0) rfl (by decide +kernel) (qC (v := .string _) rfl) ?_
    refine qI (i := 1) rfl (by decide +kernel) (qC (v := .int .i64 _) rfl) ?_
    refine qI (i := 2) rfl (by decide +kernel) (pv_strcut 0 j rfl rfl (.inl ⟨rfl, rfl⟩) (.inr ⟨_, _, rfl, rfl⟩) (by omega) (by omega)) ?_
    refine qI (i := 3) rfl (by decide +kernel) (qC (v := .string _) rfl) ?_
    refine qI (i := 4) rfl (by decide +kernel) (qC (v := .int .i64 _) rfl) ?_
    refine qI (i := 5) rfl (by decide +kernel) (qS rfl (by omega)) ?_
    refine qI (i := 6) rfl (by decide +kernel) (pv_strcut (j + 1) s.length rfl rfl (.inr ⟨_, _, rfl, by push_cast; rfl⟩) (.inl ⟨rfl, rfl⟩) (by omega) (Nat.le_refl _)) ?_
    refine qI (i := 7) rfl (by decide +kernel) (pv_cat rfl rfl (by rw [List.length_drop, List.length_take, List.length_drop, List.length_take]; omega)) ?_
    refine qI (i := 8) rfl (by decide +kernel) (qD (v := .string _) rfl) ?_
    refine zI rfl ?_
    refine qQ ?_
    refine qM (vs := [_]) Tryz.results11 ⟨qJ rfl rfl, trivial⟩ fun V => ?_
    exact ⟨(zL E1 (qR V)), _, rfl, by simp only [List.length_append, List.length_drop, List.length_take, List.length_cons, List.length_nil]; omega⟩
   ·skip
    refine qO ?_
    refine qE ?_
    refine xp_dw [] rfl rfl rfl ?_
    refine qI (i := 0) rfl (by decide +kernel) (qC (v := .string _) rfl) ?_
    refine qI (i := 1) rfl (by decide +kernel) (qC (v := .int .i64 _) rfl) ?_
    refine qI (i := 2) rfl (by decide +kernel) (pv_strcut 0 j rfl rfl (.inl ⟨rfl, rfl⟩) (.inr ⟨_, _, rfl, rfl⟩) (by omega) (by omega)) ?_
    refine qI (i := 3) rfl (by decide +kernel) (qC (v := .int .u8 _) rfl) ?_
    refine qI (i := 7) rfl (by decide +kernel) (qC (v := .string _) rfl) ?_
    refine qI (i := 8) rfl (by decide +kernel) (qC (v := .int .i64 _) rfl) ?_
    refine qI (i := 9) rfl (by decide +kernel) (pv_strcut j s.length rfl rfl (.inr ⟨_, _, rfl, rfl⟩) (.inl ⟨rfl, rfl⟩) (by omega) (Nat.le_refl _)) ?_
    refine wV (i := 4) rfl (by decide +kernel) (by decide +kernel) ?_
    refine qX (zc := [_]) (vs := [(0, .int .u8 _)]) (cs := [_]) rfl rfl rfl rfl rfl rfl rfl fun b46 hb46 => ?_
    refine wN [_] rfl ?_
    refine wV (i := 5) rfl (by decide +kernel) (by decide +kernel) ?_
    refine op_b2s [by_] rfl rfl (fun V => rdP V (i := 0) rfl) rfl rfl rfl ?_
    refine qI (i := 6) rfl (by decide +kernel) (pv_cat rfl rfl (by rw [List.length_drop, List.length_take]; show _ + 1 < _; omega)) ?_
    refine qI (i := 10) rfl (by decide +kernel) (pv_cat rfl rfl (by rw [List.length_append, List.length_drop, List.length_take, List.length_drop, List.length_take]; show _ + 1 + _ < _; omega)) ?_
    refine qI (i := 11) rfl (by decide +kernel) (qD (v := .string _) rfl) ?_
    refine zI rfl ?_
    refine qQ ?_
    refine qM (vs := [_]) Tryz.results11 ⟨qJ rfl rfl, trivial⟩ fun V => ?_
    exact ⟨(zL E1 (qR V)), _, rfl, by simp only [List.length_append, List.length_drop, List.length_take, List.length_cons, List.length_nil]; omega⟩
theorem readM_sml {t : List UInt8} {m : MachP} {row e : Int} (h : readM t = (m, row, e)) : Sml m := by
 have key : m = m0 ∨ chkM m = 0 := by
  unfold readM at h
  split at h
  ·cases h; exact .inl rfl
  ·simp only at h
   split at h
   ·cases h; exact .inl rfl
   ·split at h
    ·cases h; exact .inl rfl
    ·split at h
     ·cases h; exact .inl rfl
     ·rename_i h2
      cases h
      exact .inr (by simpa using h2)
 rcases key with rfl | hc
 ·exact ⟨by decide, by decide, by decide, by decide⟩
 ·have M := check_ok hc
  have a1 := M.bl
  have a2 := M.pl
  have a3 := M.ll
  have a4 := M.wl
  have a5 := M.levers
  exact ⟨by omega, by omega, by omega, by omega⟩
def txtM (m : MachP) : List UInt8 := if chkM m = 0 then writeM m else []
theorem writeV_txt (m : MachP) : writeV m = .tuple #[.string (bs (txtM m)), .int .i64 (chkM m)] := rfl
end
set_option maxRecDepth 100000
set_option maxHeartbeats 8000000 in
theorem texts_runs (w : World) (m1 : MachP) (AB0 AQ0 AL0 AW0 : Option Addr) (cB0 cQ0 cL0 cW0 : Nat) (RM0 : MachR (absH w.heap) AB0 AQ0 AL0 AW0 m1) (u1 : m1.pins.length ≤ cQ0) (u2 : m1.links.length ≤ cL0) (t : List UInt8) (l : List Int) (hl : l.length < 2 ^ 63) (A : Option Addr) (c : Nat) (R : Row (absH w.heap) 1 intC A l) (at_ how : Int) (by_ : UInt8) (hP : Pow (absH w.heap)) (hE : Errs (absH w.heap)) :
  RunsTrue Tryz.prog 3 #[machV AB0 AQ0 AL0 AW0 cB0 cQ0 cL0 cW0 m1, .string (bs t), .slice A l.length c, .int .i64 at_, .int .i64 how, .int .u8 by_.toNat] w := by
 letI : Lvl := ⟨true, none, none⟩
 refine runs_body Tryz.func3 rfl Tryz.ntmps3 rfl Tryz.results3 rfl (by kernel_rfl) fun h hh => ?_
 rw [← hh] at RM0 R hP hE
 refine qE ?_
 refine qB rfl ?_
 refine op_box (v := .agg #[.int .i64 _, .int .i64 _, .int .i64 _, .int .i64 _, .int .i64 _, .slice _ _ _, .slice _ _ _, .slice _ _ _, .slice _ _ _]) (cs := [_, _, _, _, _, _, _, _, _]) rfl rfl fun b6 hb6 => ?_
 refine qN [_] rfl ?_
 refine qA (qD (v := .bool _) rfl) ?_
 refine qE ?_
 refine xp_cutB [27, 28, 29, 30, 31, 32, 33, 34, 35, 36, 37, 38, 39] 1 (α := Bool) (fun q => [(39, .bool q)]) (fun q L => L) (fun q h_q => q = false → largeB m1 ⟨[], []⟩ = false) ?_ ?_
 ·skip
  refine qB rfl ?_
  refine wO 0 (vs := [.int .i64 _, .int .i64 _, .int .i64 _, .int .i64 _, .int .i64 _, .slice _ _ _, .slice _ _ _, .slice _ _ _, .slice _ _ _]) rfl rfl rfl rfl rfl ?_
  refine qA (zC (zc := [_, _]) (vs := []) (cs := [_, _]) rfl rfl rfl rfl rfl rfl) ?_
  refine wJ (caps := []) (vs := [.agg _, .agg _]) rfl rfl rfl (large_ok m1 ⟨[], []⟩ AB0 AQ0 AL0 AW0 none none cB0 cQ0 cL0 cW0 0 0 h) ?_
  rintro _ g0 G0 rfl
  refine qA (qC (v := .bool _) rfl) ?_
  rcases Bool.eq_false_or_eq_true (largeB m1 ⟨[], []⟩) with hL | hL
  ·skip
   refine qH rfl hL ?_
   refine qH rfl hL ?_
   refine qH rfl hL ?_
   refine qH rfl hL ?_
   refine guard_un rfl ?_
   refine guard_un rfl ?_
   refine guard_un rfl ?_
   refine qH rfl hL ?_
   refine qA (qZ rfl hL (v := .bool _) rfl) ?_
   refine ⟨true, ⟨rfl, trivial⟩, rfl, rfl, G0, fun h3 E3 => (fun e => nomatch e), ?_⟩
   repeat (first | exact wQ _ _ | exact qW _ _ _ | refine wA (by decide) ?_ | refine qV rfl ?_ | refine wB rfl ?_)
  ·skip
   rcases Bool.eq_false_or_eq_true (decide ((t.length : Int) > 300)) with h3 | h3
   ·skip
    refine qF rfl hL ?_
    refine qA (qC (v := .string _) rfl) ?_
    refine qF rfl hL ?_
    refine qA (zF rfl rfl) ?_
    refine qF rfl hL ?_
    refine qA (qK (v := .bool _) rfl) ?_
    refine qF rfl hL ?_
    refine qA (qC (v := .bool _) rfl) ?_
    refine qF rfl h3 ?_
    refine qA (qC (v := .string _) rfl) ?_
    refine qF rfl h3 ?_
    refine qA (zF rfl rfl) ?_
    refine qF rfl h3 ?_
    refine qA (qK (v := .bool _) rfl) ?_
    refine qF rfl hL ?_
    refine qA (qZ rfl h3 (v := .bool _) rfl) ?_
    refine qA (wI rfl hL (v := .bool _) rfl) ?_
    refine ⟨_, ⟨rfl, trivial⟩, rfl, rfl, G0, fun h3 E3 => (fun _ => hL), ?_⟩
    repeat (first | exact wQ _ _ | exact qW _ _ _ | refine wA (by decide) ?_ | refine qV rfl ?_ | refine wB rfl ?_)
   ·skip
    refine qF rfl hL ?_
    refine qA (qC (v := .string _) rfl) ?_
    refine qF rfl hL ?_
    refine qA (zF rfl rfl) ?_
    refine qF rfl hL ?_
    refine qA (qK (v := .bool _) rfl) ?_
    refine qF rfl hL ?_
    refine qA (qC (v := .bool _) rfl) ?_
    refine qH rfl h3 ?_
    refine qH rfl h3 ?_
    refine qH rfl h3 ?_
    refine qF rfl hL ?_
    refine qA (wI rfl h3 (v := .bool _) rfl) ?_
    refine qA (wI rfl hL (v := .bool _) rfl) ?_
    refine ⟨false, ⟨rfl, trivial⟩, rfl, rfl, G0, fun h3 E3 => (fun _ => hL), ?_⟩
    repeat (first | exact wQ _ _ | exact qW _ _ _ | refine wA (by decide) ?_ | refine qV rfl ?_ | refine wB rfl ?_)
 ·rintro q T1 h_q E_q J_q
  refine qU [_] rfl ?_
  refine qP rfl (fun hq => ?_) (fun hq => ?_)
  ·skip
   refine qE ?_
   refine qB rfl ?_
   refine wJ (caps := []) (vs := []) rfl rfl rfl (rod_sounding rfl h_q) ?_
   rintro _ h26 E26 rfl
   refine qA (qD (v := .bool _) rfl) ?_
   refine qQ ?_
   exact ⟨rfl, fun V => (zL (zL E_q E26) (qR V)), rfl⟩
  ·skip
   have hLf := J_q hq
   have S0 := (large_sml hLf).1
   have S0w := S0.w
   refine qO ?_
   refine qE ?_
   refine xp_dw [false, true] rfl rfl rfl ?_
   refine wE (i := 0) rfl (by decide +kernel) ?_
   refine wO 0 (vs := [.int .i64 _, .int .i64 _, .int .i64 _, .int .i64 _, .int .i64 _, .slice _ _ _, .slice _ _ _, .slice _ _ _, .slice _ _ _]) rfl rfl rfl rfl rfl ?_
   refine qI (i := 1) rfl (by decide +kernel) (qC (v := .slice _ _ _) rfl) ?_
   refine qI (i := 5) rfl (by decide +kernel) (qC (v := .string _) rfl) ?_
   refine dw_eff (i := 2) rfl (by decide +kernel) ?_
   refine op_fnV rfl rfl ((NewPot_ok l hl A c h_q (R.ext E_q))) ?_
   rintro _ h1 _ Vmn E1 ⟨b, x, rfl, rfl⟩
   refine ⟨ext_outN rfl E1, ?_⟩
   refine wN [_, _] rfl ?_
   refine dw_eff (i := 3) rfl (by decide +kernel) ?_
   refine op_fnMM [_] [_] [] (vs := _) rfl rfl rfl ((MachineOf_okC b x 6 8 4 (by omega) (by omega) (by omega) h1)) ?_
   rintro _ h2 _ E2 ⟨x2, m, rfl, VM, Md, hCap⟩
   refine ⟨ext_wlm E2 _, ?_⟩
   refine wN [_, _] rfl ?_
   obtain ⟨AB, AQ, AL, AW, cB, cQ, cL, cW, rfl, RM⟩ := VM.open
   obtain ⟨hcQ, hcL⟩ := hCap _ _ _ _ _ _ _ _ _ rfl
   have SMd := Md.sml
   have SMw := SMd.w
   have hck := chk_of Md.ok
   have hsh := writeM_short Md (by omega) (by omega)
   refine wV (i := 4) rfl (by decide +kernel) (by decide +kernel) ?_
   refine op_buildSliceR (zc := [_, _, _, _, _, _, _, _, _]) [[.int .i64 _, .int .i64 _, .int .i64 _, .int .i64 _, .int .i64 _, .slice _ _ _, .slice _ _ _, .slice _ _ _, .slice _ _ _], [.int .i64 _, .int .i64 _, .int .i64 _, .int .i64 _, .int .i64 _, .slice _ _ _, .slice _ _ _, .slice _ _ _, .slice _ _ _]] rfl rfl rfl rfl rfl rfl rfl rfl fun b45 hb45 => ?_
   refine wN [_, _, _] rfl ?_
   refine qI (i := 7) rfl (by decide +kernel) (qD (v := .slice _ _ _) rfl) ?_
   refine dw_eff (i := 6) rfl (by decide +kernel) ?_
   refine qX (zc := [_]) (vs := [(0, .string _)]) (cs := [_]) rfl rfl rfl rfl rfl rfl rfl fun b47 hb47 => ?_
   refine ⟨ext_newM hb47 _, ?_⟩
   refine wN [_, _, _, _] rfl ?_
   refine qI (i := 8) rfl (by decide +kernel) (qD (v := .slice _ _ _) rfl) ?_
   refine zI rfl ?_
   refine qE ?_
   refine qE ?_
   refine qB rfl ?_
   refine qA (qD (v := .int .i64 _) rfl) ?_
   refine qT ?_
   refine goes_pub 2 rfl ?_
   intro g6 G6 P6
   obtain ⟨ms, hms⟩ : ∃ x : List MachP, x = [m1, m] := ⟨_, rfl⟩
   have hml : ms.length = 2 := by rw [hms]; rfl
   have hmS : ∀ x ∈ ms, Sml x := by
    rw [hms]
    intro x hx
    simp only [List.mem_cons, List.not_mem_nil, or_false] at hx
    rcases hx with rfl | rfl
    ·exact S0
    ·exact SMd
   have R6 := wX (enc := id) (m := 9) (l := [machC AB0 AQ0 AL0 AW0 cB0 cQ0 cL0 cW0 m1, machC AB AQ AL AW cB cQ cL cW m]) (by intro x hx; simp only [List.mem_cons, List.not_mem_nil, or_false] at hx; rcases hx with rfl | rfl <;> rfl) P6
   have EL6 : Els g6 TMa ms [machC AB0 AQ0 AL0 AW0 cB0 cQ0 cL0 cW0 m1, machC AB AQ AL AW cB cQ cL cW m] := by
    rw [hms]
    exact (Els.nil _ TMa).snoc ⟨_, _, _, _, _, _, _, _, rfl, RM0.ext (zL (zL (zL E_q E1) E2) G6), u1, u2⟩ |>.snoc ⟨_, _, _, _, _, _, _, _, rfl, RM.ext G6, hcQ, hcL⟩
   generalize [machC AB0 AQ0 AL0 AW0 cB0 cQ0 cL0 cW0 m1, machC AB AQ AL AW cB cQ cL cW m] = cs6 at R6 EL6
   refine xp_loopL [12, 14, 15, 16, 17, 18, 19, 48, 49, 50, 51, 52, 53, 54, 55, 56, 57, 58, 59, 60, 61, 62, 63, 64, 65, 66, 67, 68, 69, 70, 71, 72, 73, 74, 75, 76, 77, 78, 79, 80, 81] 4 (α := Nat × Acc) (fun ⟨i, a⟩ => [(15, .int .i64 i), (14, .slice a.A a.n a.c)]) (fun ⟨i, a⟩ L => L.set 3 (a.p)) (fun ⟨i, a⟩ h_i => i ≤ 2 ∧ AccR 9 1 ((t :: (ms.map txtM).take i).flatMap strC) a) (fun ⟨i, a⟩ => 2 - i) ((0, ⟨some (b47, .cells #[.string (bs t)] 9 (0, 0)), some ⟨b47, 0, none⟩, 1, 1⟩)) ⟨rfl, rfl, trivial⟩ (rfl) (⟨Nat.zero_le _, .inr ⟨b47, 1, 1, [], rfl, rfl, rfl, rfl⟩⟩) ?_
   rintro ⟨i, a⟩ T2 h_i E_i J_i
   refine qU [_, _, _, _] rfl ?_
   obtain ⟨K1, KA⟩ := J_i
   refine qE ?_
   refine qE ?_
   refine qB rfl ?_
   refine qA (qC (v := .int .i64 _) rfl) ?_
   refine qA (qC (v := .slice _ _ _) rfl) ?_
   refine qA (wP rfl rfl) ?_
   refine qA (qK (v := .bool _) rfl) ?_
   refine qP rfl (fun hi => ?_) (fun hi => ?_)
   ·skip
    have hil : i < 2 := by have := of_decide_eq_true hi; omega
    have him : i < ms.length := by omega
    have SM := hmS _ (List.getElem_mem him)
    have SMw := SM.w
    have htk : (t :: (ms.map txtM).take (i + 1)).flatMap strC = (t :: (ms.map txtM).take i).flatMap strC ++ [.string (bs (txtM ms[i]))] := by
     rw [List.take_add_one, List.getElem?_eq_getElem (by rw [List.length_map]; exact him), List.getElem_map, ← List.cons_append, List.flatMap_append]
     rfl
    have hfl : ((t :: (ms.map txtM).take i).flatMap strC).length ≤ 4 := by
     rw [wU (m := 1) (fun _ _ => rfl), List.length_cons, List.length_take, List.length_map]
     omega
    obtain ⟨hic, xB, xQ, xL, xW, yB, yQ, yL, yW, e6, RMi, _, _⟩ := (EL6.ext TMa.mono E_i).at him
    obtain ⟨g, off, hA, hc⟩ := (R6.ext E_i).at (by omega) hic
    have hc : Cells h_i g (off + i * 9) (machC xB xQ xL xW yB yQ yL yW ms[i]) := by rw [← e6]; exact hc
    generalize ms[i] = mi at *
    refine qO ?_
    refine qE ?_
    refine qT ?_
    refine qE ?_
    refine qB rfl ?_
    refine qA (qC (v := .slice _ _ _) rfl) ?_
    refine qA (qC (v := .int .i64 _) rfl) ?_
    refine qA (wD (m := 9) rfl hA rfl rfl rfl (by omega) (by omega)) ?_
    refine op_loadA rfl rfl rfl rfl hc ?_
    refine wJ (caps := []) (vs := [.agg #[.int .i64 _, .int .i64 _, .int .i64 _, .int .i64 _, .int .i64 _, .slice _ _ _, .slice _ _ _, .slice _ _ _, .slice _ _ _]]) rfl rfl rfl (Write_ok mi xB xQ xL xW yB yQ yL yW h_i (hP.ext (zL (zL (zL (zL E_q E1) E2) G6) E_i)) RMi (by omega)) ?_
    rintro v3 h3 E3 hv3
    rw [writeV_txt] at hv3
    subst hv3
    refine qA (qC (v := .tuple #[.string _, .int .i64 _]) rfl) ?_
    refine qA (qK (v := .string _) rfl) ?_
    refine qA (qK (v := .int .i64 _) rfl) ?_
    refine qA (qD (v := .string _) rfl) ?_
    refine qA (qD (v := .int .i64 _) rfl) ?_
    refine qE ?_
    refine qB rfl ?_
    refine qA (qC (v := .slice _ _ _) rfl) ?_
    refine qA (qC (v := .int .i64 _) rfl) ?_
    refine qA (wD (m := 9) rfl hA rfl rfl rfl (by omega) (by omega)) ?_
    refine op_loadA rfl rfl rfl rfl (hc.ext E3) ?_
    refine wJ (caps := []) (vs := [.agg #[.int .i64 _, .int .i64 _, .int .i64 _, .int .i64 _, .int .i64 _, .slice _ _ _, .slice _ _ _, .slice _ _ _, .slice _ _ _]]) rfl rfl rfl (WriteR_ok mi SM xB xQ xL xW yB yQ yL yW h3 (hP.ext (zL (zL (zL (zL (zL E_q E1) E2) G6) E_i) E3)) (RMi.ext E3)) ?_
    rintro v4 h4 E4 hv4
    rw [writeV_txt] at hv4
    subst hv4
    have gg : (!decide (txtM mi = txtM mi)) = false := by simp
    have gg2 : (chkM mi != chkM mi) = false := by simp
    refine qA (qC (v := .tuple #[.string _, .int .i64 _]) rfl) ?_
    refine qA (qK (v := .string _) rfl) ?_
    refine qA (qK (v := .int .i64 _) rfl) ?_
    refine qA (qD (v := .string _) rfl) ?_
    refine qA (qD (v := .int .i64 _) rfl) ?_
    refine qE ?_
    refine qE ?_
    refine qB rfl ?_
    refine qA (qC (v := .string _) rfl) ?_
    refine qA (qC (v := .string _) rfl) ?_
    refine qA (pv_strne rfl rfl) ?_
    refine qA (qC (v := .bool _) rfl) ?_
    refine qF rfl gg ?_
    refine qA (qC (v := .int .i64 _) rfl) ?_
    refine qF rfl gg ?_
    refine qA (qC (v := .int .i64 _) rfl) ?_
    refine qF rfl gg ?_
    refine qA (qK (v := .bool _) rfl) ?_
    refine qA (wI rfl gg (v := .bool _) rfl) ?_
    refine wT rfl (gg2) ?_
    refine qO ?_
    refine qB rfl ?_
    refine qA (qC (v := .slice _ _ _) rfl) ?_
    refine qA (qC (v := .string _) rfl) ?_
    refine qX (zc := [_]) (vs := [(0, .string _)]) (cs := [_]) rfl rfl rfl rfl rfl rfl rfl fun b80 hb80 => ?_
    refine qN [_, _, _, _, _] rfl ?_
    refine zA 3 KA rfl rfl rfl (fun V => rdP V (i := 4) rfl) rfl rfl rfl rfl rfl rfl rfl rfl rfl (by omega) rfl (by simp only [List.length_cons, List.length_nil]; omega) fun a2 h3a E3a ha2 => ?_
    refine qN [_, _, _, _, _] rfl ?_
    refine qA (qD (v := .slice _ _ _) rfl) ?_
    refine qB rfl ?_
    refine qA (qC (v := .int .i64 _) rfl) ?_
    refine qA (qS rfl (by omega)) ?_
    refine qA (qD (v := .int .i64 _) rfl) ?_
    refine ⟨(i + 1, a2), ⟨rfl, rfl, trivial⟩, rfl, rfl, (zL (zL (zL E_i E3) E4) E3a), fun h3 E3 => ⟨by omega, by rw [htk]; exact ha2⟩, by first | omega | (dsimp only; omega), ?_⟩
    repeat (first | exact qW _ _ _ | refine wA (by decide) ?_ | refine qV rfl ?_ | refine wB rfl ?_)
   ·skip
    have hie : i = 2 := by have := of_decide_eq_false hi; omega
    subst hie
    have hx : (t :: (ms.map txtM).take 2).flatMap strC = [.string (bs t), .string (bs (txtM m1)), .string (bs (txtM m))] := by rw [hms]; rfl
    rw [hx] at KA
    have htm : txtM m = writeM m := if_pos hck
    have KA0 := KA
    obtain ⟨p9, A9, n9, c9⟩ := a
    rcases KA0 with ⟨_, h2, _⟩ | ⟨b9, len9, cap9, junk9, h1, h2, h3, h4⟩
    ·cases h2
    simp only [Value.slice.injEq] at h2
    obtain ⟨rfl, rfl, rfl⟩ := h2
    simp only at h3
    subst h3
    obtain rfl : n9 = 3 := by simpa using h1.symm
    refine wS ?_
    refine qE ?_
    refine qB rfl ?_
    refine qA (qC (v := .slice _ _ _) rfl) ?_
    refine qA (qC (v := .slice _ _ _) rfl) ?_
    refine qA (pv_index (m := 1) rfl rfl rfl rfl (by decide) (by show (2 : Int) < ((3 : Nat) : Int); decide)) ?_
    refine qL 3 (v := .string (bs (txtM m))) rfl rfl rfl rfl ?_
    refine qA (qC (v := .int .i64 _) rfl) ?_
    refine qA (qC (v := .int .i64 _) rfl) ?_
    refine qA (qC (v := .int .u8 _) rfl) ?_
    refine wJ (caps := []) (vs := [.string _, .int .i64 _, .int .i64 _, .int .u8 _]) rfl rfl rfl (Harmed_ok (txtM m) at_ how by_ h_i (by rw [htm]; omega)) ?_
    rintro _ h5 E5 ⟨s5, rfl, hs5⟩
    refine qX (zc := [_]) (vs := [(0, .string _)]) (cs := [_]) rfl rfl rfl rfl rfl rfl rfl fun b90 hb90 => ?_
    refine qN [_, _, _, _, _] rfl ?_
    refine zA 3 KA rfl rfl rfl (fun V => rdP V (i := 4) rfl) rfl rfl rfl rfl rfl rfl rfl rfl rfl (by omega) rfl (by simp only [List.length_cons, List.length_nil]; omega) fun a3 h4a E4a ha3 => ?_
    refine qN [_, _, _, _, _] rfl ?_
    refine qA (qD (v := .slice _ _ _) rfl) ?_
    refine qE ?_
    refine qE ?_
    refine qB rfl ?_
    refine qA (qD (v := .int .i64 _) rfl) ?_
    refine qT ?_
    obtain ⟨ts, hts⟩ : ∃ x : List (List UInt8), x = [t, txtM m1, txtM m, s5] := ⟨_, rfl⟩
    have hx3 : [Value.string (bs t), .string (bs (txtM m1)), .string (bs (txtM m))] ++ [.string (bs s5)] = ts.flatMap strC := by rw [hts]; rfl
    have htl : ts.length = 4 := by rw [hts]; rfl
    have ha3' : AccR 9 1 (ts.flatMap strC) a3 := by rw [← hx3]; exact ha3
    obtain ⟨pT, AT, nT, cT⟩ := a3
    obtain rfl : nT = 4 := by have := AccR.len ha3'; rw [wU (m := 1) (fun _ _ => rfl)] at this; dsimp only at this; omega
    dsimp only at *
    refine goes_pubO 3 rfl ?_
    intro gT GT PT
    refine qU [_, _, _, _, _] rfl ?_
    have RT : Row gT 1 strC AT ts := ⟨fun _ _ => rfl, AccR.rd ha3' PT⟩
    refine zH [12, 20, 21, 22, 23, 24, 25, 26, 92, 93, 94, 95, 96, 97, 98, 99, 100, 101, 102, 103, 104, 105, 106, 107, 108, 109, 110, 111, 112, 113, 114, 115, 116, 117, 118, 119, 120, 121, 122, 123, 124, 125, 126, 127, 128, 129] 5 (α := Nat) (fun j => [(20, .int .i64 j)]) (fun j => _) (fun j h_j => j ≤ 4) (fun j => 4 - j) (0) ⟨rfl, trivial⟩ (rfl) (Nat.zero_le _) ?_
    rintro j T5 h_j E_j J_j
    refine qU [_, _, _, _, _] rfl ?_
    refine qE ?_
    refine qE ?_
    refine qB rfl ?_
    refine qA (qC (v := .int .i64 _) rfl) ?_
    refine qA (qC (v := .slice _ _ _) rfl) ?_
    refine qA (wP rfl rfl) ?_
    refine qA (qK (v := .bool _) rfl) ?_
    refine qP rfl (fun hj => ?_) (fun hj => ?_)
    ·skip
     have hjl : j < 4 := by have := of_decide_eq_true hj; omega
     have hjt : j < ts.length := by omega
     obtain ⟨g, off, hA, hc⟩ := (RT.ext E_j).at (by decide) hjt
     generalize ts[j] = s at *
     obtain ⟨mr, rr, er, hr⟩ : ∃ mr rr er, readM s = (mr, rr, er) := ⟨_, _, _, rfl⟩
     have gg1 : (rr != rr) = false := by simp
     have gg2 : (er != er) = false := by simp
     refine qO ?_
     refine qE ?_
     refine qT ?_
     refine qE ?_
     refine qB rfl ?_
     refine qA (qC (v := .slice _ _ _) rfl) ?_
     refine qA (qC (v := .int .i64 _) rfl) ?_
     refine qA (wD rfl hA rfl rfl rfl (by omega) (by omega)) ?_
     refine wL (v := .string _) rfl rfl ((hc) 0 _ rfl) ?_
     refine wJ (caps := []) (vs := [.string _]) rfl rfl rfl (Read_ok s h_j (hP.ext (zL (zL (zL (zL (zL (zL (zL (zL E_q E1) E2) G6) E_i) E5) E4a) GT) E_j)) (hE.ext (zL (zL (zL (zL (zL (zL (zL (zL E_q E1) E2) G6) E_i) E5) E4a) GT) E_j))) ?_
     rintro v6 h6 E6 ⟨V6, hv6, MV6⟩
     rw [hr] at hv6 MV6
     obtain ⟨B6, Q6, L6, W6, cB6, cQ6, cL6, cW6, rfl, RM6⟩ := MV6.open
     subst hv6
     refine qA (qC (v := .tuple #[.agg #[.int .i64 _, .int .i64 _, .int .i64 _, .int .i64 _, .int .i64 _, .slice _ _ _, .slice _ _ _, .slice _ _ _, .slice _ _ _], .int .i64 _, .int .i64 _]) rfl) ?_
     refine qA (qK (v := .agg #[.int .i64 _, .int .i64 _, .int .i64 _, .int .i64 _, .int .i64 _, .slice _ _ _, .slice _ _ _, .slice _ _ _, .slice _ _ _]) rfl) ?_
     refine qA (qK (v := .int .i64 _) rfl) ?_
     refine qA (qK (v := .int .i64 _) rfl) ?_
     refine zE (cs := [_, _, _, _, _, _, _, _, _]) rfl rfl fun b21 hb21 => ?_
     refine qN [_, _, _, _, _, _] rfl ?_
     refine qY 5 (v := .agg #[.int .i64 _, .int .i64 _, .int .i64 _, .int .i64 _, .int .i64 _, .slice _ _ _, .slice _ _ _, .slice _ _ _, .slice _ _ _]) (vs := [_, _, _, _, _, _, _, _, _]) (c' := [_, _, _, _, _, _, _, _, _]) rfl rfl rfl rfl rfl rfl rfl rfl rfl ?_
     refine qN [_, _, _, _, _, _] rfl ?_
     refine qA (qD (v := .int .i64 _) rfl) ?_
     refine qA (qD (v := .int .i64 _) rfl) ?_
     refine qE ?_
     refine qB rfl ?_
     refine qA (qC (v := .slice _ _ _) rfl) ?_
     refine qA (qC (v := .int .i64 _) rfl) ?_
     refine qA (wD rfl hA rfl rfl rfl (by omega) (by omega)) ?_
     refine wL (v := .string _) rfl rfl (((hc.ext E6)) 0 _ rfl) ?_
     refine wJ (caps := []) (vs := [.string _]) rfl rfl rfl (ReadR_ok s h6) ?_
     rintro v7 h7 E7 ⟨V7, hv7, MV7⟩
     rw [hr] at hv7 MV7
     obtain ⟨B7, Q7, L7, W7, cB7, cQ7, cL7, cW7, rfl, RM7⟩ := MV7.open
     subst hv7
     refine qA (qC (v := .tuple #[.agg #[.int .i64 _, .int .i64 _, .int .i64 _, .int .i64 _, .int .i64 _, .slice _ _ _, .slice _ _ _, .slice _ _ _, .slice _ _ _], .int .i64 _, .int .i64 _]) rfl) ?_
     refine qA (qK (v := .agg #[.int .i64 _, .int .i64 _, .int .i64 _, .int .i64 _, .int .i64 _, .slice _ _ _, .slice _ _ _, .slice _ _ _, .slice _ _ _]) rfl) ?_
     refine qA (qK (v := .int .i64 _) rfl) ?_
     refine qA (qK (v := .int .i64 _) rfl) ?_
     refine zE (cs := [_, _, _, _, _, _, _, _, _]) rfl rfl fun b24 hb24 => ?_
     refine qN [_, _, _, _, _, _, _] rfl ?_
     refine qY 6 (v := .agg #[.int .i64 _, .int .i64 _, .int .i64 _, .int .i64 _, .int .i64 _, .slice _ _ _, .slice _ _ _, .slice _ _ _, .slice _ _ _]) (vs := [_, _, _, _, _, _, _, _, _]) (c' := [_, _, _, _, _, _, _, _, _]) rfl rfl rfl rfl rfl rfl rfl rfl rfl ?_
     refine qN [_, _, _, _, _, _, _] rfl ?_
     refine qA (qD (v := .int .i64 _) rfl) ?_
     refine qA (qD (v := .int .i64 _) rfl) ?_
     refine qE ?_
     refine qB rfl ?_
     refine qA (qC (v := .int .i64 _) rfl) ?_
     refine qA (qC (v := .int .i64 _) rfl) ?_
     refine qA (qK (v := .bool _) rfl) ?_
     refine qA (qC (v := .bool _) rfl) ?_
     refine qF rfl gg1 ?_
     refine qA (qC (v := .int .i64 _) rfl) ?_
     refine qF rfl gg1 ?_
     refine qA (qC (v := .int .i64 _) rfl) ?_
     refine qF rfl gg1 ?_
     refine qA (qK (v := .bool _) rfl) ?_
     refine qA (wI rfl gg1 (v := .bool _) rfl) ?_
     refine qA (qC (v := .bool _) rfl) ?_
     refine qF rfl gg2 ?_
     refine wO 5 (vs := [.int .i64 _, .int .i64 _, .int .i64 _, .int .i64 _, .int .i64 _, .slice _ _ _, .slice _ _ _, .slice _ _ _, .slice _ _ _]) rfl rfl rfl rfl rfl ?_
     refine qF rfl gg2 ?_
     refine wO 6 (vs := [.int .i64 _, .int .i64 _, .int .i64 _, .int .i64 _, .int .i64 _, .slice _ _ _, .slice _ _ _, .slice _ _ _, .slice _ _ _]) rfl rfl rfl rfl rfl ?_
     refine qF rfl gg2 ?_
     refine wJ (caps := []) (vs := [.agg #[.int .i64 _, .int .i64 _, .int .i64 _, .int .i64 _, .int .i64 _, .slice _ _ _, .slice _ _ _, .slice _ _ _, .slice _ _ _], .agg #[.int .i64 _, .int .i64 _, .int .i64 _, .int .i64 _, .int .i64 _, .slice _ _ _, .slice _ _ _, .slice _ _ _, .slice _ _ _]]) rfl rfl rfl (SameMachines_ok mr (readM_sml hr) B6 Q6 L6 W6 cB6 cQ6 cL6 cW6 B7 Q7 L7 W7 cB7 cQ7 cL7 cW7 h7 (RM6.ext E7) (RM7.ext (Ext.refl _))) ?_
     rintro _ h8 E8 rfl
     refine qF rfl gg2 ?_
     refine qA (qK (v := .bool _) rfl) ?_
     refine qA (wI rfl gg2 (v := .bool _) rfl) ?_
     refine wT rfl (rfl) ?_
     refine qO ?_
     refine qB rfl ?_
     refine qA (qC (v := .int .i64 _) rfl) ?_
     refine qA (qS rfl (by omega)) ?_
     refine qA (qD (v := .int .i64 _) rfl) ?_
     refine ⟨j + 1, ⟨rfl, trivial⟩, rfl, rfl, (zL (zL (zL E_j E6) E7) E8), fun h3 E3 => hjl, by first | omega | (dsimp only; omega), ?_⟩
     repeat (first | exact qW _ _ _ | refine wA (by decide) ?_ | refine qV rfl ?_ | refine wB rfl ?_)
    ·skip
     refine wS ?_
     refine qE ?_
     refine qB rfl ?_
     refine wJ (caps := []) (vs := []) rfl rfl rfl (rod_sounding rfl h_j) ?_
     rintro _ h9 E9 rfl
     refine qA (qD (v := .bool _) rfl) ?_
     refine qQ ?_
     exact ⟨rfl, fun V => (zL (zL (zL (zL (zL (zL (zL (zL (zL (zL E_q E1) E2) G6) E_i) E5) E4a) GT) E_j) E9) (qR V)), rfl⟩
end Go.Proofs.YtmpahfdiebhdbaaGreatDoor
namespace Go.HL
open Go Go.Conc
section
variable {H : Type} {enc : TypeId × Value → H}
theorem leaving_of_change_and {a : Assume} {C : Checked} {os : Os} {f : FuncId} {fn : Func} {s : ChangeSpec} {conds : List PathCond} {apart fresh handsOn again : Bool} {X : World → Array Value → Prop}
  (hX : ∀ (w w' : World) (args : Array Value), w.heap = w'.heap → X w args → X w' args)
  (own : ownKnob C.prog.godebug = none) (started : os.Started) (hfn : C.prog.funcs[f]? = some fn)
  (witness : ∃ (w : World) (tape : Tape) (i : Input), w.os = os ∧ (w.forCall tape i).Shaped C.prog ∧ i.vars = [] ∧ Input.okWide C.prog (w.forCall tape i) .any w.heap.size f i ∧
   ((s.pre enc C.prog fn conds apart (w.forCall tape i).memory i.args ∧ X (w.forCall tape i).memory i.args) ∧ sizedMet enc C.prog fn (OpenSpec.ofChange s) apart (w.forCall tape i).memory i.args) ∧ a.holds C.prog (lone (Frame.enter C.prog f i.args .normal) [] (w.forCall tape i)))
  (runs : ∀ (W : World) (base : Nat) (args : Array Value) (ds gs : List (DataW H)) (before : List MemPlace),
   (∀ (j : Nat) t v, fn.params[j]? = some t → args[j]? = some v → Value.okWide C.prog W .any base t v) →
   DataW.Whole enc C.prog fn.params.toList s.vars apart W args.toList ds gs before →
   conds.all (PathCond.test C.prog ⟨fn.params.toList, ds, s.plain.varTypes C.prog, gs⟩) = true → X W args →
   a.holds C.prog (lone (Frame.enter C.prog f args .normal) [] W) →
   ∃ M last o w' t', runNT C.prog (M + 1) (solo (G (Frame.enter C.prog f args .normal) []) W) #[] = (.ended o w', t') ∧ runN C.prog M (solo (G (Frame.enter C.prog f args .normal) []) W) = .next last ∧
    step C.prog last = .ended o w' ∧ Conc.Good C.prog (fun v W' => s.post enc C.prog fn apart fresh handsOn again W args v W') last o w' t') :
  ReturnsInLeavingWide a C os f .any (fun w args => (s.pre enc C.prog fn conds apart w args ∧ X w args) ∧ sizedMet enc C.prog fn (OpenSpec.ofChange s) apart w args) (s.post enc C.prog fn apart fresh handsOn again) := by
 refine returnsInLeavingWide_of_good own started witness ?_
 intro w tape i _ _ _ hok hpre hholds
 obtain ⟨_, _, _, fn', hfn', _, _, _, _, hval⟩ := hok
 have e : fn' = fn := Option.some.inj (hfn'.symm.trans hfn)
 subst e
 obtain ⟨⟨⟨ds, gs, before, hw, hc⟩, hx⟩, _⟩ := hpre
 have hw' := DataW.Whole.of_heap (w' := w.forCall tape i) (by rfl) hw
 obtain ⟨M, last, o, w', t', h1, h2, h3, h4⟩ := runs (w.forCall tape i) w.heap.size i.args ds gs before hval hw' hc (hX _ _ _ (by rfl) hx) hholds
 exact ⟨M, last, o, w', t', h1, h2, h3, h4.mono fun v hp => ChangeSpec.post_blind hp⟩
end
theorem tied_goes {p : Pinned} {s : OpenSpec} {c : OpenClaim} (kinds : List LaidKind) (tests : Bool) (har : Bool × String) (lk : Bool)
  (hc : c.holds p s) (hw : c.wfByText s = true) (htie : c.laidByTextAt .later p kinds tests)
  (hst : c.start = .entering) (hnb : c.noBlocks = false ∧ c.again = false) (hm : p.checked.prog.mainIs = some (har.1, har.2.toList)) (hn : (!har.1 && har.2.isEmpty && !lk) = false)
  (hl : ∀ f fn, p.checked.prog.funcNamed c.func = some f → p.checked.prog.funcs[f]? = some fn → lk = p.checked.prog.looks [] ∧ ∀ (j : Nat) t, fn.params[j]? = some t → p.checked.prog.wantsStandIn t = false)
  (hg : true = c.goesBy p.checked.prog) :
  Claim7.holds p (.plain s) { stood := { row := c, standIns := [], harness := har, looks := lk }, kinds := [], alts := [], goes := true, laidByText := true, laidKinds := kinds, laidTests := tests, laidLooks := .later } := by
 have h6 : Claim7.isSixth { stood := { row := c, standIns := [], harness := har, looks := lk }, kinds := [] } = false := by simpa [Claim7.isSixth] using hn
 exact ⟨Claim7.tied_new_at .later kinds tests (Claim7.new_of_sixth hc har lk hst hnb hm h6 hl) hw, fun D hD => (by cases hD), htie, (fun h => by cases h), hg⟩
end Go.HL
