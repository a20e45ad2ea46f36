/- An own logic over the model, its walks and its plain laws, joined of parts W21 W22 V1 V2 V3 W74 BB W23 W24 Ta W25 Tb Tc Td U CC W26 Te W27 W28 Tf Tg W29 W30 W31 Th W32 Ti W33 Tj W34 W35 Tk Tl W37 W38 Tm W39 W40. Conditions: as each theorem states. -/
import Derived.Test.YtboigjfgpppeaaaDoorLa4
import Derived.Test.YtboigjfgpppeaaaDoorLa1
import Derived.Test.YtboigjfgpppeaaaDoorLa2
set_option linter.all false
/- Walks: the known season of the laws. Conditions: as each theorem states. -/
namespace Go.Proofs.YtboigjfgpppeaaaDoor
open Go Go.HL Go.Proofs Go.Wx
variable [Lvl]
set_option maxRecDepth 100000
theorem row_of_block {α : Type} {enc : α → List Value} {m : Nat} {l : List α} (hl : ∀ x ∈ l, (enc x).length = m) {h : AH} {b : Nat} {t : TypeId} (hb : h b = some (.cells (l.flatMap enc).toArray t (0, 0))) : Row h m enc (some ⟨b, 0, none⟩) l :=
  ⟨hl, fun _ => ⟨b, 0, rfl, cells_blk hb⟩⟩
def season0 : Season := ⟨[⟨20, 21⟩, ⟨28, 30⟩, ⟨10, 10⟩], [⟨50, 50⟩, ⟨50, 50⟩, ⟨50, 50⟩], [⟨1, ⟨30, 31⟩, ⟨10, 10⟩, ⟨1, 2⟩, ⟨9, 9⟩⟩, ⟨2, ⟨60, 60⟩, ⟨40, 40⟩, ⟨1, 1⟩, ⟨1, 2⟩⟩], []⟩
def told0 : Season := { season0 with reports := [⟨0, 1, true⟩] }
theorem to_ok (a b : Int) (h : AH) : FnT Tryd.prog 5 #[.int .i64 a, .int .i64 b] h (fun v _ => v = .agg #[.int .i64 a, .int .i64 b]) := by
  refine call_body Tryd.func5 rfl Tryd.ntmps5 rfl ?_
  refine xp_seq ?_
  refine xp_region rfl ?_
  refine op_alloc (cs := [_, _]) rfl rfl fun b4 hb4 => ?_
  refine wp_norm [_] rfl ?_
  refine xp_seq ?_
  refine xp_region rfl ?_
  refine op_pure (pv_move (v := .int .i64 _) rfl) ?_
  refine op_pure (pv_move (v := .int .i64 _) rfl) ?_
  refine op_pure (pv_build (zc := [_, _]) (vs := [(0, .int .i64 _), (1, .int .i64 _)]) (cs := [_, _]) rfl rfl rfl rfl rfl rfl) ?_
  refine op_storeP 0 (v := .agg #[.int .i64 _, .int .i64 _]) (vs := [_, _]) (c' := [_, _]) rfl rfl rfl rfl rfl rfl rfl rfl rfl ?_
  refine wp_norm [_] rfl ?_
  refine xp_ret ?_
  refine res_list (vs := [_]) Tryd.results5 ⟨resV_agg 0 rfl rfl rfl rfl rfl (vs := [.int .i64 _, .int .i64 _]) rfl, trivial⟩ fun V => ?_
  exact ⟨(ext_wl V), rfl⟩
theorem season0_ok (h : AH) : FnT Tryd.prog 4 #[] h (fun v h' => SeasonS h' season0 v) := by
  refine call_body Tryd.func4 rfl Tryd.ntmps4 rfl ?_
  refine xp_seq ?_
  refine xp_region rfl ?_
  refine op_alloc (cs := [_, _, _, _]) rfl rfl fun b0 hb0 => ?_
  refine wp_norm [_] rfl ?_
  refine xp_seq ?_
  refine xp_region rfl ?_
  refine op_fn (caps := []) (vs := [.int .i64 _, .int .i64 _]) rfl rfl rfl (to_ok _ _ h) ?_
  rintro _ h1 E1 rfl
  refine op_fn (caps := []) (vs := [.int .i64 _, .int .i64 _]) rfl rfl rfl (to_ok _ _ h1) ?_
  rintro _ h2 E2 rfl
  refine op_fn (caps := []) (vs := [.int .i64 _, .int .i64 _]) rfl rfl rfl (to_ok _ _ h2) ?_
  rintro _ h3 E3 rfl
  refine op_buildSlice (zc := [_, _]) (vs := [(0, .agg #[.int .i64 _, .int .i64 _]), (1, .agg #[.int .i64 _, .int .i64 _]), (2, .agg #[.int .i64 _, .int .i64 _])]) (cs := [_, _, _, _, _, _]) rfl rfl rfl rfl rfl rfl rfl fun b4 hb4 => ?_
  refine wp_norm [_, _] rfl ?_
  refine op_fn (caps := []) (vs := [.int .i64 _, .int .i64 _]) rfl rfl rfl (to_ok _ _ h3) ?_
  rintro _ h4 E4 rfl
  refine op_fn (caps := []) (vs := [.int .i64 _, .int .i64 _]) rfl rfl rfl (to_ok _ _ h4) ?_
  rintro _ h5 E5 rfl
  refine op_fn (caps := []) (vs := [.int .i64 _, .int .i64 _]) rfl rfl rfl (to_ok _ _ h5) ?_
  rintro _ h6 E6 rfl
  refine op_buildSlice (zc := [_, _]) (vs := [(0, .agg #[.int .i64 _, .int .i64 _]), (1, .agg #[.int .i64 _, .int .i64 _]), (2, .agg #[.int .i64 _, .int .i64 _])]) (cs := [_, _, _, _, _, _]) rfl rfl rfl rfl rfl rfl rfl fun b8 hb8 => ?_
  refine wp_norm [_, _, _] rfl ?_
  refine op_fn (caps := []) (vs := [.int .i64 _, .int .i64 _]) rfl rfl rfl (to_ok _ _ h6) ?_
  rintro _ h7 E7 rfl
  refine op_fn (caps := []) (vs := [.int .i64 _, .int .i64 _]) rfl rfl rfl (to_ok _ _ h7) ?_
  rintro _ h8 E8 rfl
  refine op_fn (caps := []) (vs := [.int .i64 _, .int .i64 _]) rfl rfl rfl (to_ok _ _ h8) ?_
  rintro _ h9 E9 rfl
  refine op_fn (caps := []) (vs := [.int .i64 _, .int .i64 _]) rfl rfl rfl (to_ok _ _ h9) ?_
  rintro _ h10 E10 rfl
  refine op_pure (pv_build (zc := [_, _, _, _, _, _, _, _, _]) (vs := [(0, .int .i64 _), (1, .agg #[.int .i64 _, .int .i64 _]), (2, .agg #[.int .i64 _, .int .i64 _]), (3, .agg #[.int .i64 _, .int .i64 _]), (4, .agg #[.int .i64 _, .int .i64 _])]) (cs := [_, _, _, _, _, _, _, _, _]) rfl rfl rfl rfl rfl rfl) ?_
  refine op_fn (caps := []) (vs := [.int .i64 _, .int .i64 _]) rfl rfl rfl (to_ok _ _ h10) ?_
  rintro _ h11 E11 rfl
  refine op_fn (caps := []) (vs := [.int .i64 _, .int .i64 _]) rfl rfl rfl (to_ok _ _ h11) ?_
  rintro _ h12 E12 rfl
  refine op_fn (caps := []) (vs := [.int .i64 _, .int .i64 _]) rfl rfl rfl (to_ok _ _ h12) ?_
  rintro _ h13 E13 rfl
  refine op_fn (caps := []) (vs := [.int .i64 _, .int .i64 _]) rfl rfl rfl (to_ok _ _ h13) ?_
  rintro _ h14 E14 rfl
  refine op_pure (pv_build (zc := [_, _, _, _, _, _, _, _, _]) (vs := [(0, .int .i64 _), (1, .agg #[.int .i64 _, .int .i64 _]), (2, .agg #[.int .i64 _, .int .i64 _]), (3, .agg #[.int .i64 _, .int .i64 _]), (4, .agg #[.int .i64 _, .int .i64 _])]) (cs := [_, _, _, _, _, _, _, _, _]) rfl rfl rfl rfl rfl rfl) ?_
  refine op_buildSliceR (zc := [_, _, _, _, _, _, _, _, _]) [[.int .i64 _, .int .i64 _, .int .i64 _, .int .i64 _, .int .i64 _, .int .i64 _, .int .i64 _, .int .i64 _, .int .i64 _], [.int .i64 _, .int .i64 _, .int .i64 _, .int .i64 _, .int .i64 _, .int .i64 _, .int .i64 _, .int .i64 _, .int .i64 _]] rfl rfl rfl rfl rfl rfl rfl rfl fun b19 hb19 => ?_
  refine wp_norm [_, _, _, _] rfl ?_
  refine op_pure (pv_build (zc := [_, _, _, _]) (vs := [(0, .slice _ _ _), (1, .slice _ _ _), (2, .slice _ _ _)]) (cs := [_, _, _, _]) rfl rfl rfl rfl rfl rfl) ?_
  refine op_storeP 0 (v := .agg #[.slice _ _ _, .slice _ _ _, .slice _ _ _, .slice _ _ _]) (vs := [_, _, _, _]) (c' := [_, _, _, _]) rfl rfl rfl rfl rfl rfl rfl rfl rfl ?_
  refine wp_norm [_, _, _, _] rfl ?_
  refine xp_ret ?_
  refine res_list (vs := [_]) Tryd.results4 ⟨resV_agg 0 rfl rfl rfl rfl rfl (vs := [.slice _ _ _, .slice _ _ _, .slice _ _ _, .slice _ _ _]) rfl, trivial⟩ fun V => ?_
  exact ⟨(Ext.trans (Ext.trans (Ext.trans (Ext.trans (Ext.trans (Ext.trans (Ext.trans (Ext.trans (Ext.trans (Ext.trans (Ext.trans (Ext.trans (Ext.trans (Ext.trans E1 E2) E3) E4) E5) E6) E7) E8) E9) E10) E11) E12) E13) E14) (ext_wl V)), some ⟨b4, 0, none⟩, some ⟨b8, 0, none⟩, some ⟨b19, 0, none⟩, none, 3, 3, 2, 0, rfl, row_of_block (enc := rgC) (m := 2) (l := season0.heats) (fun _ _ => rfl) (wl_get V (i := 1) rfl), row_of_block (enc := rgC) (m := 2) (l := season0.damps) (fun _ _ => rfl) (wl_get V (i := 2) rfl), row_of_block (enc := jointC) (m := 9) (l := season0.joints) (fun _ _ => rfl) (wl_get V (i := 3) rfl), fun _ h => (by cases h), Rd.nil _ _⟩
theorem told0_ok (h : AH) : FnT Tryd.prog 9 #[] h (fun v h' => SeasonS h' told0 v) := by
  refine call_body Tryd.func9 rfl Tryd.ntmps9 rfl ?_
  refine xp_seq ?_
  refine xp_region rfl ?_
  refine op_alloc (cs := [_, _, _, _]) rfl rfl fun b0 hb0 => ?_
  refine wp_norm [_] rfl ?_
  refine xp_seq ?_
  refine xp_region rfl ?_
  refine op_fn (caps := []) (vs := []) rfl rfl rfl (season0_ok h) ?_
  rintro _ h1 E1 ⟨A0, A1, A2, A3, c0, c1, c2, c3, rfl, R⟩
  refine op_alloc (cs := [_, _, _, _]) rfl rfl fun b1 hb1 => ?_
  refine wp_norm [_, _] rfl ?_
  refine op_storeP 1 (v := .agg #[.slice _ _ _, .slice _ _ _, .slice _ _ _, .slice _ _ _]) (vs := [_, _, _, _]) (c' := [_, _, _, _]) rfl rfl rfl rfl rfl rfl rfl rfl rfl ?_
  refine wp_norm [_, _] rfl ?_
  refine xp_seq ?_
  refine xp_region rfl ?_
  refine op_pure (pv_build (zc := [_, _, _]) (vs := [(1, .int .i64 _), (2, .bool _)]) (cs := [_, _, _]) rfl rfl rfl rfl rfl rfl) ?_
  refine op_buildSlice (zc := [_, _, _]) (vs := [(0, .agg #[.int .i64 _, .int .i64 _, .bool _])]) (cs := [_, _, _]) rfl rfl rfl rfl rfl rfl rfl fun b4 hb4 => ?_
  refine wp_norm [_, _, _] rfl ?_
  refine op_pure (pv_fieldAddr rfl rfl rfl rfl 3 rfl) ?_
  refine op_storeP 1 (v := .slice _ _ _) (vs := [_]) (c' := [_, _, _, _]) rfl rfl rfl rfl rfl rfl rfl rfl rfl ?_
  refine wp_norm [_, _, _] rfl ?_
  refine xp_seq ?_
  refine xp_region rfl ?_
  refine op_loadPA 1 (vs := [.slice _ _ _, .slice _ _ _, .slice _ _ _, .slice _ _ _]) rfl rfl rfl rfl rfl ?_
  refine op_storeP 0 (v := .agg #[.slice _ _ _, .slice _ _ _, .slice _ _ _, .slice _ _ _]) (vs := [_, _, _, _]) (c' := [_, _, _, _]) rfl rfl rfl rfl rfl rfl rfl rfl rfl ?_
  refine wp_norm [_, _, _] rfl ?_
  refine xp_ret ?_
  refine res_list (vs := [_]) Tryd.results9 ⟨resV_agg 0 rfl rfl rfl rfl rfl (vs := [.slice _ _ _, .slice _ _ _, .slice _ _ _, .slice _ _ _]) rfl, trivial⟩ fun V => ?_
  exact ⟨(Ext.trans E1 (ext_wl V)), A0, A1, A2, some ⟨b4, 0, none⟩, c0, c1, c2, 1, rfl, R.heats.ext (ext_wl V), R.damps.ext (ext_wl V), R.joints.ext (ext_wl V), row_of_block (enc := seenC) (m := 3) (l := told0.reports) (fun _ _ => rfl) (wl_get V (i := 2) rfl)⟩
theorem w_fails : failsL season0 0 = [1, 2, 3] ∧ failsE season0 0 = 0 := by decide +kernel
theorem w_first : firstL told0 = [1, 3] ∧ firstE told0 = 0 := by decide +kernel
theorem w_inspect : inspectL season0 0 = [1, 2] ∧ inspectE season0 0 = 0 := by decide +kernel
theorem w_margin : marginV season0 0 0 = 8 ∧ marginE season0 0 0 = 0 := by decide +kernel
theorem w_causes : causesL season0 0 = [3, 3, 2] := by decide +kernel
theorem small0 : Small season0 := ⟨by decide, by decide, by decide, by decide⟩
theorem smallT : Small told0 := ⟨by decide, by decide, by decide, by decide⟩
section
variable (A0 A1 A2 A3 : Option Addr) (c0 c1 c2 c3 : Nat) (h : AH)
theorem wFails (R : SeasonR h A0 A1 A2 A3 season0) : FnT Tryd.prog 8 #[seasonV A0 A1 A2 A3 c0 c1 c2 c3 season0, .int .i64 0] h (fun v h' => ∃ w, v = .tuple #[w, .int .i64 0] ∧ SlR h' 1 intC [1, 2, 3] w) := by
  have := Fails_ok season0 small0 0 A0 A1 A2 A3 c0 c1 c2 c3 h R
  rw [w_fails.1, w_fails.2] at this
  exact this
theorem wFirst (R : SeasonR h A0 A1 A2 A3 told0) : FnT Tryd.prog 15 #[seasonV A0 A1 A2 A3 c0 c1 c2 c3 told0] h (fun v h' => ∃ w, v = .tuple #[w, .int .i64 0] ∧ SlR h' 1 intC [1, 3] w) := by
  have := First_ok told0 smallT A0 A1 A2 A3 c0 c1 c2 c3 h R
  rw [w_first.1, w_first.2] at this
  exact this
theorem wInspect (R : SeasonR h A0 A1 A2 A3 season0) : FnT Tryd.prog 17 #[seasonV A0 A1 A2 A3 c0 c1 c2 c3 season0, .int .i64 0] h (fun v h' => ∃ w, v = .tuple #[w, .int .i64 0] ∧ SlR h' 1 intC [1, 2] w) := by
  have := Inspect_ok season0 small0 0 A0 A1 A2 A3 c0 c1 c2 c3 h R
  rw [w_inspect.1, w_inspect.2] at this
  exact this
theorem wMargin (R : SeasonR h A0 A1 A2 A3 season0) : FnT Tryd.prog 20 #[seasonV A0 A1 A2 A3 c0 c1 c2 c3 season0, .int .i64 0, .int .i64 0] h (fun v _ => v = .tuple #[.int .i64 8, .int .i64 0]) := by
  have := Margin_ok season0 small0 0 0 A0 A1 A2 A3 c0 c1 c2 c3 h R
  rw [w_margin.1, w_margin.2] at this
  exact this
theorem wCauses (R : SeasonR h A0 A1 A2 A3 season0) : FnT Tryd.prog 14 #[seasonV A0 A1 A2 A3 c0 c1 c2 c3 season0, .int .i64 0] h (fun v h' => ∃ w, v = .tuple #[w, .int .i64 0] ∧ SlR h' 1 intC [3, 3, 2] w) := by
  have := Causes_ok season0 small0 0 A0 A1 A2 A3 c0 c1 c2 c3 h R
  rw [w_causes, w_fails.2] at this
  exact this
end
end Go.Proofs.YtboigjfgpppeaaaDoor
/- Walks: the laws' check at the known season. Conditions: none. -/
namespace Go.Proofs.YtboigjfgpppeaaaDoor
open Go Go.HL Go.Proofs Go.Wx
variable [Lvl]
set_option maxRecDepth 100000
set_option maxHeartbeats 4000000 in
theorem warm_ok (h : AH) : FnT Tryd.prog 6 #[] h (fun v _ => v = .bool true) := by
  refine call_body Tryd.func6 rfl Tryd.ntmps6 rfl ?_
  refine xp_seq ?_
  refine xp_region rfl ?_
  refine op_pure (pv_assign (v := .bool _) rfl) ?_
  refine xp_seq ?_
  refine xp_region rfl ?_
  refine op_fn (caps := []) (vs := []) rfl rfl rfl (season0_ok h) ?_
  rintro _ h1 E1 ⟨A0, A1, A2, A3, c0, c1, c2, c3, rfl, R1⟩
  refine op_fn (caps := []) (vs := [.agg #[.slice _ _ _, .slice _ _ _, .slice _ _ _, .slice _ _ _], .int .i64 _]) rfl rfl rfl (wFails _ _ _ _ _ _ _ _ h1 R1) ?_
  rintro _ h2 E2 ⟨_, rfl, B2, d2, rfl, S2⟩
  refine op_pure (pv_move (v := .tuple #[.slice _ _ _, .int .i64 _]) rfl) ?_
  refine op_pure (pv_of (v := .slice _ _ _) rfl) ?_
  refine op_pure (pv_of (v := .int .i64 _) rfl) ?_
  refine op_pure (pv_assign (v := .slice _ _ _) rfl) ?_
  refine op_pure (pv_assign (v := .int .i64 _) rfl) ?_
  refine xp_seq ?_
  refine xp_region rfl ?_
  refine op_fn (caps := []) (vs := []) rfl rfl rfl (told0_ok h2) ?_
  rintro _ h3 E3 ⟨A0, A1, A2, A3, c0, c1, c2, c3, rfl, R3⟩
  refine op_fn (caps := []) (vs := [.agg #[.slice _ _ _, .slice _ _ _, .slice _ _ _, .slice _ _ _]]) rfl rfl rfl (wFirst _ _ _ _ _ _ _ _ h3 R3) ?_
  rintro _ h4 E4 ⟨_, rfl, B4, d4, rfl, S4⟩
  refine op_pure (pv_move (v := .tuple #[.slice _ _ _, .int .i64 _]) rfl) ?_
  refine op_pure (pv_of (v := .slice _ _ _) rfl) ?_
  refine op_pure (pv_of (v := .int .i64 _) rfl) ?_
  refine op_pure (pv_assign (v := .slice _ _ _) rfl) ?_
  refine op_pure (pv_assign (v := .int .i64 _) rfl) ?_
  refine xp_seq ?_
  refine xp_region rfl ?_
  refine op_fn (caps := []) (vs := []) rfl rfl rfl (season0_ok h4) ?_
  rintro _ h5 E5 ⟨A0, A1, A2, A3, c0, c1, c2, c3, rfl, R5⟩
  refine op_fn (caps := []) (vs := [.agg #[.slice _ _ _, .slice _ _ _, .slice _ _ _, .slice _ _ _], .int .i64 _]) rfl rfl rfl (wInspect _ _ _ _ _ _ _ _ h5 R5) ?_
  rintro _ h6 E6 ⟨_, rfl, B6, d6, rfl, S6⟩
  refine op_pure (pv_move (v := .tuple #[.slice _ _ _, .int .i64 _]) rfl) ?_
  refine op_pure (pv_of (v := .slice _ _ _) rfl) ?_
  refine op_pure (pv_of (v := .int .i64 _) rfl) ?_
  refine op_pure (pv_assign (v := .slice _ _ _) rfl) ?_
  refine op_pure (pv_assign (v := .int .i64 _) rfl) ?_
  refine xp_seq ?_
  refine xp_region rfl ?_
  refine op_fn (caps := []) (vs := []) rfl rfl rfl (season0_ok h6) ?_
  rintro _ h7 E7 ⟨A0, A1, A2, A3, c0, c1, c2, c3, rfl, R7⟩
  refine op_fn (caps := []) (vs := [.agg #[.slice _ _ _, .slice _ _ _, .slice _ _ _, .slice _ _ _], .int .i64 _, .int .i64 _]) rfl rfl rfl (wMargin _ _ _ _ _ _ _ _ h7 R7) ?_
  rintro _ h8 E8 rfl
  refine op_pure (pv_move (v := .tuple #[.int .i64 _, .int .i64 _]) rfl) ?_
  refine op_pure (pv_of (v := .int .i64 _) rfl) ?_
  refine op_pure (pv_of (v := .int .i64 _) rfl) ?_
  refine op_pure (pv_assign (v := .int .i64 _) rfl) ?_
  refine op_pure (pv_assign (v := .int .i64 _) rfl) ?_
  refine xp_seq ?_
  refine xp_region rfl ?_
  refine op_fn (caps := []) (vs := []) rfl rfl rfl (season0_ok h8) ?_
  rintro _ h9 E9 ⟨A0, A1, A2, A3, c0, c1, c2, c3, rfl, R9⟩
  refine op_fn (caps := []) (vs := [.agg #[.slice _ _ _, .slice _ _ _, .slice _ _ _, .slice _ _ _], .int .i64 _]) rfl rfl rfl (wCauses _ _ _ _ _ _ _ _ h9 R9) ?_
  rintro _ h10 E10 ⟨_, rfl, B10, d10, rfl, S10⟩
  refine op_pure (pv_move (v := .tuple #[.slice _ _ _, .int .i64 _]) rfl) ?_
  refine op_pure (pv_of (v := .slice _ _ _) rfl) ?_
  refine op_pure (pv_of (v := .int .i64 _) rfl) ?_
  refine op_pure (pv_assign (v := .slice _ _ _) rfl) ?_
  refine op_pure (pv_assign (v := .int .i64 _) rfl) ?_
  refine xp_seq ?_
  refine xp_region rfl ?_
  refine op_pure (pv_move (v := .int .i64 _) rfl) ?_
  refine op_pure (pv_of (v := .bool _) rfl) ?_
  refine op_pure (pv_move (v := .bool _) rfl) ?_
  refine guard_yes rfl rfl ?_
  refine op_pure (pv_move (v := .int .i64 _) rfl) ?_
  refine guard_yes rfl rfl ?_
  refine op_pure (pv_of (v := .bool _) rfl) ?_
  refine op_pure (pv_pickT rfl rfl (v := .bool _) rfl) ?_
  refine op_pure (pv_move (v := .bool _) rfl) ?_
  refine guard_yes rfl rfl ?_
  refine op_pure (pv_move (v := .int .i64 _) rfl) ?_
  refine guard_yes rfl rfl ?_
  refine op_pure (pv_of (v := .bool _) rfl) ?_
  refine op_pure (pv_pickT rfl rfl (v := .bool _) rfl) ?_
  refine op_pure (pv_move (v := .bool _) rfl) ?_
  refine guard_yes rfl rfl ?_
  refine op_pure (pv_move (v := .int .i64 _) rfl) ?_
  refine guard_yes rfl rfl ?_
  refine op_pure (pv_of (v := .bool _) rfl) ?_
  refine op_pure (pv_pickT rfl rfl (v := .bool _) rfl) ?_
  refine op_pure (pv_move (v := .bool _) rfl) ?_
  refine guard_yes rfl rfl ?_
  refine op_pure (pv_move (v := .int .i64 _) rfl) ?_
  refine guard_yes rfl rfl ?_
  refine op_pure (pv_of (v := .bool _) rfl) ?_
  refine op_pure (pv_pickT rfl rfl (v := .bool _) rfl) ?_
  refine op_pure (pv_move (v := .bool _) rfl) ?_
  refine guard_yes rfl rfl ?_
  refine op_pure (pv_move (v := .int .i64 _) rfl) ?_
  refine guard_yes rfl rfl ?_
  refine op_pure (pv_of (v := .bool _) rfl) ?_
  refine op_pure (pv_pickT rfl rfl (v := .bool _) rfl) ?_
  refine op_pure (pv_move (v := .bool _) rfl) ?_
  refine guard_yes rfl rfl ?_
  refine op_pure (pv_move (v := .slice _ _ _) rfl) ?_
  refine guard_yes rfl rfl ?_
  refine op_buildSlice (zc := [_]) (vs := [(0, .int .i64 _), (1, .int .i64 _), (2, .int .i64 _)]) (cs := [_, _, _]) rfl rfl rfl rfl rfl rfl rfl fun b60 hb60 => ?_
  refine wp_norm [_] rfl ?_
  refine guard_yes rfl rfl ?_
  refine wp_pub 0 rfl rfl ?_
  intro g1 F1 p1
  refine wp_norm [_] rfl ?_
  refine op_fn (caps := []) (vs := [.slice _ _ _, .slice _ _ _]) rfl rfl rfl (sameInts_ok [1, 2, 3] [1, 2, 3] _ _ _ _ g1 (S2.ext (Ext.trans (Ext.trans (Ext.trans (Ext.trans (Ext.trans (Ext.trans (Ext.trans (Ext.trans E3 E4) E5) E6) E7) E8) E9) E10) F1)) (row_of_block (enc := intC) (m := 1) (l := [1, 2, 3]) (fun _ _ => rfl) p1) (by decide)) ?_
  rintro _ g2 F2 rfl
  refine op_pure (pv_pickT rfl rfl (v := .bool _) rfl) ?_
  refine op_pure (pv_move (v := .bool _) rfl) ?_
  refine guard_yes rfl rfl ?_
  refine op_pure (pv_move (v := .slice _ _ _) rfl) ?_
  refine guard_yes rfl rfl ?_
  refine op_buildSlice (zc := [_]) (vs := [(0, .int .i64 _), (1, .int .i64 _)]) (cs := [_, _]) rfl rfl rfl rfl rfl rfl rfl fun b65 hb65 => ?_
  refine wp_norm [_, _] rfl ?_
  refine guard_yes rfl rfl ?_
  refine wp_pub 1 rfl rfl ?_
  intro g3 F3 p3
  refine wp_norm [_, _] rfl ?_
  refine op_fn (caps := []) (vs := [.slice _ _ _, .slice _ _ _]) rfl rfl rfl (sameInts_ok [1, 3] [1, 3] _ _ _ _ g3 (S4.ext (Ext.trans (Ext.trans (Ext.trans (Ext.trans (Ext.trans (Ext.trans (Ext.trans (Ext.trans E5 E6) E7) E8) E9) E10) F1) F2) F3)) (row_of_block (enc := intC) (m := 1) (l := [1, 3]) (fun _ _ => rfl) p3) (by decide)) ?_
  rintro _ g4 F4 rfl
  refine op_pure (pv_pickT rfl rfl (v := .bool _) rfl) ?_
  refine op_pure (pv_move (v := .bool _) rfl) ?_
  refine guard_yes rfl rfl ?_
  refine op_pure (pv_move (v := .slice _ _ _) rfl) ?_
  refine guard_yes rfl rfl ?_
  refine op_buildSlice (zc := [_]) (vs := [(0, .int .i64 _), (1, .int .i64 _)]) (cs := [_, _]) rfl rfl rfl rfl rfl rfl rfl fun b70 hb70 => ?_
  refine wp_norm [_, _, _] rfl ?_
  refine guard_yes rfl rfl ?_
  refine wp_pub 2 rfl rfl ?_
  intro g5 F5 p5
  refine wp_norm [_, _, _] rfl ?_
  refine op_fn (caps := []) (vs := [.slice _ _ _, .slice _ _ _]) rfl rfl rfl (sameInts_ok [1, 2] [1, 2] _ _ _ _ g5 (S6.ext (Ext.trans (Ext.trans (Ext.trans (Ext.trans (Ext.trans (Ext.trans (Ext.trans (Ext.trans E7 E8) E9) E10) F1) F2) F3) F4) F5)) (row_of_block (enc := intC) (m := 1) (l := [1, 2]) (fun _ _ => rfl) p5) (by decide)) ?_
  rintro _ g6 F6 rfl
  refine op_pure (pv_pickT rfl rfl (v := .bool _) rfl) ?_
  refine op_pure (pv_move (v := .bool _) rfl) ?_
  refine guard_yes rfl rfl ?_
  refine op_pure (pv_move (v := .slice _ _ _) rfl) ?_
  refine guard_yes rfl rfl ?_
  refine op_buildSlice (zc := [_]) (vs := [(0, .int .i64 _), (1, .int .i64 _), (2, .int .i64 _)]) (cs := [_, _, _]) rfl rfl rfl rfl rfl rfl rfl fun b75 hb75 => ?_
  refine wp_norm [_, _, _, _] rfl ?_
  refine guard_yes rfl rfl ?_
  refine wp_pub 3 rfl rfl ?_
  intro g7 F7 p7
  refine wp_norm [_, _, _, _] rfl ?_
  refine op_fn (caps := []) (vs := [.slice _ _ _, .slice _ _ _]) rfl rfl rfl (sameInts_ok [3, 3, 2] [3, 3, 2] _ _ _ _ g7 (S10.ext (Ext.trans (Ext.trans (Ext.trans (Ext.trans (Ext.trans (Ext.trans F1 F2) F3) F4) F5) F6) F7)) (row_of_block (enc := intC) (m := 1) (l := [3, 3, 2]) (fun _ _ => rfl) p7) (by decide)) ?_
  rintro _ g8 F8 rfl
  refine op_pure (pv_pickT rfl rfl (v := .bool _) rfl) ?_
  refine op_pure (pv_assign (v := .bool _) rfl) ?_
  refine xp_ret ?_
  refine res_list (vs := [_]) Tryd.results6 ⟨resV_tmp rfl rfl, trivial⟩ fun V => ?_
  exact ⟨(Ext.trans (Ext.trans (Ext.trans (Ext.trans (Ext.trans (Ext.trans (Ext.trans (Ext.trans (Ext.trans (Ext.trans (Ext.trans (Ext.trans (Ext.trans (Ext.trans (Ext.trans (Ext.trans (Ext.trans (Ext.trans E1 E2) E3) E4) E5) E6) E7) E8) E9) E10) F1) F2) F3) F4) F5) F6) F7) F8) (ext_wl V)), rfl⟩
end Go.Proofs.YtboigjfgpppeaaaDoor
/- Walks: strconv.Itoa for small numbers. Conditions: as each theorem states. -/
namespace Go.Rd
def dig (k : Nat) : UInt8 := UInt8.ofNat (48 + k)
def natL (n : Nat) : List UInt8 := if n < 10 then [dig n] else if n < 100 then [dig (n / 10), dig (n % 10)] else [dig (n / 100), dig (n / 10 % 10), dig (n % 10)]
def itoaL (n : Int) : List UInt8 := if n < 0 then 45 :: natL n.natAbs else natL n.toNat
def digitsL : List UInt8 := [48, 49, 50, 51, 52, 53, 54, 55, 56, 57, 97, 98, 99, 100, 101, 102, 103, 104, 105, 106, 107, 108, 109, 110, 111, 112, 113, 114, 115, 116, 117, 118, 119, 120, 121, 122]
def smallsL : List UInt8 := (List.range 100).flatMap fun k => [dig (k / 10), dig (k % 10)]
theorem digits_cut : ∀ i, i < 10 → (digitsL.take (i + 1)).drop i = natL i := by decide +kernel
theorem smalls_cut : ∀ i, i < 100 → 10 ≤ i → (smallsL.take (i * 2 + 2)).drop (i * 2) = natL i := by decide +kernel
theorem smalls_len : smallsL.length = 200 := by decide +kernel
theorem natL_len {n : Nat} : (natL n).length ≤ 3 := by
  unfold natL
  split
  · exact Nat.le_add_left 1 2
  · split
    · exact Nat.le_add_left 2 1
    · exact Nat.le_refl 3
theorem itoaL_len {n : Int} : (itoaL n).length ≤ 4 := by
  unfold itoaL
  split
  · exact Nat.succ_le_succ natL_len
  · exact Nat.le_trans natL_len (by decide)
end Go.Rd
namespace Go.Proofs.YtboigjfgpppeaaaDoor
open Go Go.HL Go.Proofs Go.Wx Go.Rd
section
variable [Lvl]
set_option maxRecDepth 100000
theorem small_ok (n : Nat) (h : AH) (hn : n < 100) : FnT Tryd.prog 75 #[.int .i64 (n : Int)] h (fun v _ => v = .string (bs (natL n))) := by
  refine call_body Tryd.func75 rfl Tryd.ntmps75 rfl ?_
  refine xp_seq ?_
  refine xp_region rfl ?_
  refine op_pure (pv_assign (v := .string _) rfl) ?_
  refine xp_seq ?_
  refine xp_seq ?_
  refine xp_region rfl ?_
  refine op_pure (pv_move (v := .int .i64 _) rfl) ?_
  refine op_pure (pv_of (v := .bool _) rfl) ?_
  refine xp_cond rfl (fun hc => ?_) (fun hc => ?_)
  · skip
    have hc' : n < 10 := by have := of_decide_eq_true hc; omega
    refine xp_seq ?_
    refine xp_region rfl ?_
    refine op_pure (pv_move (v := .int .i64 _) rfl) ?_
    refine op_pure (pv_move (v := .int .i64 _) rfl) ?_
    refine op_pure (pv_arith rfl (by omega)) ?_
    refine op_pure (pv_strcut (a := digitsL) n (n + 1) rfl rfl (.inr ⟨_, _, rfl, rfl⟩) (.inr ⟨_, _, rfl, by push_cast; rfl⟩) (by omega) (by show n + 1 ≤ 36; omega)) ?_
    refine op_pure (pv_assign (v := .string _) rfl) ?_
    refine xp_ret ?_
    refine res_list (vs := [_]) Tryd.results75 ⟨resV_tmp rfl rfl, trivial⟩ fun V => ?_
    exact ⟨(ext_wl V), strE (digits_cut n hc')⟩
  · skip
    have hc' : ¬ n < 10 := by have := of_decide_eq_false hc; omega
    refine xp_skip ?_
    refine xp_seq ?_
    refine xp_region rfl ?_
    refine op_pure (pv_move (v := .int .i64 _) rfl) ?_
    refine op_pure (pv_arith rfl (by omega)) ?_
    refine op_pure (pv_move (v := .int .i64 _) rfl) ?_
    refine op_pure (pv_arith rfl (by omega)) ?_
    refine op_pure (pv_arith rfl (by omega)) ?_
    refine op_pure (pv_strcut (a := smallsL) (n * 2) (n * 2 + 2) rfl rfl (.inr ⟨_, _, rfl, by push_cast; rfl⟩) (.inr ⟨_, _, rfl, by push_cast; rfl⟩) (by omega) (by rw [smalls_len]; omega)) ?_
    refine op_pure (pv_assign (v := .string _) rfl) ?_
    refine xp_ret ?_
    refine res_list (vs := [_]) Tryd.results75 ⟨resV_tmp rfl rfl, trivial⟩ fun V => ?_
    exact ⟨(ext_wl V), strE (smalls_cut n hn (by omega))⟩
/-- The powers of ten stand where the program's text lays them. -/
def Pow (h : AH) : Prop := Rd h (some ⟨0, 0, none⟩) ((List.range 4).map fun i => Value.int .u64 ((10 ^ i : Nat) : Int))
theorem Pow.ext {h h' : AH} (p : Pow h) (E : Ext h h') : Pow h' := Rd.ext p E
end
end Go.Proofs.YtboigjfgpppeaaaDoor
/- Walks: strconv.Itoa for minus one, and in all. Conditions: as each theorem states. -/
namespace Go.Proofs.YtboigjfgpppeaaaDoor
open Go Go.HL Go.Proofs Go.Wx Go.Rd
section
variable [Lvl]
set_option maxRecDepth 100000
theorem len1_ok (h : AH) : FnT Tryd.prog 80 #[.int .u64 1] h (fun v _ => v = .int .i64 1) := by
  refine call_body Tryd.func80 rfl Tryd.ntmps80 rfl ?_
  refine xp_seq ?_
  refine xp_region rfl ?_
  refine op_pure (pv_assign (v := .int .i64 _) rfl) ?_
  refine xp_seq ?_
  refine xp_seq ?_
  refine xp_region rfl ?_
  refine op_pure (pv_move (v := .int .u64 _) rfl) ?_
  refine op_pure (pv_of (v := .bool _) rfl) ?_
  refine xp_condF rfl (rfl) ?_
  refine xp_skip ?_
  refine xp_seq ?_
  refine xp_seq ?_
  refine xp_region rfl ?_
  refine op_pure (pv_move (v := .int .u64 _) rfl) ?_
  refine op_pure (pv_of (v := .bool _) rfl) ?_
  refine xp_condF rfl (rfl) ?_
  refine xp_skip ?_
  refine xp_seq ?_
  refine xp_seq ?_
  refine xp_region rfl ?_
  refine op_pure (pv_move (v := .int .u64 _) rfl) ?_
  refine op_pure (pv_of (v := .bool _) rfl) ?_
  refine xp_condF rfl (rfl) ?_
  refine xp_skip ?_
  refine xp_seq ?_
  refine xp_region rfl ?_
  refine op_pure (pv_move (v := .int .i64 _) rfl) ?_
  refine op_pure (pv_move (v := .int .u64 _) rfl) ?_
  refine op_pure (pv_of (v := .int .u8 1) rfl) ?_
  refine op_pure (pv_stridx (c := 1) 1 rfl rfl rfl rfl rfl) ?_
  refine op_pure (pv_of (v := .int .i64 1) rfl) ?_
  refine op_pure (pv_arith rfl (by omega)) ?_
  refine op_pure (pv_assign (v := .int .i64 _) rfl) ?_
  refine xp_ret ?_
  refine res_list (vs := [_]) Tryd.results80 ⟨resV_tmp rfl rfl, trivial⟩ fun V => ?_
  exact ⟨(ext_wl V), rfl⟩
theorem log1_ok (h : AH) : FnT Tryd.prog 79 #[.int .i64 1] h (fun v _ => v = .int .i64 0) := by
  refine call_body Tryd.func79 rfl Tryd.ntmps79 rfl ?_
  refine xp_seq ?_
  refine xp_region rfl ?_
  refine op_pure (pv_assign (v := .int .i64 _) rfl) ?_
  refine xp_seq ?_
  refine xp_region rfl ?_
  refine op_pure (pv_move (v := .int .i64 _) rfl) ?_
  refine op_pure (pv_arith rfl (by omega)) ?_
  refine op_pure (pv_of (v := .int .i64 0) rfl) ?_
  refine op_pure (pv_assign (v := .int .i64 _) rfl) ?_
  refine xp_ret ?_
  refine res_list (vs := [_]) Tryd.results79 ⟨resV_tmp rfl rfl, trivial⟩ fun V => ?_
  exact ⟨(ext_wl V), rfl⟩
theorem bool2_ok (b : Bool) (h : AH) : FnT Tryd.prog 81 #[.bool b] h (fun v _ => v = .int .i64 (if b then 1 else 0)) := by
  refine call_body Tryd.func81 rfl Tryd.ntmps81 rfl ?_
  refine xp_seq ?_
  refine xp_region rfl ?_
  refine op_pure (pv_assign (v := .int .i64 _) rfl) ?_
  refine xp_seq ?_
  refine xp_seq ?_
  refine xp_region rfl ?_
  refine op_pure (pv_move (v := .bool _) rfl) ?_
  refine xp_cond rfl (fun hb => ?_) (fun hb => ?_)
  · skip
    refine xp_seq ?_
    refine xp_region rfl ?_
    refine op_pure (pv_assign (v := .int .i64 _) rfl) ?_
    refine xp_ret ?_
    refine res_list (vs := [_]) Tryd.results81 ⟨resV_tmp rfl rfl, trivial⟩ fun V => ?_
    exact ⟨(ext_wl V), intE (by rw [hb]; rfl)⟩
  · skip
    refine xp_skip ?_
    refine xp_seq ?_
    refine xp_region rfl ?_
    refine op_pure (pv_assign (v := .int .i64 _) rfl) ?_
    refine xp_ret ?_
    refine res_list (vs := [_]) Tryd.results81 ⟨resV_tmp rfl rfl, trivial⟩ fun V => ?_
    exact ⟨(ext_wl V), intE (by rw [hb]; rfl)⟩
theorem digits1_ok (h : AH) (PW : Pow h) : FnT Tryd.prog 76 #[.int .u64 1] h (fun v _ => v = .int .i64 1) := by
  refine call_body Tryd.func76 rfl Tryd.ntmps76 rfl ?_
  refine xp_seq ?_
  refine xp_region rfl ?_
  refine op_pure (pv_assign (v := .int .i64 _) rfl) ?_
  refine xp_seq ?_
  refine xp_region rfl ?_
  refine op_pure (pv_move (v := .int .u64 _) rfl) ?_
  refine op_fn (caps := []) (vs := [.int .u64 _]) rfl rfl rfl (len1_ok h) ?_
  rintro _ h1 E1 rfl
  refine op_fn (caps := []) (vs := [.int .i64 _]) rfl rfl rfl (log1_ok h1) ?_
  rintro _ h2 E2 rfl
  refine op_pure (pv_assign (v := .int .i64 _) rfl) ?_
  refine xp_seq ?_
  refine xp_region rfl ?_
  refine op_pure (pv_move (v := .int .i64 _) rfl) ?_
  refine op_pure (pv_move (v := .int .u64 _) rfl) ?_
  refine op_pure (pv_move (v := .int .i64 _) rfl) ?_
  refine op_pure (pv_indexA rfl rfl rfl rfl (by omega) (by omega)) ?_
  obtain ⟨g, off, hA, hc⟩ := (PW.ext (Ext.trans E1 E2)) (by decide)
  cases hA
  refine op_load (v := .int .u64 _) rfl rfl ((hc) 0 _ rfl) ?_
  refine op_pure (pv_of (v := .bool _) rfl) ?_
  refine op_fn (caps := []) (vs := [.bool _]) rfl rfl rfl (bool2_ok _ h2) ?_
  rintro _ h3 E3 rfl
  refine op_pure (pv_arith rfl (by omega)) ?_
  refine op_pure (pv_assign (v := .int .i64 _) rfl) ?_
  refine xp_ret ?_
  refine res_list (vs := [_]) Tryd.results76 ⟨resV_tmp rfl rfl, trivial⟩ fun V => ?_
  exact ⟨(Ext.trans (Ext.trans (Ext.trans E1 E2) E3) (ext_wl V)), rfl⟩
def zer24 : List Value := List.replicate 24 (.int .u8 0)
theorem base1_ok (b : Nat) (h : AH) : FnM Tryd.prog (.func (.func 77) #[] ([] : List Value).toArray) [.slice (some ⟨b, 1, none⟩) 1 23, .int .u64 1] h [some (b, .cells zer24.toArray 134 (0, 0))]
    (fun v h' M' => M' = [some (b, .cells (zer24.set 1 (.int .u8 49)).toArray 134 (0, 0))]) := by
  refine fnM_body rfl rfl Tryd.func77 rfl Tryd.ntmps77 rfl ?_
  refine xp_seq ?_
  refine xp_region rfl ?_
  refine op_pure (pv_move (v := .slice _ _ _) rfl) ?_
  refine op_pure (pv_len rfl rfl) ?_
  refine op_pure (pv_assign (v := .int .i64 _) rfl) ?_
  refine xp_seq ?_
  refine xp_block ?_
  refine xp_unroll ?_
  refine xp_seq ?_
  refine xp_seq ?_
  refine xp_region rfl ?_
  refine op_pure (pv_move (v := .int .i64 _) rfl) ?_
  refine op_pure (pv_of (v := .bool _) rfl) ?_
  refine xp_condF rfl (rfl) ?_
  refine xp_exit ?_
  refine xp_seq ?_
  refine xp_region rfl ?_
  refine op_pure (pv_move (v := .int .u64 _) rfl) ?_
  refine op_pure (pv_of (v := .int .u32 1) rfl) ?_
  refine op_pure (pv_assign (v := .int .u32 _) rfl) ?_
  refine xp_seq ?_
  refine xp_seq ?_
  refine xp_region rfl ?_
  refine op_pure (pv_move (v := .int .i64 _) rfl) ?_
  refine op_pure (pv_of (v := .bool _) rfl) ?_
  refine xp_condF rfl (rfl) ?_
  refine xp_skip ?_
  refine xp_seq ?_
  refine xp_seq ?_
  refine xp_region rfl ?_
  refine op_pure (pv_move (v := .int .i64 _) rfl) ?_
  refine op_pure (pv_of (v := .bool _) rfl) ?_
  refine xp_condF rfl (rfl) ?_
  refine xp_skip ?_
  refine xp_seq ?_
  refine xp_region rfl ?_
  refine op_pure (pv_move (v := .int .i64 _) rfl) ?_
  refine op_pure (pv_of (v := .bool _) rfl) ?_
  refine xp_condT rfl (rfl) ?_
  refine xp_region rfl ?_
  refine op_pure (pv_move (v := .slice _ _ _) rfl) ?_
  refine op_pure (pv_move (v := .int .u32 _) rfl) ?_
  refine op_pure (pv_of (v := .int .u32 49) rfl) ?_
  refine op_pure (pv_of (v := .int .u8 49) rfl) ?_
  refine op_pure (pv_index rfl rfl rfl rfl (by omega) (by omega)) ?_
  refine op_storeP 0 (v := .int .u8 _) (vs := [_]) (c' := [_, _, _, _, _, _, _, _, _, _, _, _, _, _, _, _, _, _, _, _, _, _, _, _]) rfl rfl rfl rfl rfl rfl rfl rfl rfl ?_
  refine wp_norm [_] rfl ?_
  refine res_list (vs := []) Tryd.results77 trivial fun V => ?_
  exact ⟨_, _, rfl, V, (Ext.refl _), rfl⟩
theorem fmtNeg_ok (h : AH) (PW : Pow h) : FnT Tryd.prog 71 #[.int .i64 (-1), .int .i64 10] h (fun v _ => v = .string (bs (itoaL (-1)))) := by
  refine call_body Tryd.func71 rfl Tryd.ntmps71 rfl ?_
  refine xp_seq ?_
  refine xp_region rfl ?_
  refine op_pure (pv_assign (v := .string _) rfl) ?_
  refine xp_seq ?_
  refine xp_seq ?_
  refine xp_region rfl ?_
  refine op_pure (pv_move (v := .int .i64 _) rfl) ?_
  refine op_pure (pv_of (v := .bool _) rfl) ?_
  refine xp_condT rfl (rfl) ?_
  refine xp_seq ?_
  refine xp_seq ?_
  refine xp_region rfl ?_
  refine op_pure (pv_move (v := .int .i64 _) rfl) ?_
  refine op_pure (pv_of (v := .bool _) rfl) ?_
  refine op_pure (pv_move (v := .bool _) rfl) ?_
  refine guard_no rfl rfl ?_
  refine guard_no rfl rfl ?_
  refine op_pure (pv_pickF rfl rfl (v := .bool _) rfl) ?_
  refine xp_condF rfl (rfl) ?_
  refine xp_skip ?_
  refine xp_seq ?_
  refine xp_region rfl ?_
  refine op_alloc (cs := [_, _, _, _, _, _, _, _, _, _, _, _, _, _, _, _, _, _, _, _, _, _, _, _]) rfl rfl fun b5 hb5 => ?_
  refine wp_norm [_] rfl ?_
  refine xp_seq ?_
  refine xp_region rfl ?_
  refine op_pure (pv_move (v := .int .i64 _) rfl) ?_
  refine op_pure (pv_of (v := .int .u64 18446744073709551615) rfl) ?_
  refine op_pure (pv_assign (v := .int .u64 _) rfl) ?_
  refine xp_seq ?_
  refine xp_seq ?_
  refine xp_region rfl ?_
  refine op_pure (pv_move (v := .int .i64 _) rfl) ?_
  refine op_pure (pv_of (v := .bool _) rfl) ?_
  refine xp_condT rfl (rfl) ?_
  refine xp_region rfl ?_
  refine op_pure (pv_move (v := .int .u64 _) rfl) ?_
  refine op_pure (pv_of (v := .int .u64 1) rfl) ?_
  refine op_pure (pv_assign (v := .int .u64 _) rfl) ?_
  refine xp_seq ?_
  refine xp_region rfl ?_
  refine op_pure (pv_move (v := .int .u64 _) rfl) ?_
  refine op_fn (caps := []) (vs := [.int .u64 _]) rfl rfl rfl (digits1_ok h (PW.ext (Ext.refl _))) ?_
  rintro _ h1 E1 rfl
  refine op_pure (pv_assign (v := .int .i64 _) rfl) ?_
  refine xp_seq ?_
  refine xp_region rfl ?_
  refine op_pure (pv_move (v := .int .i64 _) rfl) ?_
  refine op_pure (pv_arith rfl (by omega)) ?_
  refine op_pure (pv_sliceALH 1 2 rfl (.inr ⟨_, _, rfl, rfl⟩) (.inr ⟨_, _, rfl, rfl⟩) rfl rfl (by decide) (by decide) (by decide) rfl rfl rfl) ?_
  refine op_pure (pv_move (v := .int .u64 _) rfl) ?_
  refine op_fnMM [] [_] [] (vs := _) rfl rfl rfl (base1_ok b5 h1) ?_
  rintro _ h2 _ E2 rfl
  refine wp_norm [_] rfl ?_
  refine xp_seq ?_
  refine xp_seq ?_
  refine xp_region rfl ?_
  refine op_pure (pv_move (v := .int .i64 _) rfl) ?_
  refine op_pure (pv_of (v := .bool _) rfl) ?_
  refine xp_condT rfl (rfl) ?_
  refine xp_seq ?_
  refine xp_region rfl ?_
  refine op_pure (pv_indexA rfl rfl rfl rfl (by omega) (by omega)) ?_
  refine op_storeP 0 (v := .int .u8 _) (vs := [_]) (c' := [_, _, _, _, _, _, _, _, _, _, _, _, _, _, _, _, _, _, _, _, _, _, _, _]) rfl rfl rfl rfl rfl rfl rfl rfl rfl ?_
  refine wp_norm [_] rfl ?_
  refine xp_seq ?_
  refine xp_region rfl ?_
  refine op_pure (pv_move (v := .int .i64 _) rfl) ?_
  refine op_pure (pv_arith rfl (by omega)) ?_
  refine op_pure (pv_sliceALH 0 2 rfl (.inl ⟨rfl, rfl⟩) (.inr ⟨_, _, rfl, rfl⟩) rfl rfl (by decide) (by decide) (by decide) rfl rfl rfl) ?_
  refine op_b2s [45, 49] rfl rfl (fun V => rd_take (rdP V (i := 0) rfl) 2) rfl rfl rfl ?_
  refine op_pure (pv_assign (v := .string _) rfl) ?_
  refine xp_ret ?_
  refine res_list (vs := [_]) Tryd.results71 ⟨resV_tmp rfl rfl, trivial⟩ fun V => ?_
  exact ⟨(Ext.trans (Ext.trans E1 E2) (ext_wl V)), rfl⟩
end
end Go.Proofs.YtboigjfgpppeaaaDoor
/- Walks: strconv.Itoa, lines, and rod.Write. Conditions: as each theorem states. -/
namespace Go.Rd
def ItoD (n : Int) : Prop := n = -1 ∨ (0 ≤ n ∧ n < 100)
theorem flat_take {α : Type} (f : α → List UInt8) {l : List α} {k : Nat} (hk : k < l.length) : (l.take (k + 1)).flatMap f = (l.take k).flatMap f ++ f l[k] := by
  rw [List.take_add_one, List.getElem?_eq_getElem hk, List.flatMap_append]
  show _ ++ (f l[k] ++ []) = _
  rw [List.append_nil]
end Go.Rd
namespace Go.Proofs.YtboigjfgpppeaaaDoor
open Go Go.HL Go.Proofs Go.Wx Go.Rd
section
variable [Lvl]
set_option maxRecDepth 100000
theorem fmt_ok (n : Int) (h : AH) (PW : Pow h) (hn : ItoD n) : FnT Tryd.prog 71 #[.int .i64 n, .int .i64 10] h (fun v _ => v = .string (bs (itoaL n))) := by
  rcases hn with rfl | ⟨h0, h1⟩
  · exact fmtNeg_ok h PW
  · obtain ⟨m, rfl⟩ : ∃ m : Nat, n = m := ⟨n.toNat, by omega⟩
    refine call_body Tryd.func71 rfl Tryd.ntmps71 rfl ?_
    refine xp_seq ?_
    refine xp_region rfl ?_
    refine op_pure (pv_assign (v := .string _) rfl) ?_
    refine xp_seq ?_
    refine xp_seq ?_
    refine xp_region rfl ?_
    refine op_pure (pv_move (v := .int .i64 _) rfl) ?_
    refine op_pure (pv_of (v := .bool _) rfl) ?_
    refine xp_condT rfl (rfl) ?_
    refine xp_seq ?_
    refine xp_seq ?_
    refine xp_region rfl ?_
    refine op_pure (pv_move (v := .int .i64 _) rfl) ?_
    refine op_pure (pv_of (v := .bool _) rfl) ?_
    refine op_pure (pv_move (v := .bool _) rfl) ?_
    have g0 : decide ((0 : Int) ≤ m) = true := decide_eq_true h0
    refine guard_yes rfl g0 ?_
    refine op_pure (pv_move (v := .int .i64 _) rfl) ?_
    refine guard_yes rfl g0 ?_
    refine op_pure (pv_of (v := .bool _) rfl) ?_
    refine op_pure (pv_pickT rfl g0 (v := .bool _) rfl) ?_
    refine xp_condT rfl (decide_eq_true h1) ?_
    refine xp_seq ?_
    refine xp_region rfl ?_
    refine op_pure (pv_move (v := .int .i64 _) rfl) ?_
    refine op_fn (caps := []) (vs := [.int .i64 _]) rfl rfl rfl (small_ok m h (by omega)) ?_
    rintro _ h2 E2 rfl
    refine op_pure (pv_assign (v := .string _) rfl) ?_
    refine xp_ret ?_
    refine res_list (vs := [_]) Tryd.results71 ⟨resV_tmp rfl rfl, trivial⟩ fun V => ?_
    exact ⟨(Ext.trans E2 (ext_wl V)), strE (by unfold itoaL; rw [if_neg (by omega)]; rfl)⟩
theorem itoa1_ok (n : Int) (h : AH) (PW : Pow h) (hn : ItoD n) : FnT Tryd.prog 67 #[.int .i64 n] h (fun v _ => v = .string (bs (itoaL n))) := by
  refine call_body Tryd.func67 rfl Tryd.ntmps67 rfl ?_
  refine xp_seq ?_
  refine xp_region rfl ?_
  refine op_pure (pv_assign (v := .string _) rfl) ?_
  refine xp_seq ?_
  refine xp_region rfl ?_
  refine op_pure (pv_move (v := .int .i64 _) rfl) ?_
  refine op_fn (caps := []) (vs := [.int .i64 _, .int .i64 _]) rfl rfl rfl (fmt_ok n h (PW.ext (Ext.refl _)) hn) ?_
  rintro _ h2 E2 rfl
  refine op_pure (pv_assign (v := .string _) rfl) ?_
  refine xp_ret ?_
  refine res_list (vs := [_]) Tryd.results67 ⟨resV_tmp rfl rfl, trivial⟩ fun V => ?_
  exact ⟨(Ext.trans E2 (ext_wl V)), rfl⟩
theorem itoa_ok (n : Int) (h : AH) (PW : Pow h) (hn : ItoD n) : FnT Tryd.prog 52 #[.int .i64 n] h (fun v _ => v = .string (bs (itoaL n))) := by
  refine call_body Tryd.func52 rfl Tryd.ntmps52 rfl ?_
  refine xp_seq ?_
  refine xp_region rfl ?_
  refine op_pure (pv_assign (v := .string _) rfl) ?_
  refine xp_seq ?_
  refine xp_region rfl ?_
  refine op_pure (pv_move (v := .int .i64 _) rfl) ?_
  refine op_fn (caps := []) (vs := [.int .i64 _]) rfl rfl rfl (itoa1_ok n h (PW.ext (Ext.refl _)) hn) ?_
  rintro _ h2 E2 rfl
  refine op_pure (pv_assign (v := .string _) rfl) ?_
  refine xp_ret ?_
  refine res_list (vs := [_]) Tryd.results52 ⟨resV_tmp rfl rfl, trivial⟩ fun V => ?_
  exact ⟨(Ext.trans E2 (ext_wl V)), rfl⟩
end
end Go.Proofs.YtboigjfgpppeaaaDoor
/- Walks: wax.Write. Conditions: as each theorem states. -/
namespace Go.Wx
open Go.Rd
def rgL (x : Rg) : List UInt8 := itoaL x.mn ++ [47] ++ itoaL x.mx
def weekL (x : Rg × Rg) : List UInt8 := [119, 101, 101, 107, 32] ++ rgL x.1 ++ [32] ++ rgL x.2 ++ [10]
def kindW (k : Int) : List UInt8 := if k = 2 then [108, 101, 97, 116, 104, 101, 114] else [119, 97, 120]
def jointL (j : Joint) : List UInt8 := kindW j.kind ++ [32] ++ rgL j.high ++ [32] ++ rgL j.low ++ [32] ++ rgL j.weeks ++ [32] ++ rgL j.life ++ [10]
def seenW (b : Bool) : List UInt8 := if b then [102, 97, 105, 108, 101, 100] else [119, 104, 111, 108, 101]
def seenL (r : Seen) : List UInt8 := [115, 101, 101, 110, 32] ++ itoaL r.joint ++ [32] ++ itoaL r.week ++ [32] ++ seenW r.failed ++ [10]
def ws1 (s : Season) : List UInt8 := (s.heats.zip s.damps).flatMap weekL
def ws2 (s : Season) : List UInt8 := ws1 s ++ s.joints.flatMap jointL
def ws3 (s : Season) : List UInt8 := ws2 s ++ s.reports.flatMap seenL
def writeS (s : Season) : List UInt8 := ws3 s ++ [115, 112, 114, 105, 110, 103, 10]
theorem rgL_len (x : Rg) : (rgL x).length ≤ 9 := by
  have h1 := itoaL_len (n := x.mn)
  have h2 := itoaL_len (n := x.mx)
  unfold rgL
  simp only [List.length_append, List.length_cons, List.length_nil]
  omega
theorem kindW_len (k : Int) : (kindW k).length ≤ 7 := by unfold kindW; split <;> decide
theorem seenW_len (b : Bool) : (seenW b).length ≤ 6 := by unfold seenW; split <;> decide
theorem weekL_len (x : Rg × Rg) : (weekL x).length ≤ 25 := by
  have h1 := rgL_len x.1
  have h2 := rgL_len x.2
  unfold weekL
  simp only [List.length_append, List.length_cons, List.length_nil]
  omega
theorem jointL_len (j : Joint) : (jointL j).length ≤ 48 := by
  have h1 := rgL_len j.high
  have h2 := rgL_len j.low
  have h3 := rgL_len j.weeks
  have h4 := rgL_len j.life
  have h5 := kindW_len j.kind
  unfold jointL
  simp only [List.length_append, List.length_cons, List.length_nil]
  omega
theorem seenL_len (r : Seen) : (seenL r).length ≤ 22 := by
  have h1 := itoaL_len (n := r.joint)
  have h2 := itoaL_len (n := r.week)
  have h3 := seenW_len r.failed
  unfold seenL
  simp only [List.length_append, List.length_cons, List.length_nil]
  omega
theorem flat_leS {α : Type} (f : α → List UInt8) (q : Nat) (hq : ∀ x, (f x).length ≤ q) (l : List α) : (l.flatMap f).length ≤ q * l.length := by
  induction l with
  | nil => exact Nat.le_refl 0
  | cons n l ih =>
    have := hq n
    rw [List.flatMap_cons, List.length_append, List.length_cons, Nat.mul_succ]
    omega
def RgN (x : Rg) : Prop := ItoD x.mn ∧ ItoD x.mx
structure NumS (s : Season) : Prop where
  hb : ∀ r ∈ s.heats, RgN r
  db : ∀ r ∈ s.damps, RgN r
  jb : ∀ j ∈ s.joints, RgN j.high ∧ RgN j.low ∧ RgN j.weeks ∧ RgN j.life
  rb : ∀ r ∈ s.reports, ItoD r.joint ∧ ItoD r.week
end Go.Wx
namespace Go.Proofs.YtboigjfgpppeaaaDoor
open Go Go.HL Go.Proofs Go.Wx Go.Rd
section
variable [Lvl]
set_option maxRecDepth 100000
theorem written_ok (x : Rg) (h : AH) (PW : Pow h) (hn : RgN x) : FnT Tryd.prog 51 #[rgV x] h (fun v _ => v = .string (bs (rgL x))) := by
  refine call_body Tryd.func51 rfl Tryd.ntmps51 rfl ?_
  refine xp_seq ?_
  refine xp_region rfl ?_
  refine op_box (v := .agg #[.int .i64 _, .int .i64 _]) (cs := [_, _]) rfl rfl fun b1 hb1 => ?_
  refine wp_norm [_] rfl ?_
  refine op_pure (pv_assign (v := .string _) rfl) ?_
  refine xp_seq ?_
  refine xp_dw [] rfl rfl rfl ?_
  refine dw_pure (i := 0) rfl (by decide +kernel) (pv_fieldAddr rfl rfl rfl rfl 0 rfl) ?_
  refine dw_load (i := 1) rfl (by decide +kernel) ?_
  refine op_loadP 0 (v := .int .i64 _) rfl rfl rfl rfl ?_
  refine dw_pure (i := 4) rfl (by decide +kernel) (pv_fieldAddr rfl rfl rfl rfl 1 rfl) ?_
  refine dw_load (i := 5) rfl (by decide +kernel) ?_
  refine op_loadP 0 (v := .int .i64 _) rfl rfl rfl rfl ?_
  refine dw_eff (i := 2) rfl (by decide +kernel) ?_
  refine op_fn (caps := []) (vs := [.int .i64 _]) rfl rfl rfl (itoa_ok _ h (PW.ext (Ext.refl _)) hn.1) ?_
  rintro _ h1 E1 rfl
  refine ⟨ext_wlm E1 _, ?_⟩
  have z1 := itoaL_len (n := x.mn)
  have z2 := itoaL_len (n := x.mx)
  refine dw_pure (i := 3) rfl (by decide +kernel) (pv_cat (b := [47]) rfl rfl (by show _ + 1 < _; omega)) ?_
  refine dw_last (i := 6) rfl (by decide +kernel) (by decide +kernel) ?_
  refine op_fn (caps := []) (vs := [.int .i64 _]) rfl rfl rfl (itoa_ok _ h1 (PW.ext E1) hn.2) ?_
  rintro _ h2 E2 rfl
  refine dw_pure (i := 7) rfl (by decide +kernel) (pv_cat rfl rfl (by simp only [List.length_append, List.length_cons, List.length_nil]; omega)) ?_
  refine dw_pure (i := 8) rfl (by decide +kernel) (pv_assign (v := .string _) rfl) ?_
  refine dw_end rfl ?_
  refine xp_ret ?_
  refine res_list (vs := [_]) Tryd.results51 ⟨resV_tmp rfl rfl, trivial⟩ fun V => ?_
  exact ⟨(Ext.trans (Ext.trans E1 E2) (ext_wl V)), rfl⟩
def writeSV (s : Season) : Value := .tuple #[.string (bs (if checkM s = 0 then writeS s else [])), .int .i64 (checkM s)]
set_option maxHeartbeats 4000000 in
theorem WriteS_ok (s : Season) (Sm : Small s) (hN : checkM s = 0 → NumS s) (A0 A1 A2 A3 : Option Addr) (c0 c1 c2 c3 : Nat) (h : AH) (PW : Pow h) (R : SeasonR h A0 A1 A2 A3 s) :
    FnT Tryd.prog 22 #[seasonV A0 A1 A2 A3 c0 c1 c2 c3 s] h (fun v _ => v = writeSV s) := by
  refine call_body Tryd.func22 rfl Tryd.ntmps22 rfl ?_
  refine xp_seq ?_
  refine xp_region rfl ?_
  refine op_box (v := .agg #[.slice _ _ _, .slice _ _ _, .slice _ _ _, .slice _ _ _]) (cs := [_, _, _, _]) rfl rfl fun b1 hb1 => ?_
  refine wp_norm [_] rfl ?_
  refine op_pure (pv_assign (v := .string _) rfl) ?_
  refine op_pure (pv_assign (v := .int .i64 _) rfl) ?_
  refine xp_seq ?_
  refine xp_seq ?_
  refine xp_region rfl ?_
  refine op_loadPA 0 (vs := [.slice _ _ _, .slice _ _ _, .slice _ _ _, .slice _ _ _]) rfl rfl rfl rfl rfl ?_
  refine op_fn (caps := []) (vs := [.agg #[.slice _ _ _, .slice _ _ _, .slice _ _ _, .slice _ _ _]]) rfl rfl rfl (check_ok s A0 A1 A2 A3 c0 c1 c2 c3 h (R.ext (Ext.refl _)) Sm.h0 Sm.h1 Sm.h2 Sm.h3) ?_
  rintro _ h1 E1 rfl
  refine op_pure (pv_assign (v := .int .i64 _) rfl) ?_
  refine xp_seq ?_
  refine xp_region rfl ?_
  refine op_pure (pv_move (v := .int .i64 _) rfl) ?_
  refine op_pure (pv_of (v := .bool _) rfl) ?_
  refine xp_cond rfl (fun hc => ?_) (fun hc => ?_)
  · skip
    have hc' : checkM s ≠ 0 := by simpa using hc
    refine xp_seq ?_
    refine xp_region rfl ?_
    refine op_pure (pv_move (v := .int .i64 _) rfl) ?_
    refine op_pure (pv_assign (v := .string _) rfl) ?_
    refine op_pure (pv_assign (v := .int .i64 _) rfl) ?_
    refine xp_ret ?_
    refine res_list (vs := [_, _]) Tryd.results22 ⟨resV_tmp rfl rfl, resV_tmp rfl rfl, trivial⟩ fun V => ?_
    exact ⟨(Ext.trans E1 (ext_wl V)), by rw [writeSV, if_neg hc']; rfl⟩
  · skip
    have hc' : checkM s = 0 := by simpa using hc
    have N := hN hc'
    have SB := (checkM_zero hc').b
    have q1 := SB.w6
    have q2 := SB.dl
    have q3 := SB.j3
    have q4 := SB.rl
    have hzl : (s.heats.zip s.damps).length = s.heats.length := by rw [List.length_zip]; omega
    refine xp_skip ?_
    refine xp_seq ?_
    refine xp_region rfl ?_
    refine op_pure (pv_assign (v := .string _) rfl) ?_
    refine xp_seq ?_
    refine xp_seq ?_
    refine xp_region rfl ?_
    refine op_pure (pv_fieldAddr rfl rfl rfl rfl 0 rfl) ?_
    refine op_loadP 0 (v := .slice _ _ _) rfl rfl rfl rfl ?_
    refine op_pure (pv_len rfl rfl) ?_
    refine op_pure (pv_move (v := .int .i64 _) rfl) ?_
    refine xp_block ?_
    refine xp_loopB [5, 6, 21, 22, 23, 24, 25, 26, 27, 28, 29, 30, 31, 32, 33, 34, 35, 36, 37, 38, 39, 40, 41, 42] 1 (α := Nat) (fun k => [(21, .int .i64 k), (5, .string (bs (((s.heats.zip s.damps).take k).flatMap weekL)))]) (fun k => _) (fun k h_k => k ≤ s.heats.length) (fun k => s.heats.length - k) (0) ⟨rfl, strE (by simp), trivial⟩ (rfl) (Nat.zero_le _) ?_
    rintro k T1 h_k E_k J_k
    refine goes_norm [_] rfl ?_
    have z1 := flat_leS weekL 25 weekL_len ((s.heats.zip s.damps).take k)
    have z2 : ((s.heats.zip s.damps).take k).length ≤ 6 := by rw [List.length_take]; omega
    refine xp_seq ?_
    refine xp_region rfl ?_
    refine op_pure (pv_of (v := .bool _) rfl) ?_
    refine xp_seq ?_
    refine xp_cond rfl (fun hk => ?_) (fun hk => ?_)
    · skip
      have hkl : k < s.heats.length := ltI hk
      have hkd : k < s.damps.length := by omega
      have hkz : k < (s.heats.zip s.damps).length := by omega
      obtain ⟨g, off, hA, hg⟩ := (R.heats.ext (Ext.trans E1 E_k)).at (by omega) hkl
      obtain ⟨g2, off2, hA2, hg2⟩ := (R.damps.ext (Ext.trans E1 E_k)).at (by omega) hkd
      have w1 := rgL_len s.heats[k]
      have w2 := rgL_len s.damps[k]
      refine xp_skip ?_
      refine xp_seq ?_
      refine xp_block ?_
      refine xp_seq ?_
      refine xp_region rfl ?_
      refine op_pure (pv_move (v := .int .i64 _) rfl) ?_
      refine op_pure (pv_assign (v := .int .i64 _) rfl) ?_
      refine xp_dw [] rfl rfl rfl ?_
      refine dw_pure (i := 0) rfl (by decide +kernel) (pv_move (v := .string _) rfl) ?_
      refine dw_pure (i := 1) rfl (by decide +kernel) (pv_fieldAddr rfl rfl rfl rfl 0 rfl) ?_
      refine dw_load (i := 2) rfl (by decide +kernel) ?_
      refine op_loadP 0 (v := .slice _ _ _) rfl rfl rfl rfl ?_
      refine dw_pure (i := 3) rfl (by decide +kernel) (pv_move (v := .int .i64 _) rfl) ?_
      refine dw_pure (i := 4) rfl (by decide +kernel) (pv_indexE rfl hA rfl rfl rfl (by omega) (by omega)) ?_
      refine dw_load (i := 5) rfl (by decide +kernel) ?_
      refine op_loadA rfl rfl rfl rfl (hg) ?_
      refine dw_pure (i := 9) rfl (by decide +kernel) (pv_fieldAddr rfl rfl rfl rfl 1 rfl) ?_
      refine dw_load (i := 10) rfl (by decide +kernel) ?_
      refine op_loadP 0 (v := .slice _ _ _) rfl rfl rfl rfl ?_
      refine dw_pure (i := 11) rfl (by decide +kernel) (pv_move (v := .int .i64 _) rfl) ?_
      refine dw_pure (i := 12) rfl (by decide +kernel) (pv_indexE rfl hA2 rfl rfl rfl (by omega) (by omega)) ?_
      refine dw_load (i := 13) rfl (by decide +kernel) ?_
      refine op_loadA rfl rfl rfl rfl (hg2) ?_
      refine dw_eff (i := 6) rfl (by decide +kernel) ?_
      refine op_fn (caps := []) (vs := [.agg #[.int .i64 _, .int .i64 _]]) rfl rfl rfl (written_ok s.heats[k] h_k (PW.ext (Ext.trans E1 E_k)) (N.hb _ (List.getElem_mem hkl))) ?_
      rintro _ h2 E2 rfl
      refine ⟨ext_wlm E2 _, ?_⟩
      refine dw_pure (i := 7) rfl (by decide +kernel) (pv_cat (a := [119, 101, 101, 107, 32]) rfl rfl (by show 5 + _ < _; omega)) ?_
      refine dw_pure (i := 8) rfl (by decide +kernel) (pv_cat (b := [32]) rfl rfl (by simp only [List.length_append, List.length_cons, List.length_nil]; omega)) ?_
      refine dw_last (i := 14) rfl (by decide +kernel) (by decide +kernel) ?_
      refine op_fn (caps := []) (vs := [.agg #[.int .i64 _, .int .i64 _]]) rfl rfl rfl (written_ok s.damps[k] h2 (PW.ext (Ext.trans (Ext.trans E1 E_k) E2)) (N.db _ (List.getElem_mem hkd))) ?_
      rintro _ h3 E3 rfl
      refine dw_pure (i := 15) rfl (by decide +kernel) (pv_cat rfl rfl (by simp only [List.length_append, List.length_cons, List.length_nil]; omega)) ?_
      refine dw_pure (i := 16) rfl (by decide +kernel) (pv_cat (b := [10]) rfl rfl (by simp only [List.length_append, List.length_cons, List.length_nil]; omega)) ?_
      refine dw_pure (i := 17) rfl (by decide +kernel) (pv_cat rfl rfl (by simp only [List.length_append, List.length_cons, List.length_nil]; omega)) ?_
      refine dw_pure (i := 18) rfl (by decide +kernel) (pv_assign (v := .string _) rfl) ?_
      refine dw_end rfl ?_
      refine xp_region rfl ?_
      refine op_pure (pv_arith rfl (by omega)) ?_
      refine op_pure (pv_move (v := .int .i64 _) rfl) ?_
      refine ⟨k + 1, ⟨rfl, strE (by rw [flat_take weekL hkz, List.getElem_zip]; rfl), trivial⟩, rfl, rfl, (Ext.trans (Ext.trans E_k E2) E3), fun h3 E3 => hkl, by first | omega | (dsimp only; omega), ?_⟩
      repeat (first | exact off_base _ _ _ | refine off_upd (by decide) ?_ | refine off_updL rfl ?_ | refine off_mix rfl ?_)
    · skip
      have hke : k = s.heats.length := by have := geI hk; omega
      subst hke
      rw [← hzl, List.take_length] at z1 z2
      have y1 : (ws1 s).length < 200 := by unfold ws1; omega
      have e1 : ((s.heats.zip s.damps).take s.heats.length).flatMap weekL = ws1 s := by rw [← hzl, List.take_length]; rfl
      refine xp_exit ?_
      refine xp_seq ?_
      refine xp_seq ?_
      refine xp_region rfl ?_
      refine op_pure (pv_fieldAddr rfl rfl rfl rfl 2 rfl) ?_
      refine op_loadP 0 (v := .slice _ _ _) rfl rfl rfl rfl ?_
      refine op_pure (pv_len rfl rfl) ?_
      refine op_pure (pv_move (v := .int .i64 _) rfl) ?_
      refine xp_block ?_
      refine xp_loopB [5, 8, 9, 46, 47, 48, 49, 50, 51, 52, 53, 54, 55, 56, 57, 58, 59, 60, 61, 62, 63, 64, 65, 66, 67, 68, 69, 70, 71, 72, 73, 74, 75, 76, 77] 1 (α := Nat) (fun k2 => [(46, .int .i64 k2), (5, .string (bs (ws1 s ++ (s.joints.take k2).flatMap jointL)))]) (fun k2 => _) (fun k2 h_k2 => k2 ≤ s.joints.length) (fun k2 => s.joints.length - k2) (0) ⟨rfl, strE (by rw [e1]; simp), trivial⟩ (rfl) (Nat.zero_le _) ?_
      rintro k2 T2 h_k2 E_k2 J_k2
      refine goes_norm [_] rfl ?_
      have x1 := flat_leS jointL 48 jointL_len (s.joints.take k2)
      have x2 : (s.joints.take k2).length ≤ 3 := by rw [List.length_take]; omega
      refine xp_seq ?_
      refine xp_region rfl ?_
      refine op_pure (pv_of (v := .bool _) rfl) ?_
      refine xp_seq ?_
      refine xp_cond rfl (fun hk2 => ?_) (fun hk2 => ?_)
      · skip
        have hkl : k2 < s.joints.length := ltI hk2
        obtain ⟨g, off, hA, hg⟩ := (R.joints.ext (Ext.trans (Ext.trans E1 E_k) E_k2)).at (by omega) hkl
        obtain ⟨nj1, nj2, nj3, nj4⟩ := N.jb _ (List.getElem_mem hkl)
        have w1 := rgL_len s.joints[k2].high
        have w2 := rgL_len s.joints[k2].low
        have w3 := rgL_len s.joints[k2].weeks
        have w4 := rgL_len s.joints[k2].life
        have w5 := kindW_len s.joints[k2].kind
        refine xp_skip ?_
        refine xp_seq ?_
        refine xp_block ?_
        refine xp_seq ?_
        refine xp_region rfl ?_
        refine op_pure (pv_indexE rfl hA rfl rfl rfl (by omega) (by omega)) ?_
        refine op_loadA rfl rfl rfl rfl (hg) ?_
        refine op_alloc (cs := [_, _, _, _, _, _, _, _, _]) rfl rfl fun b8 hb8 => ?_
        refine wp_norm [_, _] rfl ?_
        refine op_storeP 1 (v := .agg #[.int .i64 _, .int .i64 _, .int .i64 _, .int .i64 _, .int .i64 _, .int .i64 _, .int .i64 _, .int .i64 _, .int .i64 _]) (vs := [_, _, _, _, _, _, _, _, _]) (c' := [_, _, _, _, _, _, _, _, _]) rfl rfl rfl rfl rfl rfl rfl rfl rfl ?_
        refine wp_norm [_, _] rfl ?_
        refine xp_seq ?_
        refine xp_region rfl ?_
        refine op_pure (pv_assign (v := .string _) rfl) ?_
        refine xp_cutB [9, 50, 51, 52] 2 (α := Unit) (fun u => [(9, .string (bs (kindW s.joints[k2].kind)))]) (fun u L => L) (fun u h_u => True) ?_ ?_
        · skip
          refine xp_seq ?_
          refine xp_region rfl ?_
          refine op_pure (pv_fieldAddr rfl rfl rfl rfl 0 rfl) ?_
          refine op_loadP 1 (v := .int .i64 _) rfl rfl rfl rfl ?_
          refine op_pure (pv_of (v := .bool _) rfl) ?_
          refine xp_cond rfl (fun hj => ?_) (fun hj => ?_)
          · skip
            have hj' : s.joints[k2].kind = 2 := by simpa using hj
            refine xp_region rfl ?_
            refine op_pure (pv_assign (v := .string _) rfl) ?_
            refine ⟨(), ⟨strE (by rw [kindW, if_pos hj']), trivial⟩, rfl, rfl, (Ext.refl _), fun h3 E3 => by first | trivial | omega | (refine ⟨?_, ?_⟩ <;> omega), ?_⟩
            repeat (first | exact off_refl _ _ | exact off_base _ _ _ | refine off_upd (by decide) ?_ | refine off_updL rfl ?_ | refine off_mix rfl ?_)
          · skip
            have hj' : ¬ s.joints[k2].kind = 2 := by simpa using hj
            refine xp_skip ?_
            refine ⟨(), ⟨strE (by rw [kindW, if_neg hj']), trivial⟩, rfl, rfl, (Ext.refl _), fun h3 E3 => by first | trivial | omega | (refine ⟨?_, ?_⟩ <;> omega), ?_⟩
            repeat (first | exact off_refl _ _ | exact off_base _ _ _ | refine off_upd (by decide) ?_ | refine off_updL rfl ?_ | refine off_mix rfl ?_)
        rintro u T3 h_u E_u J_u
        refine goes_norm [_, _] rfl ?_
        refine xp_dw [] rfl rfl rfl ?_
        refine dw_pure (i := 0) rfl (by decide +kernel) (pv_move (v := .string _) rfl) ?_
        refine dw_pure (i := 1) rfl (by decide +kernel) (pv_move (v := .string _) rfl) ?_
        refine dw_pure (i := 2) rfl (by decide +kernel) (pv_cat (b := [32]) rfl rfl (by simp only [List.length_append, List.length_cons, List.length_nil]; omega)) ?_
        refine dw_pure (i := 3) rfl (by decide +kernel) (pv_fieldAddr rfl rfl rfl rfl 1 rfl) ?_
        refine dw_load (i := 4) rfl (by decide +kernel) ?_
        refine op_loadPA 1 (vs := [.int .i64 _, .int .i64 _]) rfl rfl rfl rfl rfl ?_
        refine dw_pure (i := 8) rfl (by decide +kernel) (pv_fieldAddr rfl rfl rfl rfl 3 rfl) ?_
        refine dw_load (i := 9) rfl (by decide +kernel) ?_
        refine op_loadPA 1 (vs := [.int .i64 _, .int .i64 _]) rfl rfl rfl rfl rfl ?_
        refine dw_pure (i := 13) rfl (by decide +kernel) (pv_fieldAddr rfl rfl rfl rfl 5 rfl) ?_
        refine dw_load (i := 14) rfl (by decide +kernel) ?_
        refine op_loadPA 1 (vs := [.int .i64 _, .int .i64 _]) rfl rfl rfl rfl rfl ?_
        refine dw_pure (i := 18) rfl (by decide +kernel) (pv_fieldAddr rfl rfl rfl rfl 7 rfl) ?_
        refine dw_load (i := 19) rfl (by decide +kernel) ?_
        refine op_loadPA 1 (vs := [.int .i64 _, .int .i64 _]) rfl rfl rfl rfl rfl ?_
        refine dw_eff (i := 5) rfl (by decide +kernel) ?_
        refine op_fn (caps := []) (vs := [.agg #[.int .i64 _, .int .i64 _]]) rfl rfl rfl (written_ok s.joints[k2].high h_u (PW.ext (Ext.trans (Ext.trans (Ext.trans E1 E_k) E_k2) E_u)) nj1) ?_
        rintro _ h2 E2 rfl
        refine ⟨ext_wlm E2 _, ?_⟩
        refine dw_pure (i := 6) rfl (by decide +kernel) (pv_cat rfl rfl (by simp only [List.length_append, List.length_cons, List.length_nil]; omega)) ?_
        refine dw_pure (i := 7) rfl (by decide +kernel) (pv_cat (b := [32]) rfl rfl (by simp only [List.length_append, List.length_cons, List.length_nil]; omega)) ?_
        refine dw_eff (i := 10) rfl (by decide +kernel) ?_
        refine op_fn (caps := []) (vs := [.agg #[.int .i64 _, .int .i64 _]]) rfl rfl rfl (written_ok s.joints[k2].low h2 (PW.ext (Ext.trans (Ext.trans (Ext.trans (Ext.trans E1 E_k) E_k2) E_u) E2)) nj2) ?_
        rintro _ h3 E3 rfl
        refine ⟨ext_wlm E3 _, ?_⟩
        refine dw_pure (i := 11) rfl (by decide +kernel) (pv_cat rfl rfl (by simp only [List.length_append, List.length_cons, List.length_nil]; omega)) ?_
        refine dw_pure (i := 12) rfl (by decide +kernel) (pv_cat (b := [32]) rfl rfl (by simp only [List.length_append, List.length_cons, List.length_nil]; omega)) ?_
        refine dw_eff (i := 15) rfl (by decide +kernel) ?_
        refine op_fn (caps := []) (vs := [.agg #[.int .i64 _, .int .i64 _]]) rfl rfl rfl (written_ok s.joints[k2].weeks h3 (PW.ext (Ext.trans (Ext.trans (Ext.trans (Ext.trans (Ext.trans E1 E_k) E_k2) E_u) E2) E3)) nj3) ?_
        rintro _ h4 E4 rfl
        refine ⟨ext_wlm E4 _, ?_⟩
        refine dw_pure (i := 16) rfl (by decide +kernel) (pv_cat rfl rfl (by simp only [List.length_append, List.length_cons, List.length_nil]; omega)) ?_
        refine dw_pure (i := 17) rfl (by decide +kernel) (pv_cat (b := [32]) rfl rfl (by simp only [List.length_append, List.length_cons, List.length_nil]; omega)) ?_
        refine dw_last (i := 20) rfl (by decide +kernel) (by decide +kernel) ?_
        refine op_fn (caps := []) (vs := [.agg #[.int .i64 _, .int .i64 _]]) rfl rfl rfl (written_ok s.joints[k2].life h4 (PW.ext (Ext.trans (Ext.trans (Ext.trans (Ext.trans (Ext.trans (Ext.trans E1 E_k) E_k2) E_u) E2) E3) E4)) nj4) ?_
        rintro _ h5 E5 rfl
        refine dw_pure (i := 21) rfl (by decide +kernel) (pv_cat rfl rfl (by simp only [List.length_append, List.length_cons, List.length_nil]; omega)) ?_
        refine dw_pure (i := 22) rfl (by decide +kernel) (pv_cat (b := [10]) rfl rfl (by simp only [List.length_append, List.length_cons, List.length_nil]; omega)) ?_
        refine dw_pure (i := 23) rfl (by decide +kernel) (pv_cat rfl rfl (by simp only [List.length_append, List.length_cons, List.length_nil]; omega)) ?_
        refine dw_pure (i := 24) rfl (by decide +kernel) (pv_assign (v := .string _) rfl) ?_
        refine dw_end rfl ?_
        refine xp_region rfl ?_
        refine op_pure (pv_arith rfl (by omega)) ?_
        refine op_pure (pv_move (v := .int .i64 _) rfl) ?_
        refine ⟨k2 + 1, ⟨rfl, strE (by rw [flat_take jointL hkl]; exact List.append_assoc _ _ (jointL s.joints[k2])), trivial⟩, rfl, rfl, (Ext.trans (Ext.trans (Ext.trans (Ext.trans (Ext.trans E_k2 E_u) E2) E3) E4) E5), fun h3 E3 => hkl, by first | omega | (dsimp only; omega), ?_⟩
        repeat (first | exact off_base _ _ _ | refine off_upd (by decide) ?_ | refine off_updL rfl ?_ | refine off_mix rfl ?_)
      · skip
        have hke : k2 = s.joints.length := by have := geI hk2; omega
        subst hke
        rw [List.take_length] at x1 x2
        have y2 : (ws2 s).length < 400 := by unfold ws2; rw [List.length_append]; omega
        refine xp_exit ?_
        refine xp_seq ?_
        refine xp_seq ?_
        refine xp_region rfl ?_
        refine op_pure (pv_fieldAddr rfl rfl rfl rfl 3 rfl) ?_
        refine op_loadP 0 (v := .slice _ _ _) rfl rfl rfl rfl ?_
        refine op_pure (pv_len rfl rfl) ?_
        refine op_pure (pv_move (v := .int .i64 _) rfl) ?_
        refine xp_block ?_
        refine xp_loopB [5, 11, 12, 81, 82, 83, 84, 85, 86, 87, 88, 89, 90, 91, 92, 93, 94, 95, 96, 97, 98, 99, 100, 101, 102] 1 (α := Nat) (fun k3 => [(81, .int .i64 k3), (5, .string (bs (ws2 s ++ (s.reports.take k3).flatMap seenL)))]) (fun k3 => _) (fun k3 h_k3 => k3 ≤ s.reports.length) (fun k3 => s.reports.length - k3) (0) ⟨rfl, strE (by rw [List.take_length]; simp [ws2]), trivial⟩ (rfl) (Nat.zero_le _) ?_
        rintro k3 T4 h_k3 E_k3 J_k3
        refine goes_norm [_] rfl ?_
        have v1 := flat_leS seenL 22 seenL_len (s.reports.take k3)
        have v2 : (s.reports.take k3).length ≤ 1000 := by rw [List.length_take]; omega
        refine xp_seq ?_
        refine xp_region rfl ?_
        refine op_pure (pv_of (v := .bool _) rfl) ?_
        refine xp_seq ?_
        refine xp_cond rfl (fun hk3 => ?_) (fun hk3 => ?_)
        · skip
          have hkl : k3 < s.reports.length := ltI hk3
          obtain ⟨g, off, hA, hg⟩ := (R.reports.ext (Ext.trans (Ext.trans (Ext.trans E1 E_k) E_k2) E_k3)).at (by omega) hkl
          obtain ⟨nr1, nr2⟩ := N.rb _ (List.getElem_mem hkl)
          have w1 := itoaL_len (n := s.reports[k3].joint)
          have w2 := itoaL_len (n := s.reports[k3].week)
          have w5 := seenW_len s.reports[k3].failed
          refine xp_skip ?_
          refine xp_seq ?_
          refine xp_block ?_
          refine xp_seq ?_
          refine xp_region rfl ?_
          refine op_pure (pv_indexE rfl hA rfl rfl rfl (by omega) (by omega)) ?_
          refine op_loadA rfl rfl rfl rfl (hg) ?_
          refine op_alloc (cs := [_, _, _]) rfl rfl fun b11 hb11 => ?_
          refine wp_norm [_, _] rfl ?_
          refine op_storeP 1 (v := .agg #[.int .i64 _, .int .i64 _, .bool _]) (vs := [_, _, _]) (c' := [_, _, _]) rfl rfl rfl rfl rfl rfl rfl rfl rfl ?_
          refine wp_norm [_, _] rfl ?_
          refine xp_seq ?_
          refine xp_region rfl ?_
          refine op_pure (pv_assign (v := .string _) rfl) ?_
          refine xp_cutB [12, 85, 86] 2 (α := Unit) (fun u => [(12, .string (bs (seenW s.reports[k3].failed)))]) (fun u L => L) (fun u h_u => True) ?_ ?_
          · skip
            refine xp_seq ?_
            refine xp_region rfl ?_
            refine op_pure (pv_fieldAddr rfl rfl rfl rfl 2 rfl) ?_
            refine op_loadP 1 (v := .bool _) rfl rfl rfl rfl ?_
            refine xp_cond rfl (fun hj => ?_) (fun hj => ?_)
            · skip
              refine xp_region rfl ?_
              refine op_pure (pv_assign (v := .string _) rfl) ?_
              refine ⟨(), ⟨strE (by rw [seenW, if_pos hj]), trivial⟩, rfl, rfl, (Ext.refl _), fun h3 E3 => by first | trivial | omega | (refine ⟨?_, ?_⟩ <;> omega), ?_⟩
              repeat (first | exact off_refl _ _ | exact off_base _ _ _ | refine off_upd (by decide) ?_ | refine off_updL rfl ?_ | refine off_mix rfl ?_)
            · skip
              refine xp_skip ?_
              refine ⟨(), ⟨strE (by rw [seenW, hj]; rfl), trivial⟩, rfl, rfl, (Ext.refl _), fun h3 E3 => by first | trivial | omega | (refine ⟨?_, ?_⟩ <;> omega), ?_⟩
              repeat (first | exact off_refl _ _ | exact off_base _ _ _ | refine off_upd (by decide) ?_ | refine off_updL rfl ?_ | refine off_mix rfl ?_)
          rintro u T5 h_u E_u J_u
          refine goes_norm [_, _] rfl ?_
          refine xp_dw [] rfl rfl rfl ?_
          refine dw_pure (i := 0) rfl (by decide +kernel) (pv_move (v := .string _) rfl) ?_
          refine dw_pure (i := 1) rfl (by decide +kernel) (pv_fieldAddr rfl rfl rfl rfl 0 rfl) ?_
          refine dw_load (i := 2) rfl (by decide +kernel) ?_
          refine op_loadP 1 (v := .int .i64 _) rfl rfl rfl rfl ?_
          refine dw_pure (i := 6) rfl (by decide +kernel) (pv_fieldAddr rfl rfl rfl rfl 1 rfl) ?_
          refine dw_load (i := 7) rfl (by decide +kernel) ?_
          refine op_loadP 1 (v := .int .i64 _) rfl rfl rfl rfl ?_
          refine dw_pure (i := 11) rfl (by decide +kernel) (pv_move (v := .string _) rfl) ?_
          refine dw_eff (i := 3) rfl (by decide +kernel) ?_
          refine op_fn (caps := []) (vs := [.int .i64 _]) rfl rfl rfl (itoa_ok s.reports[k3].joint h_u (PW.ext (Ext.trans (Ext.trans (Ext.trans (Ext.trans E1 E_k) E_k2) E_k3) E_u)) nr1) ?_
          rintro _ h2 E2 rfl
          refine ⟨ext_wlm E2 _, ?_⟩
          refine dw_pure (i := 4) rfl (by decide +kernel) (pv_cat (a := [115, 101, 101, 110, 32]) rfl rfl (by show 5 + _ < _; omega)) ?_
          refine dw_pure (i := 5) rfl (by decide +kernel) (pv_cat (b := [32]) rfl rfl (by simp only [List.length_append, List.length_cons, List.length_nil]; omega)) ?_
          refine dw_last (i := 8) rfl (by decide +kernel) (by decide +kernel) ?_
          refine op_fn (caps := []) (vs := [.int .i64 _]) rfl rfl rfl (itoa_ok s.reports[k3].week h2 (PW.ext (Ext.trans (Ext.trans (Ext.trans (Ext.trans (Ext.trans E1 E_k) E_k2) E_k3) E_u) E2)) nr2) ?_
          rintro _ h3 E3 rfl
          refine dw_pure (i := 9) rfl (by decide +kernel) (pv_cat rfl rfl (by simp only [List.length_append, List.length_cons, List.length_nil]; omega)) ?_
          refine dw_pure (i := 10) rfl (by decide +kernel) (pv_cat (b := [32]) rfl rfl (by simp only [List.length_append, List.length_cons, List.length_nil]; omega)) ?_
          refine dw_pure (i := 12) rfl (by decide +kernel) (pv_cat rfl rfl (by simp only [List.length_append, List.length_cons, List.length_nil]; omega)) ?_
          refine dw_pure (i := 13) rfl (by decide +kernel) (pv_cat (b := [10]) rfl rfl (by simp only [List.length_append, List.length_cons, List.length_nil]; omega)) ?_
          refine dw_pure (i := 14) rfl (by decide +kernel) (pv_cat rfl rfl (by simp only [List.length_append, List.length_cons, List.length_nil]; omega)) ?_
          refine dw_pure (i := 15) rfl (by decide +kernel) (pv_assign (v := .string _) rfl) ?_
          refine dw_end rfl ?_
          refine xp_region rfl ?_
          refine op_pure (pv_arith rfl (by omega)) ?_
          refine op_pure (pv_move (v := .int .i64 _) rfl) ?_
          refine ⟨k3 + 1, ⟨rfl, strE (by rw [flat_take seenL hkl]; exact List.append_assoc _ _ (seenL s.reports[k3])), trivial⟩, rfl, rfl, (Ext.trans (Ext.trans (Ext.trans E_k3 E_u) E2) E3), fun h3 E3 => hkl, by first | omega | (dsimp only; omega), ?_⟩
          repeat (first | exact off_base _ _ _ | refine off_upd (by decide) ?_ | refine off_updL rfl ?_ | refine off_mix rfl ?_)
        · skip
          have hke : k3 = s.reports.length := by have := geI hk3; omega
          subst hke
          rw [List.take_length] at v1 v2
          refine xp_exit ?_
          refine xp_seq ?_
          refine xp_region rfl ?_
          refine op_pure (pv_move (v := .string _) rfl) ?_
          refine op_pure (pv_cat (b := [115, 112, 114, 105, 110, 103, 10]) rfl rfl (by rw [List.take_length, List.length_append]; show _ + 7 < _; omega)) ?_
          refine op_pure (pv_assign (v := .string _) rfl) ?_
          refine op_pure (pv_assign (v := .int .i64 _) rfl) ?_
          refine xp_ret ?_
          refine res_list (vs := [_, _]) Tryd.results22 ⟨resV_tmp rfl rfl, resV_tmp rfl rfl, trivial⟩ fun V => ?_
          exact ⟨(Ext.trans (Ext.trans (Ext.trans (Ext.trans E1 E_k) E_k2) E_k3) (ext_wl V)), by rw [writeSV, if_pos hc', hc']; exact congrArg (fun z => Value.tuple #[.string (bs z), .int .i64 0]) (show (ws2 s ++ (s.reports.take s.reports.length).flatMap seenL) ++ _ = writeS s by rw [List.take_length]; rfl)⟩
end
end Go.Proofs.YtboigjfgpppeaaaDoor
/- The own logic, part BB: words whose value does not matter. Conditions: none. -/
namespace Go.HL
open Go
variable [Lvl]
section
variable {P : Program} {n : Nat} {ops : Array Oper} {d : Option Tmp} {op : Op} {ty : TypeId} {ps : String} {af : Array Edge} {os : List Oper} {K : Sl → Pv → AH → Prop} {E : Value → Sl → Pv → AH → Prop} {S : Sl} {L : Pv} {h : AH}
end
end Go.HL
/- Walks: the pot of numbers. Conditions: as each theorem states. -/
namespace Go.Proofs.YtboigjfgpppeaaaDoor
open Go Go.HL Go.Proofs Go.Wx
variable [Lvl]
set_option maxRecDepth 100000
end Go.Proofs.YtboigjfgpppeaaaDoor
/- Walks: a report that is right. Conditions: as each theorem states. -/
namespace Go.Proofs.YtboigjfgpppeaaaDoor
open Go Go.HL Go.Proofs Go.Wx
variable [Lvl]
set_option maxRecDepth 100000
end Go.Proofs.YtboigjfgpppeaaaDoor
/- Plain: a season with its truth. Conditions: as each theorem states. -/
namespace Go.Wx
open Go Go.HL
variable [Lvl]
/-- A range about a true value. -/
def NearR (t lo hi d : Int) (r : Rg) : Prop := ∃ u w : Int, 0 ≤ u ∧ u ≤ d ∧ 0 ≤ w ∧ w ≤ d ∧ r = ⟨max lo (t - u), min hi (t + w)⟩
structure NearL (ts : List Int) (rs : List Rg) : Prop where
  len : rs.length = ts.length
  at' : ∀ (i : Nat) t r, ts[i]? = some t → rs[i]? = some r → NearR t (-50) 100 1 r
theorem NearL.nil : NearL [] [] := ⟨rfl, fun i t r h => by simp at h⟩
theorem NearL.snoc {ts : List Int} {rs : List Rg} (n : NearL ts rs) {t : Int} {r : Rg} (h : NearR t (-50) 100 1 r) : NearL (ts ++ [t]) (rs ++ [r]) := by
  refine ⟨by simp [n.len], fun i t' r' h1 h2 => ?_⟩
  by_cases hi : i < ts.length
  · rw [List.getElem?_append_left hi] at h1
    rw [List.getElem?_append_left (by rw [n.len]; exact hi)] at h2
    exact n.at' i t' r' h1 h2
  · have hl := (List.getElem?_eq_some_iff.1 h1).1
    have hi2 : i = ts.length := by simp at hl; omega
    subst hi2
    rw [List.getElem?_append_right (by omega)] at h1
    rw [List.getElem?_append_right (by rw [n.len]; omega)] at h2
    simp [n.len] at h1 h2
    subst h1 h2
    exact h
/-- How many of the first k weeks were cold. -/
def coldN (x : List Int) (lo : Int) (k : Nat) : Nat := ((x.take k).filter fun t => decide (t ≤ lo)).length
def failW (x : List Int) (hi lo many life : Int) (w : Nat) : Bool := decide (x.getD w 0 ≥ hi) || decide ((w : Int) = life) || (decide (x.getD w 0 ≤ lo) && decide ((coldN x lo (w + 1) : Int) = many))
/-- The first failing week among the last k. -/
def failP (x : List Int) (hi lo many life : Int) : Nat → Nat
  | 0 => x.length
  | k + 1 => if failW x hi lo many life (x.length - (k + 1)) then x.length - (k + 1) else failP x hi lo many life k
def failT (x : List Int) (hi lo many life : Int) : Nat := failP x hi lo many life x.length
structure JointT (ht dt : List Int) (j : Joint) (f : Int) (hi lo many life : Int) : Prop where
  k : (j.kind = 1 ∧ 25 ≤ hi ∧ hi ≤ 38 ∧ -5 ≤ lo ∧ lo ≤ 8) ∨ (j.kind = 2 ∧ 60 ≤ hi ∧ hi ≤ 72 ∧ 28 ≤ lo ∧ lo ≤ 42)
  m : 1 ≤ many ∧ many ≤ 3
  l : 0 ≤ life ∧ life ≤ 9
  h1 : NearR hi (-50) 100 1 j.high
  h2 : NearR lo (-50) 100 1 j.low
  h3 : NearR many 1 6 1 j.weeks
  h4 : NearR life 0 9 2 j.life
  f : f = (failT (if j.kind = 1 then ht else dt) hi lo many life : Nat)
structure JointsT (ht dt : List Int) (js : List Joint) (fs : List Int) : Prop where
  len : fs.length = js.length
  at' : ∀ (i : Nat) j f, js[i]? = some j → fs[i]? = some f → ∃ hi lo many life, JointT ht dt j f hi lo many life
theorem JointsT.nil {ht dt : List Int} : JointsT ht dt [] [] := ⟨rfl, fun i j f h => by simp at h⟩
theorem JointsT.snoc {ht dt : List Int} {js : List Joint} {fs : List Int} (n : JointsT ht dt js fs) {j : Joint} {f hi lo many life : Int} (h : JointT ht dt j f hi lo many life) : JointsT ht dt (js ++ [j]) (fs ++ [f]) := by
  refine ⟨by simp [n.len], fun i j' f' h1 h2 => ?_⟩
  by_cases hi' : i < js.length
  · rw [List.getElem?_append_left hi'] at h1
    rw [List.getElem?_append_left (by rw [n.len]; exact hi')] at h2
    exact n.at' i j' f' h1 h2
  · have hl := (List.getElem?_eq_some_iff.1 h1).1
    have hi2 : i = js.length := by simp at hl; omega
    subst hi2
    rw [List.getElem?_append_right (by omega)] at h1
    rw [List.getElem?_append_right (by rw [n.len]; omega)] at h2
    simp [n.len] at h1 h2
    subst h1 h2
    exact ⟨_, _, _, _, h⟩
def SeenT (w : Nat) (fs : List Int) (r : Seen) : Prop := 0 ≤ r.joint ∧ r.joint < fs.length ∧ 0 ≤ r.week ∧ r.week < w ∧ r.failed = decide (fs.getD r.joint.toNat 0 ≤ r.week)
/-- A season that its truth bears out. -/
structure SeasonT (weeks joints reports : Nat) (s : Season) (ht dt fs : List Int) : Prop where
  w1 : 1 ≤ ht.length
  ww : ht.length ≤ weeks
  dl : dt.length = ht.length
  hn : NearL ht s.heats
  dn : NearL dt s.damps
  hb : ∀ t ∈ ht, -5 ≤ t ∧ t ≤ 35
  db : ∀ t ∈ dt, 30 ≤ t ∧ t ≤ 70
  jl : s.joints.length ≤ joints
  js : JointsT ht dt s.joints fs
  rl : s.reports.length ≤ reports
  rs : ∀ r ∈ s.reports, SeenT ht.length fs r
/-- The weeks made so far. -/
structure WA where
  i : Int
  x : Nat
  ht : List Int
  dt : List Int
  hs : List Rg
  ds : List Rg
  a1 : Acc
  a2 : Acc
  a3 : Acc
  a4 : Acc
structure WOk (weeks : Nat) (q : WA) : Prop where
  i0 : 0 ≤ q.i
  iw : q.i + q.ht.length ≤ weeks
  pos : 1 ≤ q.i + q.ht.length
  dl : q.dt.length = q.ht.length
  hn : NearL q.ht q.hs
  dn : NearL q.dt q.ds
  hb : ∀ t ∈ q.ht, -5 ≤ t ∧ t ≤ 35
  db : ∀ t ∈ q.dt, 30 ≤ t ∧ t ≤ 70
end Go.Wx
/- Walks: a season with its truth. Conditions: as each theorem states. -/
namespace Go.Proofs.YtboigjfgpppeaaaDoor
open Go Go.HL Go.Proofs Go.Wx
variable [Lvl]
set_option maxRecDepth 100000
structure WAc (q : WA) : Prop where
  r1 : AccR 3 1 (q.ht.flatMap intC) q.a1
  r2 : AccR 3 1 (q.dt.flatMap intC) q.a2
  r3 : AccR 29 2 (q.hs.flatMap rgC) q.a3
  r4 : AccR 29 2 (q.ds.flatMap rgC) q.a4
structure CutJ where
  x : Nat
  hi : Int
  lo : Int
  A : Option Addr
  c : Nat
  l : List Int
end Go.Proofs.YtboigjfgpppeaaaDoor
/- Plain: a season that its truth bears out has no error. Conditions: as each theorem states. -/
namespace Go.Wx
open Go Go.HL
variable [Lvl]
theorem firstErr_all {α : Type} {f : α → Int} : ∀ {l : List α}, (∀ x ∈ l, f x = 0) → firstErr f l = 0
  | [], _ => rfl
  | y :: l, h => by
    rw [firstErr, if_neg (by simp [h y (List.mem_cons_self ..)])]
    exact firstErr_all fun x hx => h x (List.mem_cons_of_mem _ hx)
theorem NearR.bd {t lo hi d : Int} {r : Rg} (n : NearR t lo hi d r) (h1 : lo ≤ t) (h2 : t ≤ hi) : lo ≤ r.mn ∧ r.mn ≤ t ∧ t ≤ r.mx ∧ r.mx ≤ hi ∧ r.mx - r.mn ≤ 2 * d := by
  obtain ⟨u, w, a, b, c, e, rfl⟩ := n
  dsimp only
  omega
theorem NearL.mem {ts : List Int} {rs : List Rg} (n : NearL ts rs) {r : Rg} (h : r ∈ rs) : ∃ t ∈ ts, NearR t (-50) 100 1 r := by
  obtain ⟨i, hi⟩ := List.mem_iff_getElem?.1 h
  have hl := (List.getElem?_eq_some_iff.1 hi).1
  have hl' : i < ts.length := by rw [← n.len]; exact hl
  have ht : ts[i]? = some ts[i] := List.getElem?_eq_getElem hl'
  exact ⟨ts[i], List.getElem_mem _, n.at' i _ r ht hi⟩
section
variable {weeks joints reports : Nat} {s : Season} {ht dt fs : List Int} (T : SeasonT weeks joints reports s ht dt fs) (hw : weeks ≤ 6) (hj : joints ≤ 3) (hr : reports ≤ 5)
include T hw hj hr
end
end Go.Wx
/- Plain: when a joint truly fails. Conditions: as each theorem states. -/
namespace Go.Wx
open Go Go.HL
variable [Lvl]
end Go.Wx
/- Plain: what the truth of a season says of its questions. Conditions: as each theorem states. -/
namespace Go.Wx
open Go Go.HL
variable [Lvl]
theorem okM_iff {s : Season} {n : Int} {x : Sky} : okM s n x = true ↔ ∀ (i : Nat) j, s.joints[i]? = some j → j.kind = n → surv s n x i ≠ [] := by
  unfold okM
  rw [List.all_eq_true]
  constructor
  · intro h i j hj hk e
    have hl := (List.getElem?_eq_some_iff.1 hj).1
    have := h i (List.mem_range.2 hl)
    unfold kindAt at this
    rw [hj] at this
    simp [hk, fateM, e, maskM] at this
  · intro h i hi
    rw [List.mem_range] at hi
    have hj : s.joints[i]? = some s.joints[i] := List.getElem?_eq_getElem hi
    unfold kindAt
    rw [hj]
    by_cases hk : s.joints[i].kind = n
    · have := h i _ hj hk
      simp [fateM, maskM_zero, this]
    · simp [hk]
section
variable {weeks joints reports : Nat} {s : Season} {ht dt fs : List Int} (T : SeasonT weeks joints reports s ht dt fs) (hw : weeks ≤ 6)
include T hw
end
end Go.Wx
/- The own logic, part U: from a walk to the row of a law. Conditions: none. -/
namespace Go.HL
open Go Go.Wx Go.RowKit
/-- What is asked at the end of a law. -/
def lawK (t : Nat) (h0 : AH) : Post
  | .normal, S, D, L, h => D = [] ∧ (Valid h L → Ext h0 (wl h L)) ∧ S t = .bool true
  | .ret, S, D, L, h => D = [] ∧ (Valid h L → Ext h0 (wl h L)) ∧ S t = .bool true
  | _, _, _, _, _ => False
theorem below_of {w w' : World} (se : SameEnv w w') (e : Ext (absH w.heap) (absH w'.heap)) : Below w.heap.size w w' := by
  have hb : ∀ k, k < w.heap.size → w'.heap[k]? = w.heap[k]? := by
    intro k hk
    have h1 : absH w.heap k = some w.heap[k] := Array.getElem?_eq_getElem hk
    have h2 : w'.heap[k]? = some w.heap[k] := e k _ h1
    rw [h2]
    exact (Array.getElem?_eq_getElem hk).symm
  refine ⟨se.os, se.tape, se.output, ?_, hb⟩
  rcases Nat.lt_or_ge w'.heap.size w.heap.size with h1 | h1
  · have h2 := hb w'.heap.size h1
    rw [Array.getElem?_eq_getElem h1] at h2
    simp at h2
  · exact h1
theorem calls_body {P : Program} {f : FuncId} {fn : Func} {c : Code} {args : Array Value} {n t : Nat} {w : World} (hf : P.funcs[f]? = some fn) (hb : fn.body = some c) (hn : fn.ntmps = n) (ha : Nat.ble args.size n = true) (hr : fn.results = #[.tmp t]) (ht : Nat.blt t n = true)
    (x : ∀ h, h = absH w.heap → @xp ⟨false, none, none⟩ P n none c (lawK t h) (argS args) [] [] h) : Calls P f args w (fun e w' => e = .returned (.bool true) ∧ Below w.heap.size w w') := by
  letI : Lvl := ⟨false, none, none⟩
  intro cs
  have he : Frame.enter P f args .normal = mk { (default : Frame) with fn := f, kind := .normal, roundOf := none } n (argS args) [] [.code c] := by
    simp [Frame.enter, mk, hf, hb, hn, enter_tmps n args (Nat.le_of_ble_eq_true ha)]
  have hres : ∀ (S : Sl) (w' : World), S t = .bool true → (results fn (arr n S)).run P w' = .ok (.bool true) w' := by
    intro S w' hs
    unfold results
    rw [hr, List.mapM_toArray]
    have e1 : (arr n S).getD t undef = .bool true := by rw [arr_getD, if_pos (Nat.lt_of_lt_of_le (Nat.lt_succ_self t) (Nat.le_of_ble_eq_true ht)), hs]
    show Result.ok ((arr n S).getD t undef) w' = _
    rw [e1]
  have x1 := x _ rfl (absH w.heap) (by have := Fits.nil (valid_nil (Fin.abs w.heap)); rw [wl_nil] at this; exact this) { (default : Frame) with fn := f, kind := .normal, roundOf := none } rfl [] cs
  have x2 : Rch P (fun fr cs' H => cs' = cs ∧ fr.mode = .returning ∧ fr.defers = [] ∧ fr.kind = .normal ∧ fr.fn = f ∧ (∃ S, fr.tmps = arr n S ∧ S t = .bool true) ∧ Ext (absH w.heap) H) (mk { (default : Frame) with fn := f, kind := .normal, roundOf := none } n (argS args) [] [.code c]) cs (absH w.heap) := by
    refine x1.bind ?_
    rintro fr cs' H ⟨rfl, e, S', D', L', h', V', kk, a⟩
    cases e with
    | normal =>
      obtain ⟨rfl, ex, hs⟩ := kk
      have a' : fr = mk { (default : Frame) with fn := f, kind := .normal, roundOf := none } n S' [] [] := a
      subst a'
      have hH : H = wl h' L' := by rw [V'.eq]; exact hun_nil _
      subst hH
      refine .ctl (fr' := { mk { (default : Frame) with fn := f, kind := .normal, roundOf := none } n S' [] [] with mode := .returning }) (cs' := cs') (fun w => by simp [stepG, stepG.exec, mk]) (.done ⟨rfl, rfl, rfl, rfl, rfl, ⟨S', rfl, hs⟩, ex V'.valid⟩)
    | ret =>
      obtain ⟨rfl, ex, hs⟩ := kk
      obtain ⟨todo, rfl⟩ := a.1 rfl
      have hH : H = wl h' L' := by rw [V'.eq]; exact hun_nil _
      subst hH
      exact .done ⟨rfl, rfl, rfl, rfl, rfl, ⟨S', rfl, hs⟩, ex V'.valid⟩
    | _ => exact kk.elim
  obtain ⟨fr', cs', w', st, se, rfl, hm, hd, hk, hfn, ⟨S, htm, hs⟩, ex⟩ := x2.lone rfl rfl rfl w rfl
  refine ⟨.returned (.bool true), w', fr', ⟨rfl, below_of se ex⟩, ?_, hfn, hm, hd, hk, fn, by rw [hfn]; exact hf, by rw [htm]; exact hres S w' hs⟩
  rw [he]
  exact st
variable [Lvl]
end Go.HL
/- The own logic, part CC: guarded operations that turn memory, amid drawn regions. Conditions: none. -/
namespace Go.HL
open Go
variable [Lvl]
variable {P : Program} {n : Nat} {ops : Array Oper} {i : Nat} {d : Option Tmp} {op : Op} {ty : TypeId} {ps : String} {af : Array Edge} {S : Sl} {L : Pv} {h : AH} {mask : List Bool} {X : Sl → AH → Prop} {dn ac : List Nat}
theorem dw_effG {j : Nat} {want t : Bool} (hoi : ops[i]? = some ⟨d, op, ty, ps, af, some (j, want)⟩) (hok : okE ops dn i = true)
    (ht : ev n S (.tmp (((ops[j]?).bind (·.dst)).getD n)) = .bool t) (hb : t = want) (w : wpL P n ops [⟨d, op, ty, ps, af, none⟩] (fun S' L' h' => Ext (wl h (rmM mask L)) (wl h' (rmM mask L')) ∧ Dw P n ops mask X (i :: dn) (i :: ac) S' L' h') (fun _ _ _ _ => False) S L h) : Dw P n ops mask X dn ac S L h := by
  intro V G hG
  unfold okE at hok
  rw [hoi] at hok
  simp only [Bool.and_eq_true] at hok
  obtain ⟨⟨hr, hbl⟩, hap⟩ := hok
  obtain ⟨m, hm⟩ := left_pos hr
  obtain ⟨hi, hdi⟩ := ready_lt hr
  rw [hm]
  refine take_any hoi m dn ac G S (wl h L) (fin_wl V) hm hr ?_ ?_ (fun g hg => (hG g hg).2.1) ?_ ?_
  · intro x hx
    have := List.all_eq_true.1 hbl x ((el_mem _ _).1 hx)
    simpa using this
  · intro g hg _
    exact (hG g hg).2.1 _ _ (ext_rm V) (hG g hg).2.2
  · intro j oj hoj hji hdj hbj
    have hjl : j < ops.size := (Array.getElem?_eq_some_iff.1 hoj).1
    have := List.all_eq_true.1 hap j (by simpa using hjl)
    rw [hoj, hdj, hbj] at this
    simp only [Bool.or_false, Bool.or_eq_true, beq_iff_eq, Bool.and_eq_true, Option.isNone_iff_eq_none] at this
    obtain ⟨⟨h1, h2⟩, h3⟩ := this.resolve_left hji
    exact ⟨h1, h2, h3⟩
  · refine ⟨some t, by rw [ht]; rfl, fun _ => ?_, fun hn => absurd (congrArg some hb) hn⟩
    show opW P n ⟨d, op, ty, ps, af, none⟩ S (wl h L) _ noE
    refine opW_mono ?_ ?_ (w V)
    · rintro v H ⟨L', h', rfl, V', hE, hD⟩
      have hG' : ∀ g ∈ G, ((∀ H, g.2 H) ∨ (isLd ops g.1 = true ∧ el g.1 (i :: dn) = true)) ∧ (∀ H1 H2, Ext H1 H2 → g.2 H1 → g.2 H2) ∧ g.2 (wl h' (rmM mask L')) := by
        intro g hg
        obtain ⟨h1, h2, h3⟩ := hG g hg
        exact ⟨h1.imp id (fun e => ⟨e.1, by simp [el_cons, e.2]⟩), h2, h2 _ _ hE h3⟩
      refine ⟨fun g hg _ => (hG' g hg).2.1 _ _ (ext_rm V') (hG' g hg).2.2, ?_⟩
      have := hD V' G hG'
      rw [left_cons hi hdi hm] at this
      exact this
    · rintro v H ⟨L', h', rfl, V', y⟩; exact y
theorem dw_lastG {j : Nat} {want t : Bool} (hoi : ops[i]? = some ⟨d, op, ty, ps, af, some (j, want)⟩) (hok : okE ops dn i = true) (hl : okL ops dn i = true)
    (ht : ev n S (.tmp (((ops[j]?).bind (·.dst)).getD n)) = .bool t) (hb : t = want) (w : wpL P n ops [⟨d, op, ty, ps, af, none⟩] (fun S' L' h' => Dw P n ops mask X (i :: dn) (i :: ac) S' L' h') (fun _ _ _ _ => False) S L h) : Dw P n ops mask X dn ac S L h := by
  intro V G hG
  unfold okE at hok
  rw [hoi] at hok
  simp only [Bool.and_eq_true] at hok
  obtain ⟨⟨hr, hbl⟩, hap⟩ := hok
  obtain ⟨m, hm⟩ := left_pos hr
  obtain ⟨hi, hdi⟩ := ready_lt hr
  rw [hm]
  refine take_any hoi m dn ac G S (wl h L) (fin_wl V) hm hr ?_ ?_ (fun g hg => (hG g hg).2.1) ?_ ?_
  · intro x hx
    have := List.all_eq_true.1 hbl x ((el_mem _ _).1 hx)
    simpa using this
  · intro g hg _
    exact (hG g hg).2.1 _ _ (ext_rm V) (hG g hg).2.2
  · intro j oj hoj hji hdj hbj
    have hjl : j < ops.size := (Array.getElem?_eq_some_iff.1 hoj).1
    have := List.all_eq_true.1 hap j (by simpa using hjl)
    rw [hoj, hdj, hbj] at this
    simp only [Bool.or_false, Bool.or_eq_true, beq_iff_eq, Bool.and_eq_true, Option.isNone_iff_eq_none] at this
    obtain ⟨⟨h1, h2⟩, h3⟩ := this.resolve_left hji
    exact ⟨h1, h2, h3⟩
  · refine ⟨some t, by rw [ht]; rfl, fun _ => ?_, fun hn => absurd (congrArg some hb) hn⟩
    show opW P n ⟨d, op, ty, ps, af, none⟩ S (wl h L) _ noE
    refine opW_mono ?_ ?_ (w V)
    · rintro v H ⟨L', h', rfl, V', hD⟩
      -- the facts that are still asked hold everywhere
      have hdead : ∀ g ∈ G, (∀ H, g.2 H) ∨ ¬ alive ops (i :: ac) g.1 := by
        intro g hg
        rcases (hG g hg).1 with h1 | ⟨h1, h2⟩
        · exact .inl h1
        · right
          intro a
          have := List.all_eq_true.1 hl g.1 ((el_mem _ _).1 h2)
          rw [h1] at this
          simp only [Bool.not_true, Bool.false_or] at this
          have := a i this
          simp [el_cons] at this
      refine ⟨fun g hg a => ((hdead g hg).resolve_right (fun n => n a)) _, ?_⟩
      have hall : ∀ (m : Nat) (dn' ac' : List Nat) (S' : Sl) (H' : AH), (∀ k, el k (i :: ac) = true → el k ac' = true) → WG P n ops m dn' ac' [] X S' H' → WG P n ops m dn' ac' G X S' H' := by
        intro m
        induction m with
        | zero => intro dn' ac' S' H' _ w; exact w
        | succ m ih =>
          intro dn' ac' S' H' hsub w j oj hoj hrj
          refine T1_mono (fun S2 H2 y => ⟨fun g hg a => ?_, ih _ _ _ _ (fun k hk => by simp [el_cons, hsub k hk]) y.2⟩) (w j oj hoj hrj)
          exact ((hdead g hg).resolve_right (fun n => n (alive_less (fun k hk => by simp [el_cons, hsub k hk]) a))) _
      have := hD V' [] (fun g hg => by cases hg)
      rw [left_cons hi hdi hm] at this
      exact hall m _ _ _ _ (fun _ h => h) this
    · rintro v H ⟨L', h', rfl, V', y⟩; exact y
end Go.HL
/- Walks: the law that goes week by week. Conditions: as each theorem states. -/
namespace Go.Proofs.YtboigjfgpppeaaaDoor
open Go Go.HL Go.Proofs Go.Wx Go.RowKit
variable [Lvl]
set_option maxRecDepth 100000
theorem SeasonT.small {a b c : Nat} {s : Season} {ht dt fs : List Int} (T : SeasonT a b c s ht dt fs) (ha : a ≤ 6) (hb : b ≤ 3) (hc : c ≤ 100) : Small s := by
  have := T.hn.len; have := T.dn.len; have := T.dl; have := T.ww; have := T.jl; have := T.rl
  exact ⟨by omega, by omega, by omega, by omega⟩
section
variable {a b c : Nat} {s : Season} {ht dt fs : List Int} (T : SeasonT a b c s ht dt fs) (ha : a ≤ 6) (hb : b ≤ 3) (hc : c ≤ 5)
include T ha hb hc
end
end Go.Proofs.YtboigjfgpppeaaaDoor
/- Plain: seasons without an error, and without reports; how much warmer it may be. Conditions: as each theorem states. -/
namespace Go.Wx
open Go Go.HL
variable [Lvl]
structure CheckS (s : Season) : Prop where
  w1 : 1 ≤ s.heats.length
  w6 : s.heats.length ≤ 6
  dl : s.damps.length = s.heats.length
  h : ∀ r ∈ s.heats, checkWeatherM r = 0
  d : ∀ r ∈ s.damps, checkWeatherM r = 0
  j3 : s.joints.length ≤ 3
  j : ∀ j ∈ s.joints, checkJointM j = 0
  r5 : s.reports.length ≤ 5
  r : ∀ r ∈ s.reports, checkSeenM s r = 0
theorem CheckS.ok {s : Season} (c : CheckS s) : checkM s = 0 := by
  have h1 := c.w1; have h2 := c.w6; have h3 := c.dl; have h4 := c.j3; have h5 := c.r5
  unfold checkM
  rw [if_neg (by omega), if_neg (by omega), if_neg (by omega), if_neg (by omega), firstErr_all (fun x hx => (List.mem_append.1 hx).elim (c.h x) (c.d x)), if_neg (by simp), if_neg (by omega), firstErr_all c.j, if_neg (by simp), if_neg (by omega), firstErr_all c.r]
theorem CheckS.of {s : Season} (h : checkM s = 0) : CheckS s := by
  have V := checkM_zero h
  unfold checkM at h
  split at h
  · cases h
  · split at h
    · cases h
    · split at h
      · cases h
      · split at h
        · cases h
        · split at h
          · rename_i h1; exact absurd h h1
          · rename_i h1
            split at h
            · cases h
            · split at h
              · rename_i h2; exact absurd h h2
              · rename_i h2
                split at h
                · cases h
                · have w := firstErr_zero (by simpa using h1)
                  exact ⟨by omega, by omega, by omega, fun r hr => w r (List.mem_append_left _ hr), fun r hr => w r (List.mem_append_right _ hr), by omega, firstErr_zero (by simpa using h2), by omega, firstErr_zero h⟩
section
variable {α : Type} {f : α → α} {l : List α}
end
end Go.Wx
/- Walks: a season copied, and a warmer one (the reference). Conditions: as each theorem states. -/
namespace Go.Proofs.YtboigjfgpppeaaaDoor
open Go Go.HL Go.Proofs Go.Wx
variable [Lvl]
set_option maxRecDepth 100000
end Go.Proofs.YtboigjfgpppeaaaDoor
/- Walks: the law on the margin. Conditions: as each theorem states. -/
namespace Go.Proofs.YtboigjfgpppeaaaDoor
open Go Go.HL Go.Proofs Go.Wx Go.RowKit
variable [Lvl]
set_option maxRecDepth 100000
end Go.Proofs.YtboigjfgpppeaaaDoor
/- Plain: joints in another order, and joints of one kind alone. Conditions: as each theorem states. -/
namespace Go.Wx
open Go Go.HL
variable [Lvl]
/-- Two seasons whose joints of a kind are the same but for their places. -/
structure SameK (s s' : Season) (n : Int) (f : Nat → Nat) : Prop where
  hs : s'.heats = s.heats
  ds : s'.damps = s.damps
  goes : ∀ (i : Nat) j, s.joints[i]? = some j → j.kind = n → s'.joints[f i]? = some j ∧ toldW s' (f i) = toldW s i
  comes : ∀ (i' : Nat) j, s'.joints[i']? = some j → j.kind = n → ∃ i, s.joints[i]? = some j ∧ f i = i'
section
variable {s s' : Season} {n : Int} {f : Nat → Nat}
theorem SameK.surv (e : SameK s s' n f) (x : Sky) {i : Nat} {j : Joint} (hj : s.joints[i]? = some j) (hk : j.kind = n) : surv s' n x (f i) = surv s n x i := by
  obtain ⟨h1, h2⟩ := e.goes i j hj hk
  unfold Wx.surv
  rw [hj, h1, h2, e.hs]
theorem SameK.all (e : SameK s s' n f) : allSkies s' n = allSkies s n := by unfold allSkies weatherM; rw [e.hs, e.ds]
theorem SameK.okE (e : SameK s s' n f) (x : Sky) : okM s' n x = okM s n x := by
  rw [Bool.eq_iff_iff, okM_iff, okM_iff]
  constructor
  · intro h i j hj hk; rw [← e.surv x hj hk]; exact h _ _ (e.goes i j hj hk).1 hk
  · intro h i' j hj hk
    obtain ⟨i, hi, rfl⟩ := e.comes i' j hj hk
    rw [e.surv x hi hk]
    exact h _ _ hi hk
end
theorem checkSeen_iff {s : Season} {r : Seen} : checkSeenM s r = 0 ↔ 0 ≤ r.joint ∧ r.joint < s.joints.length ∧ 0 ≤ r.week ∧ r.week < s.heats.length := by
  unfold checkSeenM inM
  constructor
  · intro h
    split at h
    · cases h
    · rename_i q1
      split at h
      · cases h
      · rename_i q2
        simp only [Bool.not_eq_true, Bool.not_eq_false', Bool.and_eq_true, decide_eq_true_eq] at q1 q2
        omega
  · intro h
    rw [if_neg (by simp; omega), if_neg (by simp; omega)]
/-- Numbers from 0 on in another order. -/
structure Order (o : List Int) (n : Nat) : Prop where
  len : o.length = n
  bd : ∀ x ∈ o, 0 ≤ x ∧ x < n
  inj : ∀ (i k : Nat), i < n → k < n → o[i]? = o[k]? → i = k
theorem Order.at' {o : List Int} {n : Nat} (O : Order o n) {i : Nat} (hi : i < n) : ∃ k : Nat, o[i]? = some (k : Int) ∧ k < n := by
  have hl : i < o.length := by rw [O.len]; exact hi
  have := O.bd o[i] (List.getElem_mem hl)
  exact ⟨o[i].toNat, by rw [List.getElem?_eq_getElem hl]; congr 1; omega, by omega⟩
/-- Where a joint goes. -/
def ordN (o : List Int) (i : Nat) : Nat := (o.getD i 0).toNat
theorem Order.ordN {o : List Int} {n : Nat} (O : Order o n) {i : Nat} (hi : i < n) : o[i]? = some ((ordN o i : Nat) : Int) ∧ Wx.ordN o i < n := by
  obtain ⟨k, h1, h2⟩ := O.at' hi
  unfold Wx.ordN
  rw [List.getD_eq_getElem?_getD, h1]
  simpa using h2
def moved (o : List Int) (r : Seen) : Seen := { r with joint := o.getD r.joint.toNat 0 }
/-- The joints of a season in another order. -/
structure Moved (s x : Season) (o : List Int) : Prop where
  ord : Order o s.joints.length
  hs : x.heats = s.heats
  ds : x.damps = s.damps
  jl : x.joints.length = s.joints.length
  js : ∀ i, i < s.joints.length → x.joints[ordN o i]? = s.joints[i]?
  rs : x.reports = s.reports.map (moved o)
end Go.Wx
/- Plain: elements changed in place; an order that is made; joints moved. Conditions: as each theorem states. -/
namespace Go.Wx
open Go Go.HL
variable [Lvl]
theorem wrL_mid (a c : List Value) : ∀ (vs b : List Value) (j : Nat), j + vs.length ≤ b.length → wrL (a ++ b ++ c) (a.length + j) vs = a ++ wrL b j vs ++ c
  | [], b, j, _ => rfl
  | v :: vs, b, j, h => by
    rw [List.length_cons] at h
    have hj : j < b.length := by omega
    have e : (a ++ b ++ c).set (a.length + j) v = a ++ b.set j v ++ c := by
      rw [List.append_assoc, List.set_append_right _ _ (by omega), Nat.add_sub_cancel_left, List.set_append_left _ _ hj, List.append_assoc]
    show wrL ((a ++ b ++ c).set (a.length + j) v) (a.length + j + 1) vs = _
    rw [e, Nat.add_assoc, wrL_mid a c vs (b.set j v) (j + 1) (by rw [List.length_set]; omega)]
    rfl
section
variable {α : Type} {enc : α → List Value} {m : Nat} (hm : ∀ x, (enc x).length = m)
include hm
end
/-- The first i places hold the numbers below i, in some order. -/
structure MixP (l : List Int) (i : Nat) : Prop where
  bd : ∀ m, m < i → ∃ v : Int, l[m]? = some v ∧ 0 ≤ v ∧ v < i
  inj : ∀ m m' : Nat, m < i → m' < i → l[m]? = l[m']? → m = m'
theorem MixP.zero (l : List Int) : MixP l 0 := ⟨fun m h => absurd h (Nat.not_lt_zero m), fun m _ h => absurd h (Nat.not_lt_zero m)⟩
def mixS (l : List Int) (i k : Nat) : List Int := (l.set i (l.getD k 0)).set k (i : Int)
theorem mixS_get {l : List Int} {i k : Nat} (hi : i < l.length) (hk : k ≤ i) (m : Nat) : (mixS l i k)[m]? = if m = k then some (i : Int) else if m = i then l[k]? else l[m]? := by
  unfold mixS
  have hkl : k < l.length := by omega
  rw [List.getElem?_set, List.length_set]
  by_cases h1 : k = m
  · subst h1
    simp [hkl]
  · rw [if_neg h1, if_neg (fun e => h1 e.symm), List.getElem?_set]
    by_cases h2 : i = m
    · subst h2
      simp [hi, List.getD_eq_getElem?_getD, List.getElem?_eq_getElem hkl]
    · rw [if_neg h2, if_neg (fun e => h2 e.symm)]
theorem MixP.step {l : List Int} {i k : Nat} (P : MixP l i) (hi : i < l.length) (hk : k ≤ i) : MixP (mixS l i k) (i + 1) := by
  have gk : k < i → ∃ v : Int, l[k]? = some v ∧ 0 ≤ v ∧ v < i := fun h => P.bd k h
  constructor
  · intro m hm
    rw [mixS_get hi hk]
    by_cases h1 : m = k
    · rw [if_pos h1]; exact ⟨i, rfl, by omega, by omega⟩
    · rw [if_neg h1]
      by_cases h2 : m = i
      · rw [if_pos h2]
        obtain ⟨v, e, a, b⟩ := gk (by omega)
        exact ⟨v, e, a, by omega⟩
      · rw [if_neg h2]
        obtain ⟨v, e, a, b⟩ := P.bd m (by omega)
        exact ⟨v, e, a, by omega⟩
  · have val : ∀ m, m < i + 1 → ∃ v : Int, (mixS l i k)[m]? = some v ∧ (m ≠ k → v < i) ∧ (m = k → v = i) := by
      intro m hm
      rw [mixS_get hi hk]
      by_cases h1 : m = k
      · rw [if_pos h1]; exact ⟨i, rfl, fun h => absurd h1 h, fun _ => rfl⟩
      · rw [if_neg h1]
        by_cases h2 : m = i
        · rw [if_pos h2]
          obtain ⟨v, e, a, b⟩ := gk (by omega)
          exact ⟨v, e, fun _ => b, fun h => absurd h h1⟩
        · rw [if_neg h2]
          obtain ⟨v, e, a, b⟩ := P.bd m (by omega)
          exact ⟨v, e, fun _ => b, fun h => absurd h h1⟩
    intro m m' hm hm' e
    obtain ⟨v, e1, a1, b1⟩ := val m hm
    obtain ⟨v', e2, a2, b2⟩ := val m' hm'
    have hv : v = v' := by rw [e1, e2] at e; simpa using e
    by_cases h1 : m = k
    · by_cases h2 : m' = k
      · omega
      · have := a2 h2; have := b1 h1; omega
    · by_cases h2 : m' = k
      · have := a1 h1; have := b2 h2; omega
      · rw [mixS_get hi hk, mixS_get hi hk, if_neg h1, if_neg h2] at e
        by_cases h3 : m = i
        · by_cases h4 : m' = i
          · omega
          · rw [if_pos h3, if_neg h4] at e
            have := P.inj k m' (by omega) (by omega) e
            omega
        · by_cases h4 : m' = i
          · rw [if_neg h3, if_pos h4] at e
            have := P.inj m k (by omega) (by omega) e
            omega
          · rw [if_neg h3, if_neg h4] at e
            exact P.inj m m' (by omega) (by omega) e
theorem MixP.order {l : List Int} {n : Nat} (P : MixP l n) (hl : l.length = n) : Order l n := by
  refine ⟨hl, fun x hx => ?_, P.inj⟩
  obtain ⟨i, hi⟩ := List.mem_iff_getElem?.1 hx
  have := (List.getElem?_eq_some_iff.1 hi).1
  obtain ⟨v, e, a, b⟩ := P.bd i (by omega)
  rw [hi] at e
  cases e
  exact ⟨a, b⟩
end Go.Wx
/- Walks: an order; copies of seasons. Conditions: as each theorem states. -/
namespace Go.Proofs.YtboigjfgpppeaaaDoor
open Go Go.HL Go.Proofs Go.Wx
variable [Lvl]
set_option maxRecDepth 100000
end Go.Proofs.YtboigjfgpppeaaaDoor
/- Walks: the law on joints apart. Conditions: as each theorem states. -/
namespace Go.Proofs.YtboigjfgpppeaaaDoor
open Go Go.HL Go.Proofs Go.Wx Go.RowKit
variable [Lvl]
set_option maxRecDepth 100000
end Go.Proofs.YtboigjfgpppeaaaDoor
/- Walks: how long failures are unseen. Conditions: as each theorem states. -/
namespace Go.Proofs.YtboigjfgpppeaaaDoor
open Go Go.HL Go.Proofs Go.Wx
variable [Lvl]
set_option maxRecDepth 100000
/-- The error of the weeks in which somebody looks. -/
def lookE (n : Nat) (l : List Int) (i : Nat) : Int := if !inM (l.getD i 0) 0 ((n : Int) - 1) then 1 else if 0 < i ∧ l.getD i 0 ≤ l.getD (i - 1) 0 then 5 else 0
def looksM (n : Nat) (l : List Int) : Int := firstErr (lookE n l) (List.range l.length)
theorem looks_stop {n : Nat} {l : List Int} {i : Nat} (hi : i < l.length) (h0 : firstErr (lookE n l) ((List.range l.length).take i) = 0) (hx : lookE n l i ≠ 0) : looksM n l = lookE n l i := by
  have := firstErr_stop (f := lookE n l) (l := List.range l.length) (k := i) (by simpa using hi) h0 (by simpa using hx)
  simpa [looksM] using this
theorem looks_go {n : Nat} {l : List Int} {i : Nat} (hi : i < l.length) (h0 : firstErr (lookE n l) ((List.range l.length).take i) = 0) (hx : lookE n l i = 0) : firstErr (lookE n l) ((List.range l.length).take (i + 1)) = 0 :=
  firstErr_go (f := lookE n l) (l := List.range l.length) (k := i) (by simpa using hi) h0 (by simpa using hx)
set_option maxHeartbeats 1000000 in
theorem unseen1_ask (s : Season) (l : List Int) (hl : l.length < 2 ^ 20) (B : Option Addr) (cB : Nat) (A0 A1 A2 A3 : Option Addr) (c0 c1 c2 c3 b1 b2 : Nat) (h2 : s.heats.length < 2 ^ 40) (h : AH) (RB : Row h 1 intC B l) (e1 : h b1 = some (.cells #[.slice B l.length cB] 36 (0, 0))) (e2 : h b2 = some (.cells #[.slice A0 s.heats.length c0, .slice A1 s.damps.length c1, .slice A2 s.joints.length c2, .slice A3 s.reports.length c3] 26 (0, 0))) :
    AskT (.func (.func 44) #[] #[.pointer (some ⟨b1, 0, none⟩), .pointer (some ⟨b2, 0, none⟩)]) h (looksM s.heats.length l) := by
  intro h' E _
  refine callV_fn (caps := [.pointer (some ⟨b1, 0, none⟩), .pointer (some ⟨b2, 0, none⟩)]) rfl ?_
  refine call_body Tryd.func44 rfl Tryd.ntmps44 rfl ?_
  refine xp_seq ?_
  refine xp_region rfl ?_
  refine op_pure (pv_assign (v := .int .i64 _) rfl) ?_
  refine xp_seq ?_
  refine xp_seq ?_
  refine xp_region rfl ?_
  refine op_load (v := .slice _ _ _) rfl rfl (by simp only [cellA, E _ _ e1]; rfl) ?_
  refine op_pure (pv_len rfl rfl) ?_
  refine op_pure (pv_move (v := .int .i64 _) rfl) ?_
  refine xp_block ?_
  refine xp_loopB [2, 3, 4, 7, 8, 9, 10, 11, 12, 13, 14, 15, 16, 17, 18, 19, 20, 21, 22, 23, 24, 25, 26, 27, 28, 29, 30, 31, 32] 0 (α := Nat) (fun i => [(7, .int .i64 i)]) (fun i => _) (fun i h_i => i ≤ l.length ∧ firstErr (lookE s.heats.length l) ((List.range l.length).take i) = 0) (fun i => l.length - i) (0) ⟨rfl, trivial⟩ (rfl) (⟨Nat.zero_le _, rfl⟩) ?_
  rintro i T1 h_i E_i J_i
  refine goes_norm [] rfl ?_
  obtain ⟨K1, K2⟩ := J_i
  refine xp_seq ?_
  refine xp_region rfl ?_
  refine op_pure (pv_of (v := .bool _) rfl) ?_
  refine xp_seq ?_
  refine xp_cond rfl (fun hi => ?_) (fun hi => ?_)
  · skip
    have hil : i < l.length := ltI hi
    have hgd : l.getD i 0 = l[i] := by rw [List.getD_eq_getElem?_getD, List.getElem?_eq_getElem hil]; rfl
    obtain ⟨g, off, hB, hc⟩ := (RB.ext (Ext.trans E E_i)).at (by omega) hil
    refine xp_skip ?_
    refine xp_seq ?_
    refine xp_block ?_
    refine xp_seq ?_
    refine xp_region rfl ?_
    refine op_pure (pv_move (v := .int .i64 _) rfl) ?_
    refine op_pure (pv_indexE rfl hB rfl rfl rfl (by omega) (by omega)) ?_
    refine op_load (v := .int .i64 _) rfl rfl ((hc) 0 _ rfl) ?_
    refine op_pure (pv_assign (v := .int .i64 _) rfl) ?_
    refine op_pure (pv_assign (v := .int .i64 _) rfl) ?_
    refine xp_block ?_
    refine xp_seq ?_
    refine xp_region rfl ?_
    refine op_pure (pv_move (v := .int .i64 _) rfl) ?_
    refine op_pure (pv_fieldAddr rfl rfl rfl rfl _ rfl) ?_
    refine op_load (v := .slice _ _ _) rfl rfl (by simp only [cellA, E_i _ _ (E _ _ e2)]; rfl) ?_
    refine op_pure (pv_len rfl rfl) ?_
    refine op_pure (pv_arith rfl (by omega)) ?_
    refine op_fn (caps := []) (vs := [.int .i64 _, .int .i64 _, .int .i64 _]) rfl rfl rfl (in_ok _ _ _ h_i) ?_
    rintro _ h3 E3 rfl
    refine op_pure (pv_of (v := .bool _) rfl) ?_
    refine op_pure (pv_assign (v := .bool _) rfl) ?_
    refine xp_cond rfl (fun ht => ?_) (fun ht => ?_)
    · skip
      have hb : inM l[i] 0 ((s.heats.length : Int) - 1) = false := by
        cases hb : inM l[i] 0 ((s.heats.length : Int) - 1) with
        | false => rfl
        | true => unfold inM at hb; rw [hb] at ht; cases ht
      have hE : lookE s.heats.length l i = 1 := by unfold lookE; rw [hgd, hb]; rfl
      refine xp_seq ?_
      refine xp_region rfl ?_
      refine op_pure (pv_assign (v := .int .i64 _) rfl) ?_
      refine xp_ret ?_
      refine res_list (vs := [_]) Tryd.results44 ⟨resV_tmp rfl rfl, trivial⟩ fun V => ?_
      exact ⟨(Ext.trans (Ext.trans E_i E3) (ext_wl V)), intE (by rw [looks_stop hil K2 (by rw [hE]; decide), hE])⟩
    · skip
      have hb : inM l[i] 0 ((s.heats.length : Int) - 1) = true := by
        cases hb : inM l[i] 0 ((s.heats.length : Int) - 1) with
        | true => rfl
        | false => unfold inM at hb; rw [hb] at ht; cases ht
      rcases Nat.eq_zero_or_pos i with h0 | h0
      · skip
        subst h0
        have hE : lookE s.heats.length l 0 = 0 := by unfold lookE; rw [hgd, hb]; rfl
        refine xp_seq ?_
        refine xp_region rfl ?_
        refine op_pure (pv_move (v := .int .i64 _) rfl) ?_
        refine op_pure (pv_of (v := .bool _) rfl) ?_
        refine op_pure (pv_move (v := .bool _) rfl) ?_
        refine guard_no rfl rfl ?_
        refine guard_no rfl rfl ?_
        refine guard_no rfl rfl ?_
        refine guard_no rfl rfl ?_
        refine guard_no rfl rfl ?_
        refine guard_no rfl rfl ?_
        refine guard_no rfl rfl ?_
        refine op_pure (pv_pickF rfl rfl (v := .bool _) rfl) ?_
        refine op_pure (pv_assign (v := .bool _) rfl) ?_
        refine xp_condF rfl (rfl) ?_
        refine xp_skip ?_
        refine xp_region rfl ?_
        refine op_pure (pv_arith rfl (by omega)) ?_
        refine op_pure (pv_move (v := .int .i64 _) rfl) ?_
        refine ⟨0 + 1, ⟨rfl, trivial⟩, rfl, rfl, (Ext.trans E_i E3), fun h3 E3 => ⟨hil, looks_go hil K2 hE⟩, by first | omega | (dsimp only; omega), ?_⟩
        repeat (first | exact off_base _ _ _ | refine off_upd (by decide) ?_ | refine off_updL rfl ?_ | refine off_mix rfl ?_)
      · skip
        have hpos : decide ((i : Int) > 0) = true := decide_eq_true (by omega)
        have hil1 : i - 1 < l.length := by omega
        have hgd1 : l.getD (i - 1) 0 = l[i - 1] := by rw [List.getD_eq_getElem?_getD, List.getElem?_eq_getElem hil1]; rfl
        obtain ⟨g1, off1, hB1, hc1⟩ := (RB.ext (Ext.trans E E_i)).at (by omega) hil1
        have hsub : (i : Int) - 1 = ((i - 1 : Nat) : Int) := by omega
        refine xp_seq ?_
        refine xp_region rfl ?_
        refine op_pure (pv_move (v := .int .i64 _) rfl) ?_
        refine op_pure (pv_of (v := .bool _) rfl) ?_
        refine op_pure (pv_move (v := .bool _) rfl) ?_
        refine guard_yes rfl hpos ?_
        refine op_pure (pv_move (v := .int .i64 _) rfl) ?_
        refine guard_yes rfl hpos ?_
        refine op_load (v := .slice _ _ _) rfl rfl (by simp only [cellA, E3 _ _ (E_i _ _ (E _ _ e1))]; rfl) ?_
        refine guard_yes rfl hpos ?_
        refine op_pure (pv_move (v := .int .i64 _) rfl) ?_
        refine guard_yes rfl hpos ?_
        refine op_pure (pv_arith rfl (by omega)) ?_
        rw [hsub]
        refine guard_yes rfl hpos ?_
        refine op_pure (pv_indexE rfl hB1 rfl rfl rfl (by omega) (by omega)) ?_
        refine guard_yes rfl hpos ?_
        refine op_load (v := .int .i64 _) rfl rfl ((hc1.ext E3) 0 _ rfl) ?_
        refine guard_yes rfl hpos ?_
        refine op_pure (pv_of (v := .bool _) rfl) ?_
        refine op_pure (pv_pickT rfl hpos (v := .bool _) rfl) ?_
        refine op_pure (pv_assign (v := .bool _) rfl) ?_
        refine xp_cond rfl (fun hle => ?_) (fun hle => ?_)
        · skip
          have hle' : l[i] ≤ l[i - 1] := by simpa [hpos] using hle
          have hE : lookE s.heats.length l i = 5 := by unfold lookE; rw [hgd, hgd1, hb, if_neg (by simp), if_pos ⟨h0, hle'⟩]
          refine xp_seq ?_
          refine xp_region rfl ?_
          refine op_pure (pv_assign (v := .int .i64 _) rfl) ?_
          refine xp_ret ?_
          refine res_list (vs := [_]) Tryd.results44 ⟨resV_tmp rfl rfl, trivial⟩ fun V => ?_
          exact ⟨(Ext.trans (Ext.trans E_i E3) (ext_wl V)), intE (by rw [looks_stop hil K2 (by rw [hE]; decide), hE])⟩
        · skip
          have hle' : ¬ l[i] ≤ l[i - 1] := by simpa [hpos] using hle
          have hE : lookE s.heats.length l i = 0 := by unfold lookE; rw [hgd, hgd1, hb, if_neg (by simp), if_neg (fun e => hle' e.2)]
          refine xp_skip ?_
          refine xp_region rfl ?_
          refine op_pure (pv_arith rfl (by omega)) ?_
          refine op_pure (pv_move (v := .int .i64 _) rfl) ?_
          refine ⟨i + 1, ⟨rfl, trivial⟩, rfl, rfl, (Ext.trans E_i E3), fun h3 E3 => ⟨hil, looks_go hil K2 hE⟩, by first | omega | (dsimp only; omega), ?_⟩
          repeat (first | exact off_base _ _ _ | refine off_upd (by decide) ?_ | refine off_updL rfl ?_ | refine off_mix rfl ?_)
  · skip
    have hie : i = l.length := by have := geI hi; omega
    subst hie
    refine xp_exit ?_
    refine xp_seq ?_
    refine xp_region rfl ?_
    refine op_pure (pv_assign (v := .int .i64 _) rfl) ?_
    refine xp_ret ?_
    refine res_list (vs := [_]) Tryd.results44 ⟨resV_tmp rfl rfl, trivial⟩ fun V => ?_
    refine ⟨(Ext.trans E_i (ext_wl V)), intE ?_⟩
    have := K2
    rw [List.take_of_length_le (by simp)] at this
    exact this.symm
def unseenE (s : Season) (l : List Int) : Int := knownM s [looksM s.heats.length l]
def unseenV (s : Season) (l : List Int) : Int := if unseenE s l = 0 then unseenOf s.heats.length (listM (failingM s)) l else 0
set_option maxHeartbeats 1000000 in
theorem Unseen_ok (s : Season) (Sm : Small s) (l : List Int) (hl : l.length < 2 ^ 20) (B : Option Addr) (cB : Nat) (A0 A1 A2 A3 : Option Addr) (c0 c1 c2 c3 : Nat) (h : AH) (R : SeasonR h A0 A1 A2 A3 s) (RB : Row h 1 intC B l) :
    FnT Tryd.prog 18 #[seasonV A0 A1 A2 A3 c0 c1 c2 c3 s, .slice B l.length cB] h (fun v _ => v = .tuple #[.int .i64 (unseenV s l), .int .i64 (unseenE s l)]) := by
  by_cases he : unseenE s l = 0
  · have hk := knownM_zero he
    have SV := checkM_zero hk.1
    have hw6 := SV.b.w6
    refine call_body Tryd.func18 rfl Tryd.ntmps18 rfl ?_
    refine xp_seq ?_
    refine xp_region rfl ?_
    refine op_box (v := .agg #[.slice _ _ _, .slice _ _ _, .slice _ _ _, .slice _ _ _]) (cs := [_, _, _, _]) rfl rfl fun b2 hb2 => ?_
    refine wp_norm [_] rfl ?_
    refine op_box (v := .slice _ _ _) (cs := [_]) rfl rfl fun b3 hb3 => ?_
    refine wp_norm [_, _] rfl ?_
    refine op_pure (pv_assign (v := .int .i64 _) rfl) ?_
    refine op_pure (pv_assign (v := .int .i64 _) rfl) ?_
    refine goes_pub 0 rfl ?_
    intro h0 E0 p0
    refine goes_pub 1 rfl ?_
    intro h1 E1 p1
    refine xp_seq ?_
    refine xp_region rfl ?_
    refine op_loadA (cs := [.slice _ _ _, .slice _ _ _, .slice _ _ _, .slice _ _ _]) rfl rfl rfl rfl (cells_blk (E1 _ _ p0)) ?_
    refine op_pure (pv_makeFunc (vs := []) (ws := [_, _]) rfl rfl) ?_
    refine op_buildSlice (zc := [_]) (vs := [(0, _)]) (cs := [_]) rfl rfl rfl rfl rfl rfl rfl fun b11 hb11 => ?_
    refine wp_norm [_, _, _] rfl ?_
    refine wp_pub 2 rfl rfl ?_
    intro h2 E2 p11
    refine wp_norm [_, _, _] rfl ?_
    refine op_fn (caps := []) (vs := [.agg #[.slice _ _ _, .slice _ _ _, .slice _ _ _, .slice _ _ _], .slice _ _ _]) rfl rfl rfl (known_yes s A0 A1 A2 A3 c0 c1 c2 c3 h2 (R.ext (Ext.trans (Ext.trans E0 E1) E2)) Sm.h0 Sm.h1 Sm.h2 Sm.h3 [_] [_] _ _ (rowFn p11) rfl (by simp) (ask1 ((unseen1_ask s l hl B cB A0 A1 A2 A3 c0 c1 c2 c3 b3 b2 Sm.h0 _ (RB.ext (Ext.trans E0 E1)) p1 (E1 _ _ p0)).ext E2)) he) ?_
    rintro _ h3 E3 ⟨A, c, mf, fm, fl, A', c', mf', fm', fl', rfl, X, X'⟩
    refine op_pure (pv_move (v := .tuple #[.agg #[.slice _ _ _, .map _, .map _, .map _, .map _, .slice _ _ _, .map _, .map _, .map _, .map _], .int .i64 _]) rfl) ?_
    refine op_pure (pv_of (v := .agg #[.slice _ _ _, .map _, .map _, .map _, .map _, .slice _ _ _, .map _, .map _, .map _, .map _]) rfl) ?_
    refine op_pure (pv_of (v := .int .i64 _) rfl) ?_
    refine op_alloc (cs := [_, _, _, _, _, _, _, _, _, _]) rfl rfl fun b6 hb6 => ?_
    refine wp_norm [_, _, _, _] rfl ?_
    refine op_storeP 3 (v := .agg #[.slice _ _ _, .map _, .map _, .map _, .map _, .slice _ _ _, .map _, .map _, .map _, .map _]) (vs := [_, _, _, _, _, _, _, _, _, _]) (c' := [_, _, _, _, _, _, _, _, _, _]) rfl rfl rfl rfl rfl rfl rfl rfl rfl ?_
    refine wp_norm [_, _, _, _] rfl ?_
    refine op_pure (pv_assign (v := .int .i64 _) rfl) ?_
    refine xp_seq ?_
    refine xp_seq ?_
    refine xp_region rfl ?_
    refine op_pure (pv_move (v := .int .i64 _) rfl) ?_
    refine op_pure (pv_of (v := .bool _) rfl) ?_
    refine xp_condF rfl (by decide) ?_
    refine xp_skip ?_
    refine xp_seq ?_
    refine xp_dw [] rfl rfl rfl ?_
    refine dw_load (i := 0) rfl (by decide +kernel) ?_
    refine op_loadA (cs := [.slice _ _ _, .slice _ _ _, .slice _ _ _, .slice _ _ _]) rfl rfl rfl rfl (cells_blk ((Ext.trans (Ext.trans E1 E2) E3) _ _ p0)) ?_
    refine dw_load (i := 1) rfl (by decide +kernel) ?_
    refine op_loadPA 3 (vs := [.slice _ _ _, .map _, .map _, .map _, .map _, .slice _ _ _, .map _, .map _, .map _, .map _]) rfl rfl rfl rfl rfl ?_
    refine dw_load (i := 2) rfl (by decide +kernel) ?_
    refine op_loadA (cs := [.slice _ _ _, .slice _ _ _, .slice _ _ _, .slice _ _ _]) rfl rfl rfl rfl (cells_blk ((Ext.trans (Ext.trans E1 E2) E3) _ _ p0)) ?_
    refine dw_load (i := 4) rfl (by decide +kernel) ?_
    refine op_load (v := .slice _ _ _) rfl rfl (by simp only [cellA, (Ext.trans E2 E3) _ _ p1]; rfl) ?_
    refine dw_eff (i := 3) rfl (by decide +kernel) ?_
    refine op_fn (caps := []) (vs := [.agg #[.slice _ _ _, .map _, .map _, .map _, .map _, .slice _ _ _, .map _, .map _, .map _, .map _], .agg #[.slice _ _ _, .slice _ _ _, .slice _ _ _, .slice _ _ _]]) rfl rfl rfl (failing_ok s SV A c mf fm fl A' c' mf' fm' fl' A0 A1 A2 A3 c0 c1 c2 c3 h3 (R.ext (Ext.trans (Ext.trans (Ext.trans E0 E1) E2) E3)) X X') ?_
    rintro _ h4 E4 rfl
    refine ⟨ext_wlm E4 _, ?_⟩
    refine dw_last (i := 5) rfl (by decide +kernel) (by decide +kernel) ?_
    refine op_fn (caps := []) (vs := [.agg #[.slice _ _ _, .slice _ _ _, .slice _ _ _, .slice _ _ _], .int .u64 _, .slice _ _ _]) rfl rfl rfl (unseen_ok s hw6 A0 A1 A2 A3 c0 c1 c2 c3 (failingM s) (failingM_lt hw6) l hl B cB h4 (RB.ext (Ext.trans (Ext.trans (Ext.trans (Ext.trans E0 E1) E2) E3) E4))) ?_
    rintro _ h5 E5 rfl
    refine dw_pure (i := 6) rfl (by decide +kernel) (pv_assign (v := .int .i64 _) rfl) ?_
    refine dw_pure (i := 7) rfl (by decide +kernel) (pv_assign (v := .int .i64 _) rfl) ?_
    refine dw_end rfl ?_
    refine xp_ret ?_
    refine res_list (vs := [_, _]) Tryd.results18 ⟨resV_tmp rfl rfl, resV_tmp rfl rfl, trivial⟩ fun V => ?_
    refine ⟨(Ext.trans (Ext.trans (Ext.trans (Ext.trans (Ext.trans (Ext.trans E0 E1) E2) E3) E4) E5) (ext_wl V)), ?_⟩
    rw [unseenV, if_pos he, he]; rfl
  · skip
    refine call_body Tryd.func18 rfl Tryd.ntmps18 rfl ?_
    refine xp_seq ?_
    refine xp_region rfl ?_
    refine op_box (v := .agg #[.slice _ _ _, .slice _ _ _, .slice _ _ _, .slice _ _ _]) (cs := [_, _, _, _]) rfl rfl fun b2 hb2 => ?_
    refine wp_norm [_] rfl ?_
    refine op_box (v := .slice _ _ _) (cs := [_]) rfl rfl fun b3 hb3 => ?_
    refine wp_norm [_, _] rfl ?_
    refine op_pure (pv_assign (v := .int .i64 _) rfl) ?_
    refine op_pure (pv_assign (v := .int .i64 _) rfl) ?_
    refine goes_pub 0 rfl ?_
    intro h0 E0 p0
    refine goes_pub 1 rfl ?_
    intro h1 E1 p1
    refine xp_seq ?_
    refine xp_region rfl ?_
    refine op_loadA (cs := [.slice _ _ _, .slice _ _ _, .slice _ _ _, .slice _ _ _]) rfl rfl rfl rfl (cells_blk (E1 _ _ p0)) ?_
    refine op_pure (pv_makeFunc (vs := []) (ws := [_, _]) rfl rfl) ?_
    refine op_buildSlice (zc := [_]) (vs := [(0, _)]) (cs := [_]) rfl rfl rfl rfl rfl rfl rfl fun b11 hb11 => ?_
    refine wp_norm [_, _, _] rfl ?_
    refine wp_pub 2 rfl rfl ?_
    intro h2 E2 p11
    refine wp_norm [_, _, _] rfl ?_
    refine op_fn (caps := []) (vs := [.agg #[.slice _ _ _, .slice _ _ _, .slice _ _ _, .slice _ _ _], .slice _ _ _]) rfl rfl rfl (known_no s A0 A1 A2 A3 c0 c1 c2 c3 h2 (R.ext (Ext.trans (Ext.trans E0 E1) E2)) Sm.h0 Sm.h1 Sm.h2 Sm.h3 [_] [_] _ _ (rowFn p11) rfl (by simp) (ask1 ((unseen1_ask s l hl B cB A0 A1 A2 A3 c0 c1 c2 c3 b3 b2 Sm.h0 _ (RB.ext (Ext.trans E0 E1)) p1 (E1 _ _ p0)).ext E2)) he) ?_
    rintro _ h3 E3 rfl
    refine op_pure (pv_move (v := .tuple #[.agg #[.slice _ _ _, .map _, .map _, .map _, .map _, .slice _ _ _, .map _, .map _, .map _, .map _], .int .i64 _]) rfl) ?_
    refine op_pure (pv_of (v := .agg #[.slice _ _ _, .map _, .map _, .map _, .map _, .slice _ _ _, .map _, .map _, .map _, .map _]) rfl) ?_
    refine op_pure (pv_of (v := .int .i64 _) rfl) ?_
    refine op_alloc (cs := [_, _, _, _, _, _, _, _, _, _]) rfl rfl fun b6 hb6 => ?_
    refine wp_norm [_, _, _, _] rfl ?_
    refine op_storeP 3 (v := .agg #[.slice _ _ _, .map _, .map _, .map _, .map _, .slice _ _ _, .map _, .map _, .map _, .map _]) (vs := [_, _, _, _, _, _, _, _, _, _]) (c' := [_, _, _, _, _, _, _, _, _, _]) rfl rfl rfl rfl rfl rfl rfl rfl rfl ?_
    refine wp_norm [_, _, _, _] rfl ?_
    refine op_pure (pv_assign (v := .int .i64 _) rfl) ?_
    refine xp_seq ?_
    refine xp_seq ?_
    refine xp_region rfl ?_
    refine op_pure (pv_move (v := .int .i64 _) rfl) ?_
    refine op_pure (pv_of (v := .bool _) rfl) ?_
    refine xp_condT rfl (by simpa [unseenE] using he) ?_
    refine xp_seq ?_
    refine xp_region rfl ?_
    refine op_pure (pv_move (v := .int .i64 _) rfl) ?_
    refine op_pure (pv_assign (v := .int .i64 _) rfl) ?_
    refine op_pure (pv_assign (v := .int .i64 _) rfl) ?_
    refine xp_ret ?_
    refine res_list (vs := [_, _]) Tryd.results18 ⟨resV_tmp rfl rfl, resV_tmp rfl rfl, trivial⟩ fun V => ?_
    refine ⟨(Ext.trans (Ext.trans (Ext.trans (Ext.trans E0 E1) E2) E3) (ext_wl V)), ?_⟩
    rw [unseenV, if_neg he]; rfl
end Go.Proofs.YtboigjfgpppeaaaDoor
/- Plain: all lists of so many numbers; the fewest of them that will do. Conditions: as each theorem states. -/
namespace Go.Wx
open Go Go.HL
variable [Lvl]
end Go.Wx
/- Walks: all lists of so many numbers. Conditions: as each theorem states. -/
namespace Go.Proofs.YtboigjfgpppeaaaDoor
open Go Go.HL Go.Proofs Go.Wx
variable [Lvl]
set_option maxRecDepth 100000
/-- Values that are slices which hold the lists. -/
def LLv (h : AH) (ls : List (List Int)) (vs : List Value) : Prop := vs.length = ls.length ∧ ∀ (i : Nat) l v, ls[i]? = some l → vs[i]? = some v → SlR h 1 intC l v
theorem LLv.ext {h h' : AH} {ls : List (List Int)} {vs : List Value} (x : LLv h ls vs) (E : Ext h h') : LLv h' ls vs := ⟨x.1, fun i l v a b => (x.2 i l v a b).ext E⟩
theorem LLv.nil {h : AH} : LLv h [] [] := ⟨rfl, fun i l v a _ => by simp at a⟩
theorem LLv.snoc {h : AH} {ls : List (List Int)} {vs : List Value} (x : LLv h ls vs) {l : List Int} {v : Value} (s : SlR h 1 intC l v) : LLv h (ls ++ [l]) (vs ++ [v]) := by
  refine ⟨by simp [x.1], fun i l' v' a b => ?_⟩
  by_cases hi : i < ls.length
  · rw [List.getElem?_append_left hi] at a
    rw [List.getElem?_append_left (by rw [x.1]; exact hi)] at b
    exact x.2 i l' v' a b
  · have h1 := (List.getElem?_eq_some_iff.1 a).1
    have hie : i = ls.length := by simp at h1; omega
    subst hie
    rw [List.getElem?_append_right (Nat.le_refl _), Nat.sub_self] at a
    rw [List.getElem?_append_right (by rw [x.1]; exact Nat.le_refl _), x.1, Nat.sub_self] at b
    simp at a b
    subst a b
    exact s
end Go.Proofs.YtboigjfgpppeaaaDoor
/- Plain: the fewest weeks that will do. Conditions: as each theorem states. -/
namespace Go.Wx
open Go Go.HL
variable [Lvl]
end Go.Wx
/- Walks: the law on weeks in which somebody looks. Conditions: as each theorem states. -/
namespace Go.Proofs.YtboigjfgpppeaaaDoor
open Go Go.HL Go.Proofs Go.Wx Go.RowKit
variable [Lvl]
set_option maxRecDepth 100000
end Go.Proofs.YtboigjfgpppeaaaDoor
/- Plain: which weathers there are; another weather; sets and their ends. Conditions: as each theorem states. -/
namespace Go.Wx
open Go Go.HL
variable [Lvl]
/-- Another weather. -/
def outR (r : Rg) : Bool := !inM r.mn (-50) 100 || !inM r.mx (-50) 100
def harderW (s : Season) (k a z d : Int) : List Rg := raisedN (weatherM s k) a.toNat (z + 1).toNat d
def harderE (s : Season) (k a z d : Int) : Int :=
  if checkM s ≠ 0 then checkM s else if !inM k 1 2 then 8 else if !inM a 0 ((s.heats.length : Int) - 1) then 1 else if !inM z 0 ((s.heats.length : Int) - 1) then 1
  else if a > z then 5 else if !inM d (-150) 150 then 1 else if (harderW s k a z d).any outR then 1 else 0
def noSeason : Season := ⟨[], [], [], []⟩
def harderS (s : Season) (k a z d : Int) : Season := if k = 1 then { s with heats := harderW s k a z d, reports := [] } else { s with damps := harderW s k a z d, reports := [] }
def harderV (s : Season) (k a z d : Int) : Season := if harderE s k a z d = 0 then harderS s k a z d else noSeason
end Go.Wx
/- Walks: another weather; seasons compared. Conditions: as each theorem states. -/
namespace Go.Proofs.YtboigjfgpppeaaaDoor
open Go Go.HL Go.Proofs Go.Wx
variable [Lvl]
set_option maxRecDepth 100000
theorem seasonR_none {h : AH} : SeasonR h none none none none noSeason :=
  ⟨⟨fun _ h => (by cases h), Rd.nil _ _⟩, ⟨fun _ h => (by cases h), Rd.nil _ _⟩, ⟨fun _ h => (by cases h), Rd.nil _ _⟩, ⟨fun _ h => (by cases h), Rd.nil _ _⟩⟩
theorem inM_not {x lo hi : Int} (h : (!(decide (lo ≤ x) && decide (x ≤ hi))) = true) : inM x lo hi = false := by
  unfold inM
  cases e : (decide (lo ≤ x) && decide (x ≤ hi)) with
  | false => rfl
  | true => rw [e] at h; cases h
theorem inM_yes {x lo hi : Int} (h : (!(decide (lo ≤ x) && decide (x ≤ hi))) = false) : inM x lo hi = true := by
  unfold inM
  cases e : (decide (lo ≤ x) && decide (x ≤ hi)) with
  | true => rfl
  | false => rw [e] at h; cases h
set_option maxHeartbeats 8000000 in
theorem Harder_ok (s : Season) (Sm : Small s) (kd fr to d : Int) (A0 A1 A2 A3 : Option Addr) (c0 c1 c2 c3 : Nat) (h : AH) (R : SeasonR h A0 A1 A2 A3 s) :
    FnT Tryd.prog 21 #[seasonV A0 A1 A2 A3 c0 c1 c2 c3 s, .int .i64 kd, .int .i64 fr, .int .i64 to, .int .i64 d] h (fun v h' => ∃ u, v = .tuple #[u, .int .i64 (harderE s kd fr to d)] ∧ SeasonS h' (harderV s kd fr to d) u) := by
  have Sm0 := Sm.h0
  refine call_body Tryd.func21 rfl Tryd.ntmps21 rfl ?_
  refine xp_seq ?_
  refine xp_region rfl ?_
  refine op_box (v := .agg #[.slice _ _ _, .slice _ _ _, .slice _ _ _, .slice _ _ _]) (cs := [_, _, _, _]) rfl rfl fun b5 hb5 => ?_
  refine wp_norm [_] rfl ?_
  refine op_alloc (cs := [_, _, _, _]) rfl rfl fun b10 hb10 => ?_
  refine wp_norm [_, _] rfl ?_
  refine op_pure (pv_assign (v := .int .i64 _) rfl) ?_
  refine xp_seq ?_
  refine xp_seq ?_
  refine xp_region rfl ?_
  refine op_loadPA 0 (vs := [.slice _ _ _, .slice _ _ _, .slice _ _ _, .slice _ _ _]) rfl rfl rfl rfl rfl ?_
  refine op_fn (caps := []) (vs := [.agg #[.slice _ _ _, .slice _ _ _, .slice _ _ _, .slice _ _ _]]) rfl rfl rfl (check_ok s A0 A1 A2 A3 c0 c1 c2 c3 h (R.ext (Ext.refl _)) Sm.h0 Sm.h1 Sm.h2 Sm.h3) ?_
  rintro _ h1 E1 rfl
  refine op_pure (pv_assign (v := .int .i64 _) rfl) ?_
  refine xp_seq ?_
  refine xp_region rfl ?_
  refine op_pure (pv_move (v := .int .i64 _) rfl) ?_
  refine op_pure (pv_of (v := .bool _) rfl) ?_
  refine xp_cond rfl (fun hc => ?_) (fun hc => ?_)
  · skip
    have hc0 : checkM s ≠ 0 := by simpa using hc
    have hE : harderE s kd fr to d = checkM s := by rw [harderE, if_pos hc0]
    refine xp_seq ?_
    refine xp_region rfl ?_
    refine op_pure (pv_build (zc := [_, _, _, _]) (vs := []) (cs := [_, _, _, _]) rfl rfl rfl rfl rfl rfl) ?_
    refine op_pure (pv_move (v := .int .i64 _) rfl) ?_
    refine op_storeP 1 (v := .agg #[.slice _ _ _, .slice _ _ _, .slice _ _ _, .slice _ _ _]) (vs := [_, _, _, _]) (c' := [_, _, _, _]) rfl rfl rfl rfl rfl rfl rfl rfl rfl ?_
    refine wp_norm [_, _] rfl ?_
    refine op_pure (pv_assign (v := .int .i64 _) rfl) ?_
    refine xp_ret ?_
    refine res_list (vs := [_, _]) Tryd.results21 ⟨resV_agg 1 rfl rfl rfl rfl rfl (vs := [.slice _ _ _, .slice _ _ _, .slice _ _ _, .slice _ _ _]) rfl, resV_tmp rfl rfl, trivial⟩ fun V => ?_
    exact ⟨(Ext.trans E1 (ext_wl V)), _, by rw [hE]; rfl, none, none, none, none, 0, 0, 0, 0, by rw [harderV, hE, if_neg hc0]; rfl, by rw [harderV, hE, if_neg hc0]; exact seasonR_none⟩
  · skip
    have hc0 : checkM s = 0 := by simpa using hc
    refine xp_skip ?_
    refine xp_seq ?_
    refine xp_region rfl ?_
    refine op_pure (pv_fieldAddr rfl rfl rfl rfl 0 rfl) ?_
    refine op_loadP 0 (v := .slice _ _ _) rfl rfl rfl rfl ?_
    refine op_pure (pv_len rfl rfl) ?_
    refine op_pure (pv_arith rfl (by omega)) ?_
    refine op_pure (pv_assign (v := .int .i64 _) rfl) ?_
    refine xp_seq ?_
    refine xp_block ?_
    refine xp_seq ?_
    refine xp_region rfl ?_
    refine op_pure (pv_move (v := .int .i64 _) rfl) ?_
    refine op_fn (caps := []) (vs := [.int .i64 _, .int .i64 _, .int .i64 _]) rfl rfl rfl (in_ok _ _ _ h1) ?_
    rintro _ h2 E2 rfl
    refine op_pure (pv_of (v := .bool _) rfl) ?_
    refine op_pure (pv_assign (v := .bool _) rfl) ?_
    refine xp_cond rfl (fun hk => ?_) (fun hk => ?_)
    · skip
      have hkd : inM kd 1 2 = false := inM_not hk
      have hE : harderE s kd fr to d = 8 := by rw [harderE, if_neg (by simp [hc0]), if_pos (by simp [hkd])]
      refine xp_seq ?_
      refine xp_region rfl ?_
      refine op_pure (pv_build (zc := [_, _, _, _]) (vs := []) (cs := [_, _, _, _]) rfl rfl rfl rfl rfl rfl) ?_
      refine op_storeP 1 (v := .agg #[.slice _ _ _, .slice _ _ _, .slice _ _ _, .slice _ _ _]) (vs := [_, _, _, _]) (c' := [_, _, _, _]) rfl rfl rfl rfl rfl rfl rfl rfl rfl ?_
      refine wp_norm [_, _] rfl ?_
      refine op_pure (pv_assign (v := .int .i64 _) rfl) ?_
      refine xp_ret ?_
      refine res_list (vs := [_, _]) Tryd.results21 ⟨resV_agg 1 rfl rfl rfl rfl rfl (vs := [.slice _ _ _, .slice _ _ _, .slice _ _ _, .slice _ _ _]) rfl, resV_tmp rfl rfl, trivial⟩ fun V => ?_
      exact ⟨(Ext.trans (Ext.trans E1 E2) (ext_wl V)), _, by rw [hE]; rfl, none, none, none, none, 0, 0, 0, 0, by rw [harderV, hE]; rfl, by rw [harderV, hE]; exact seasonR_none⟩
    · skip
      have hkd : inM kd 1 2 = true := inM_yes hk
      refine xp_seq ?_
      refine xp_seq ?_
      refine xp_region rfl ?_
      refine op_pure (pv_move (v := .int .i64 _) rfl) ?_
      refine op_pure (pv_move (v := .int .i64 _) rfl) ?_
      refine op_fn (caps := []) (vs := [.int .i64 _, .int .i64 _, .int .i64 _]) rfl rfl rfl (in_ok _ _ _ h2) ?_
      rintro _ h3' E3' rfl
      refine op_pure (pv_of (v := .bool _) rfl) ?_
      refine op_pure (pv_assign (v := .bool _) rfl) ?_
      refine xp_cond rfl (fun hf => ?_) (fun hf => ?_)
      · skip
        have hfr : inM fr 0 ((s.heats.length : Int) - 1) = false := inM_not hf
        have hE : harderE s kd fr to d = 1 := by rw [harderE, if_neg (by simp [hc0]), if_neg (by simp [hkd]), if_pos (by simp [hfr])]
        refine xp_skip ?_
        refine xp_condT rfl (hf) ?_
        refine xp_seq ?_
        refine xp_region rfl ?_
        refine op_pure (pv_build (zc := [_, _, _, _]) (vs := []) (cs := [_, _, _, _]) rfl rfl rfl rfl rfl rfl) ?_
        refine op_storeP 1 (v := .agg #[.slice _ _ _, .slice _ _ _, .slice _ _ _, .slice _ _ _]) (vs := [_, _, _, _]) (c' := [_, _, _, _]) rfl rfl rfl rfl rfl rfl rfl rfl rfl ?_
        refine wp_norm [_, _] rfl ?_
        refine op_pure (pv_assign (v := .int .i64 _) rfl) ?_
        refine xp_ret ?_
        refine res_list (vs := [_, _]) Tryd.results21 ⟨resV_agg 1 rfl rfl rfl rfl rfl (vs := [.slice _ _ _, .slice _ _ _, .slice _ _ _, .slice _ _ _]) rfl, resV_tmp rfl rfl, trivial⟩ fun V => ?_
        exact ⟨(Ext.trans (Ext.trans (Ext.trans E1 E2) E3') (ext_wl V)), _, by rw [hE]; rfl, none, none, none, none, 0, 0, 0, 0, by rw [harderV, hE]; rfl, by rw [harderV, hE]; exact seasonR_none⟩
      · skip
        have hfr : inM fr 0 ((s.heats.length : Int) - 1) = true := inM_yes hf
        refine xp_region rfl ?_
        refine op_pure (pv_move (v := .int .i64 _) rfl) ?_
        refine op_pure (pv_move (v := .int .i64 _) rfl) ?_
        refine op_fn (caps := []) (vs := [.int .i64 _, .int .i64 _, .int .i64 _]) rfl rfl rfl (in_ok _ _ _ h3') ?_
        rintro _ h4' E4' rfl
        refine op_pure (pv_of (v := .bool _) rfl) ?_
        refine op_pure (pv_assign (v := .bool _) rfl) ?_
        refine xp_cond rfl (fun ht => ?_) (fun ht => ?_)
        · skip
          have hto : inM to 0 ((s.heats.length : Int) - 1) = false := inM_not ht
          have hE : harderE s kd fr to d = 1 := by rw [harderE, if_neg (by simp [hc0]), if_neg (by simp [hkd]), if_neg (by simp [hfr]), if_pos (by simp [hto])]
          refine xp_seq ?_
          refine xp_region rfl ?_
          refine op_pure (pv_build (zc := [_, _, _, _]) (vs := []) (cs := [_, _, _, _]) rfl rfl rfl rfl rfl rfl) ?_
          refine op_storeP 1 (v := .agg #[.slice _ _ _, .slice _ _ _, .slice _ _ _, .slice _ _ _]) (vs := [_, _, _, _]) (c' := [_, _, _, _]) rfl rfl rfl rfl rfl rfl rfl rfl rfl ?_
          refine wp_norm [_, _] rfl ?_
          refine op_pure (pv_assign (v := .int .i64 _) rfl) ?_
          refine xp_ret ?_
          refine res_list (vs := [_, _]) Tryd.results21 ⟨resV_agg 1 rfl rfl rfl rfl rfl (vs := [.slice _ _ _, .slice _ _ _, .slice _ _ _, .slice _ _ _]) rfl, resV_tmp rfl rfl, trivial⟩ fun V => ?_
          exact ⟨(Ext.trans (Ext.trans (Ext.trans (Ext.trans E1 E2) E3') E4') (ext_wl V)), _, by rw [hE]; rfl, none, none, none, none, 0, 0, 0, 0, by rw [harderV, hE]; rfl, by rw [harderV, hE]; exact seasonR_none⟩
        · skip
          have hto : inM to 0 ((s.heats.length : Int) - 1) = true := inM_yes ht
          refine xp_seq ?_
          refine xp_region rfl ?_
          refine op_pure (pv_move (v := .int .i64 _) rfl) ?_
          refine op_pure (pv_move (v := .int .i64 _) rfl) ?_
          refine op_pure (pv_of (v := .bool _) rfl) ?_
          refine op_pure (pv_assign (v := .bool _) rfl) ?_
          refine xp_cond rfl (fun hg => ?_) (fun hg => ?_)
          · skip
            have hgt : fr > to := of_decide_eq_true hg
            have hE : harderE s kd fr to d = 5 := by rw [harderE, if_neg (by simp [hc0]), if_neg (by simp [hkd]), if_neg (by simp [hfr]), if_neg (by simp [hto]), if_pos hgt]
            refine xp_seq ?_
            refine xp_region rfl ?_
            refine op_pure (pv_build (zc := [_, _, _, _]) (vs := []) (cs := [_, _, _, _]) rfl rfl rfl rfl rfl rfl) ?_
            refine op_storeP 1 (v := .agg #[.slice _ _ _, .slice _ _ _, .slice _ _ _, .slice _ _ _]) (vs := [_, _, _, _]) (c' := [_, _, _, _]) rfl rfl rfl rfl rfl rfl rfl rfl rfl ?_
            refine wp_norm [_, _] rfl ?_
            refine op_pure (pv_assign (v := .int .i64 _) rfl) ?_
            refine xp_ret ?_
            refine res_list (vs := [_, _]) Tryd.results21 ⟨resV_agg 1 rfl rfl rfl rfl rfl (vs := [.slice _ _ _, .slice _ _ _, .slice _ _ _, .slice _ _ _]) rfl, resV_tmp rfl rfl, trivial⟩ fun V => ?_
            exact ⟨(Ext.trans (Ext.trans (Ext.trans (Ext.trans E1 E2) E3') E4') (ext_wl V)), _, by rw [hE]; rfl, none, none, none, none, 0, 0, 0, 0, by rw [harderV, hE]; rfl, by rw [harderV, hE]; exact seasonR_none⟩
          · skip
            have hgt : ¬ fr > to := of_decide_eq_false hg
            refine xp_seq ?_
            refine xp_region rfl ?_
            refine op_pure (pv_move (v := .int .i64 _) rfl) ?_
            refine op_fn (caps := []) (vs := [.int .i64 _, .int .i64 _, .int .i64 _]) rfl rfl rfl (in_ok _ _ _ h4') ?_
            rintro _ h5' E5' rfl
            refine op_pure (pv_of (v := .bool _) rfl) ?_
            refine op_pure (pv_assign (v := .bool _) rfl) ?_
            refine xp_cond rfl (fun hb => ?_) (fun hb => ?_)
            · skip
              have hd : inM d (-150) 150 = false := inM_not hb
              have hE : harderE s kd fr to d = 1 := by rw [harderE, if_neg (by simp [hc0]), if_neg (by simp [hkd]), if_neg (by simp [hfr]), if_neg (by simp [hto]), if_neg hgt, if_pos (by simp [hd])]
              refine xp_seq ?_
              refine xp_region rfl ?_
              refine op_pure (pv_build (zc := [_, _, _, _]) (vs := []) (cs := [_, _, _, _]) rfl rfl rfl rfl rfl rfl) ?_
              refine op_storeP 1 (v := .agg #[.slice _ _ _, .slice _ _ _, .slice _ _ _, .slice _ _ _]) (vs := [_, _, _, _]) (c' := [_, _, _, _]) rfl rfl rfl rfl rfl rfl rfl rfl rfl ?_
              refine wp_norm [_, _] rfl ?_
              refine op_pure (pv_assign (v := .int .i64 _) rfl) ?_
              refine xp_ret ?_
              refine res_list (vs := [_, _]) Tryd.results21 ⟨resV_agg 1 rfl rfl rfl rfl rfl (vs := [.slice _ _ _, .slice _ _ _, .slice _ _ _, .slice _ _ _]) rfl, resV_tmp rfl rfl, trivial⟩ fun V => ?_
              exact ⟨(Ext.trans (Ext.trans (Ext.trans (Ext.trans (Ext.trans E1 E2) E3') E4') E5') (ext_wl V)), _, by rw [hE]; rfl, none, none, none, none, 0, 0, 0, 0, by rw [harderV, hE]; rfl, by rw [harderV, hE]; exact seasonR_none⟩
            · skip
              have hd : inM d (-150) 150 = true := inM_yes hb
              have SV := checkM_zero hc0
              have hw6 := SV.b.w6
              have hw1 := SV.b.w1
              have hdl := SV.b.dl
              have hsj := SV.b.j3
              have hsr := SV.b.rl
              have hdb : -150 ≤ d ∧ d ≤ 150 := by unfold inM at hd; simpa using hd
              obtain ⟨a, rfl, hal⟩ := inM_nat hfr
              obtain ⟨z, rfl, hzl⟩ := inM_nat hto
              have ha := hfr
              have hz := hto
              refine xp_skip ?_
              refine xp_seq ?_
              refine xp_region rfl ?_
              refine op_loadPA 0 (vs := [.slice _ _ _, .slice _ _ _, .slice _ _ _, .slice _ _ _]) rfl rfl rfl rfl rfl ?_
              refine op_fn (caps := []) (vs := [.agg #[.slice _ _ _, .slice _ _ _, .slice _ _ _, .slice _ _ _]]) rfl rfl rfl (clone_ok s A0 A1 A2 A3 c0 c1 c2 c3 h5' (R.ext (Ext.trans (Ext.trans (Ext.trans (Ext.trans E1 E2) E3') E4') E5')) (by omega) (by omega) (by omega) (by omega)) ?_
              rintro _ h3 E3 ⟨B0, B1, B2, B3, d0, d1, d2, d3, rfl, R2⟩
              have hk12 : kd = 1 ∨ kd = 2 := by unfold inM at hkd; simp at hkd; omega
              rcases hk12 with rfl | rfl
              · skip
                refine op_storeP 0 (v := .agg #[.slice _ _ _, .slice _ _ _, .slice _ _ _, .slice _ _ _]) (vs := [_, _, _, _]) (c' := [_, _, _, _]) rfl rfl rfl rfl rfl rfl rfl rfl rfl ?_
                refine wp_norm [_, _] rfl ?_
                refine xp_seq ?_
                refine xp_region rfl ?_
                refine op_pure (pv_fieldAddr rfl rfl rfl rfl 3 rfl) ?_
                refine op_storeP 0 (v := .slice _ _ _) (vs := [_]) (c' := [_, _, _, _]) rfl rfl rfl rfl rfl rfl rfl rfl rfl ?_
                refine wp_norm [_, _] rfl ?_
                refine xp_seq ?_
                refine xp_dw [] rfl rfl rfl ?_
                refine dw_pure (i := 0) rfl (by decide +kernel) (pv_move (v := .int .i64 _) rfl) ?_
                refine dw_load (i := 2) rfl (by decide +kernel) ?_
                refine op_loadPA 0 (vs := [.slice _ _ _, .slice _ _ _, .slice _ _ _, .slice _ _ _]) rfl rfl rfl rfl rfl ?_
                refine dw_pure (i := 4) rfl (by decide +kernel) (pv_move (v := .int .i64 _) rfl) ?_
                refine dw_pure (i := 5) rfl (by decide +kernel) (pv_move (v := .int .i64 _) rfl) ?_
                refine dw_pure (i := 6) rfl (by decide +kernel) (pv_move (v := .int .i64 _) rfl) ?_
                refine dw_eff (i := 1) rfl (by decide +kernel) ?_
                refine op_fn (caps := []) (vs := [.int .i64 _]) rfl rfl rfl (kindOf_ok _ h3) ?_
                rintro _ h4 E4 rfl
                refine ⟨ext_wlm E4 _, ?_⟩
                refine dw_last (i := 3) rfl (by decide +kernel) (by decide +kernel) ?_
                refine op_invoke rfl (by kernel_rfl) rfl rfl (waxWeather_ok (bare s) B0 B1 B2 none d0 d1 d2 0 h4) ?_
                rintro _ h5 E5 rfl
                refine dw_last (i := 7) rfl (by decide +kernel) (by decide +kernel) ?_
                refine op_fnMM [_, _] [] [] rfl rfl rfl (raised_ok s.heats (by omega) (by omega) (fun r hr => by obtain ⟨a1, a2, a3, a4⟩ := SV.b.hb r hr; omega) a (z + 1) (by omega) (by omega) z (by omega) d (by omega) B0 d0 h5 (R2.heats.ext (Ext.trans E4 E5))) ?_
                rintro _ h6 _ E6 ⟨b4, cap4, junk4, rfl, ev⟩
                refine dw_norm [_, _, _] rfl ?_
                have hW : harderW s 1 a z d = raisedN s.heats a (z + 1) d := by unfold harderW weatherM; rw [if_pos rfl]; rw [show ((z : Int) + 1).toNat = z + 1 from by omega, Int.toNat_natCast]
                have hrl := raisedN_len s.heats a (z + 1) d
                obtain ⟨rl, hrle⟩ : ∃ rl, raisedN s.heats a (z + 1) d = rl := ⟨_, rfl⟩
                rw [hrle] at hW hrl ⊢
                rw [← hrl] at ev
                subst ev
                refine dw_pure (i := 8) rfl (by decide +kernel) (pv_assign (v := .slice _ _ _) rfl) ?_
                refine dw_end rfl ?_
                refine xp_seq ?_
                refine xp_seq ?_
                refine xp_region rfl ?_
                refine op_pure (pv_move (v := .slice _ _ _) rfl) ?_
                refine op_pure (pv_len rfl rfl) ?_
                refine op_pure (pv_move (v := .int .i64 _) rfl) ?_
                refine xp_block ?_
                refine xp_loopB [11, 16, 65, 66, 67, 68, 69, 70, 71, 72, 73, 74, 75, 76, 77, 78, 79, 80] 3 (α := Nat) (fun k => [(65, .int .i64 k)]) (fun k => _) (fun k h_k => k ≤ rl.length ∧ (rl.take k).any outR = false) (fun k => rl.length - k) (0) ⟨rfl, trivial⟩ (rfl) (⟨Nat.zero_le _, rfl⟩) ?_
                rintro k T1 h_k E_k J_k
                refine goes_norm [_, _, _] rfl ?_
                obtain ⟨K1, K2⟩ := J_k
                refine xp_seq ?_
                refine xp_region rfl ?_
                refine op_pure (pv_of (v := .bool _) rfl) ?_
                refine xp_seq ?_
                refine xp_cond rfl (fun hk => ?_) (fun hk => ?_)
                · skip
                  have hkl : k < rl.length := ltI hk
                  have hoff : 0 + (k : Int).toNat * 2 = k * 2 := by omega
                  refine xp_skip ?_
                  refine xp_seq ?_
                  refine xp_block ?_
                  refine xp_seq ?_
                  refine xp_region rfl ?_
                  refine op_pure (pv_index rfl rfl rfl rfl (by omega) (by omega)) ?_
                  refine op_loadW (cs := [.int .i64 rl[k].mn, .int .i64 rl[k].mx]) (off := 0 + (k : Int).toNat * 2) rfl rfl rfl rfl (fun V => by rw [hoff]; exact rg_cells (i := 2) rfl V (List.getElem?_eq_getElem hkl)) ?_
                  refine op_alloc (cs := [_, _]) rfl rfl fun b16 hb16 => ?_
                  refine wp_norm [_, _, _, _] rfl ?_
                  refine op_storeP 3 (v := .agg #[.int .i64 _, .int .i64 _]) (vs := [_, _]) (c' := [_, _]) rfl rfl rfl rfl rfl rfl rfl rfl rfl ?_
                  refine wp_norm [_, _, _, _] rfl ?_
                  refine xp_seq ?_
                  refine xp_region rfl ?_
                  refine op_pure (pv_fieldAddr rfl rfl rfl rfl 0 rfl) ?_
                  refine op_loadP 3 (v := .int .i64 _) rfl rfl rfl rfl ?_
                  refine op_fn (caps := []) (vs := [.int .i64 _, .int .i64 _, .int .i64 _]) rfl rfl rfl (in_ok _ _ _ h_k) ?_
                  rintro _ h7 E7 rfl
                  rcases Bool.eq_false_or_eq_true (inM rl[k].mn (-50) 100) with x1 | x1
                  · skip
                    have x1' : (!(decide (-50 ≤ rl[k].mn) && decide (rl[k].mn ≤ 100))) = false := by unfold inM at x1; rw [x1]; rfl
                    refine op_pure (pv_of (v := .bool _) rfl) ?_
                    refine op_pure (pv_move (v := .bool _) rfl) ?_
                    refine guard_yes rfl x1' ?_
                    refine op_pure (pv_fieldAddr rfl rfl rfl rfl 1 rfl) ?_
                    refine guard_yes rfl x1' ?_
                    refine op_loadP 3 (v := .int .i64 _) rfl rfl rfl rfl ?_
                    refine guard_yes rfl x1' ?_
                    refine op_fn (caps := []) (vs := [.int .i64 _, .int .i64 _, .int .i64 _]) rfl rfl rfl (in_ok _ _ _ h7) ?_
                    rintro _ h8 E8 rfl
                    refine guard_yes rfl x1' ?_
                    refine op_pure (pv_of (v := .bool _) rfl) ?_
                    refine op_pure (pv_pickF rfl x1' (v := .bool _) rfl) ?_
                    refine xp_cond rfl (fun x2 => ?_) (fun x2 => ?_)
                    · skip
                      have x2' : inM rl[k].mx (-50) 100 = false := inM_not x2
                      have hany : rl.any outR = true := by rw [List.any_eq_true]; exact ⟨rl[k], List.getElem_mem hkl, by unfold outR; rw [x1, x2']; rfl⟩
                      have hE : harderE s 1 a z d = 1 := by rw [harderE, if_neg (by simp [hc0]), if_neg (by decide), if_neg (by simp [ha]), if_neg (by simp [hz]), if_neg (by omega), if_neg (by simp [hd]), hW, if_pos hany]
                      refine xp_seq ?_
                      refine xp_region rfl ?_
                      refine op_pure (pv_build (zc := [_, _, _, _]) (vs := []) (cs := [_, _, _, _]) rfl rfl rfl rfl rfl rfl) ?_
                      refine op_storeP 1 (v := .agg #[.slice _ _ _, .slice _ _ _, .slice _ _ _, .slice _ _ _]) (vs := [_, _, _, _]) (c' := [_, _, _, _]) rfl rfl rfl rfl rfl rfl rfl rfl rfl ?_
                      refine wp_norm [_, _, _, _] rfl ?_
                      refine op_pure (pv_assign (v := .int .i64 _) rfl) ?_
                      refine xp_ret ?_
                      refine res_list (vs := [_, _]) Tryd.results21 ⟨resV_agg 1 rfl rfl rfl rfl rfl (vs := [.slice _ _ _, .slice _ _ _, .slice _ _ _, .slice _ _ _]) rfl, resV_tmp rfl rfl, trivial⟩ fun V => ?_
                      exact ⟨(Ext.trans (Ext.trans (Ext.trans (Ext.trans (Ext.trans (Ext.trans (Ext.trans (Ext.trans (Ext.trans (Ext.trans (Ext.trans (Ext.trans E1 E2) E3') E4') E5') E3) E4) E5) E6) E_k) E7) E8) (ext_wl V)), _, by rw [hE]; rfl, none, none, none, none, 0, 0, 0, 0, by rw [harderV, hE]; rfl, by rw [harderV, hE]; exact seasonR_none⟩
                    · skip
                      have x2' : inM rl[k].mx (-50) 100 = true := inM_yes x2
                      refine xp_skip ?_
                      refine xp_region rfl ?_
                      refine op_pure (pv_arith rfl (by omega)) ?_
                      refine op_pure (pv_move (v := .int .i64 _) rfl) ?_
                      refine ⟨k + 1, ⟨rfl, trivial⟩, rfl, rfl, (Ext.trans (Ext.trans E_k E7) E8), fun h3 E3 => ⟨hkl, by rw [take_snoc hkl, List.any_append, K2]; simp [outR, x1, x2']⟩, by first | omega | (dsimp only; omega), ?_⟩
                      repeat (first | exact off_base _ _ _ | refine off_upd (by decide) ?_ | refine off_updL rfl ?_ | refine off_mix rfl ?_)
                  · skip
                    have x1' : (!(decide (-50 ≤ rl[k].mn) && decide (rl[k].mn ≤ 100))) = true := by unfold inM at x1; rw [x1]; rfl
                    have hany : rl.any outR = true := by rw [List.any_eq_true]; exact ⟨rl[k], List.getElem_mem hkl, by unfold outR; rw [x1]; rfl⟩
                    have hE : harderE s 1 a z d = 1 := by rw [harderE, if_neg (by simp [hc0]), if_neg (by decide), if_neg (by simp [ha]), if_neg (by simp [hz]), if_neg (by omega), if_neg (by simp [hd]), hW, if_pos hany]
                    refine op_pure (pv_of (v := .bool _) rfl) ?_
                    refine op_pure (pv_move (v := .bool _) rfl) ?_
                    refine guard_no rfl x1' ?_
                    refine guard_no rfl x1' ?_
                    refine guard_no rfl x1' ?_
                    refine guard_no rfl x1' ?_
                    refine op_pure (pv_pickT rfl x1' (v := .bool _) rfl) ?_
                    refine xp_condT rfl (rfl) ?_
                    refine xp_seq ?_
                    refine xp_region rfl ?_
                    refine op_pure (pv_build (zc := [_, _, _, _]) (vs := []) (cs := [_, _, _, _]) rfl rfl rfl rfl rfl rfl) ?_
                    refine op_storeP 1 (v := .agg #[.slice _ _ _, .slice _ _ _, .slice _ _ _, .slice _ _ _]) (vs := [_, _, _, _]) (c' := [_, _, _, _]) rfl rfl rfl rfl rfl rfl rfl rfl rfl ?_
                    refine wp_norm [_, _, _, _] rfl ?_
                    refine op_pure (pv_assign (v := .int .i64 _) rfl) ?_
                    refine xp_ret ?_
                    refine res_list (vs := [_, _]) Tryd.results21 ⟨resV_agg 1 rfl rfl rfl rfl rfl (vs := [.slice _ _ _, .slice _ _ _, .slice _ _ _, .slice _ _ _]) rfl, resV_tmp rfl rfl, trivial⟩ fun V => ?_
                    exact ⟨(Ext.trans (Ext.trans (Ext.trans (Ext.trans (Ext.trans (Ext.trans (Ext.trans (Ext.trans (Ext.trans (Ext.trans (Ext.trans E1 E2) E3') E4') E5') E3) E4) E5) E6) E_k) E7) (ext_wl V)), _, by rw [hE]; rfl, none, none, none, none, 0, 0, 0, 0, by rw [harderV, hE]; rfl, by rw [harderV, hE]; exact seasonR_none⟩
                · skip
                  have hke : k = rl.length := by have := geI hk; omega
                  subst hke
                  rw [List.take_length] at K2
                  have hE : harderE s 1 a z d = 0 := by rw [harderE, if_neg (by simp [hc0]), if_neg (by decide), if_neg (by simp [ha]), if_neg (by simp [hz]), if_neg (by omega), if_neg (by simp [hd]), hW, if_neg (by simp [K2])]
                  refine goes_pub 2 rfl ?_
                  intro h9 E9 p9
                  refine xp_exit ?_
                  refine xp_seq ?_
                  refine xp_dw [] rfl rfl rfl ?_
                  refine dw_pure (i := 0) rfl (by decide +kernel) (pv_move (v := .int .i64 _) rfl) ?_
                  refine dw_load (i := 2) rfl (by decide +kernel) ?_
                  refine op_loadPA 0 (vs := [.slice _ _ _, .slice _ _ _, .slice _ _ _, .slice _ _ _]) rfl rfl rfl rfl rfl ?_
                  refine dw_pure (i := 3) rfl (by decide +kernel) (pv_move (v := .slice _ _ _) rfl) ?_
                  refine dw_eff (i := 1) rfl (by decide +kernel) ?_
                  refine op_fn (caps := []) (vs := [.int .i64 _]) rfl rfl rfl (kindOf_ok _ h9) ?_
                  rintro _ h10 E10 rfl
                  refine ⟨ext_wlm E10 _, ?_⟩
                  refine dw_last (i := 4) rfl (by decide +kernel) (by decide +kernel) ?_
                  refine op_invoke rfl (by kernel_rfl) rfl rfl (waxUnder_ok (bare s) B0 B1 B2 none (some ⟨b4, 0, none⟩) d0 d1 d2 0 _ cap4 h10) ?_
                  rintro _ h11 E11 rfl
                  refine dw_last (i := 5) rfl (by decide +kernel) (by decide +kernel) ?_
                  refine op_storeP 1 (v := .agg #[.slice _ _ _, .slice _ _ _, .slice _ _ _, .slice _ _ _]) (vs := [_, _, _, _]) (c' := [_, _, _, _]) rfl rfl rfl rfl rfl rfl rfl rfl rfl ?_
                  refine dw_norm [_, _, _] rfl ?_
                  refine dw_pure (i := 6) rfl (by decide +kernel) (pv_assign (v := .int .i64 _) rfl) ?_
                  refine dw_end rfl ?_
                  refine xp_ret ?_
                  refine res_list (vs := [_, _]) Tryd.results21 ⟨resV_agg 1 rfl rfl rfl rfl rfl (vs := [.slice _ _ _, .slice _ _ _, .slice _ _ _, .slice _ _ _]) rfl, resV_tmp rfl rfl, trivial⟩ fun V => ?_
                  have hV : harderV s 1 a z d = { s with heats := rl, reports := [] } := by rw [harderV, if_pos hE, harderS, if_pos rfl, hW]
                  exact ⟨(Ext.trans (Ext.trans (Ext.trans (Ext.trans (Ext.trans (Ext.trans (Ext.trans (Ext.trans (Ext.trans (Ext.trans (Ext.trans (Ext.trans (Ext.trans E1 E2) E3') E4') E5') E3) E4) E5) E6) E_k) E9) E10) E11) (ext_wl V)), _, by rw [hE]; rfl, some ⟨b4, 0, none⟩, B1, B2, none, cap4, d1, d2, 0, by rw [hV]; rfl, by rw [hV]; exact ⟨(rg_row p9).ext (Ext.trans (Ext.trans E10 E11) (ext_wl V)), R2.damps.ext (Ext.trans (Ext.trans (Ext.trans (Ext.trans (Ext.trans (Ext.trans (Ext.trans E4 E5) E6) E_k) E9) E10) E11) (ext_wl V)), R2.joints.ext (Ext.trans (Ext.trans (Ext.trans (Ext.trans (Ext.trans (Ext.trans (Ext.trans E4 E5) E6) E_k) E9) E10) E11) (ext_wl V)), ⟨fun _ h => (by cases h), Rd.nil _ _⟩⟩⟩
              · skip
                refine op_storeP 0 (v := .agg #[.slice _ _ _, .slice _ _ _, .slice _ _ _, .slice _ _ _]) (vs := [_, _, _, _]) (c' := [_, _, _, _]) rfl rfl rfl rfl rfl rfl rfl rfl rfl ?_
                refine wp_norm [_, _] rfl ?_
                refine xp_seq ?_
                refine xp_region rfl ?_
                refine op_pure (pv_fieldAddr rfl rfl rfl rfl 3 rfl) ?_
                refine op_storeP 0 (v := .slice _ _ _) (vs := [_]) (c' := [_, _, _, _]) rfl rfl rfl rfl rfl rfl rfl rfl rfl ?_
                refine wp_norm [_, _] rfl ?_
                refine xp_seq ?_
                refine xp_dw [] rfl rfl rfl ?_
                refine dw_pure (i := 0) rfl (by decide +kernel) (pv_move (v := .int .i64 _) rfl) ?_
                refine dw_load (i := 2) rfl (by decide +kernel) ?_
                refine op_loadPA 0 (vs := [.slice _ _ _, .slice _ _ _, .slice _ _ _, .slice _ _ _]) rfl rfl rfl rfl rfl ?_
                refine dw_pure (i := 4) rfl (by decide +kernel) (pv_move (v := .int .i64 _) rfl) ?_
                refine dw_pure (i := 5) rfl (by decide +kernel) (pv_move (v := .int .i64 _) rfl) ?_
                refine dw_pure (i := 6) rfl (by decide +kernel) (pv_move (v := .int .i64 _) rfl) ?_
                refine dw_eff (i := 1) rfl (by decide +kernel) ?_
                refine op_fn (caps := []) (vs := [.int .i64 _]) rfl rfl rfl (kindOf_ok _ h3) ?_
                rintro _ h4 E4 rfl
                refine ⟨ext_wlm E4 _, ?_⟩
                refine dw_last (i := 3) rfl (by decide +kernel) (by decide +kernel) ?_
                refine op_invoke rfl (by kernel_rfl) rfl rfl (leatherWeather_ok (bare s) B0 B1 B2 none d0 d1 d2 0 h4) ?_
                rintro _ h5 E5 rfl
                refine dw_last (i := 7) rfl (by decide +kernel) (by decide +kernel) ?_
                refine op_fnMM [_, _] [] [] rfl rfl rfl (raised_ok s.damps (by omega) (by omega) (fun r hr => by obtain ⟨a1, a2, a3, a4⟩ := SV.b.db r hr; omega) a (z + 1) (by omega) (by omega) z (by omega) d (by omega) B1 d1 h5 (R2.damps.ext (Ext.trans E4 E5))) ?_
                rintro _ h6 _ E6 ⟨b4, cap4, junk4, rfl, ev⟩
                refine dw_norm [_, _, _] rfl ?_
                have hW : harderW s 2 a z d = raisedN s.damps a (z + 1) d := by unfold harderW weatherM; rw [if_neg (by decide)]; rw [show ((z : Int) + 1).toNat = z + 1 from by omega, Int.toNat_natCast]
                have hrl := raisedN_len s.damps a (z + 1) d
                obtain ⟨rl, hrle⟩ : ∃ rl, raisedN s.damps a (z + 1) d = rl := ⟨_, rfl⟩
                rw [hrle] at hW hrl ⊢
                rw [← hrl] at ev
                subst ev
                refine dw_pure (i := 8) rfl (by decide +kernel) (pv_assign (v := .slice _ _ _) rfl) ?_
                refine dw_end rfl ?_
                refine xp_seq ?_
                refine xp_seq ?_
                refine xp_region rfl ?_
                refine op_pure (pv_move (v := .slice _ _ _) rfl) ?_
                refine op_pure (pv_len rfl rfl) ?_
                refine op_pure (pv_move (v := .int .i64 _) rfl) ?_
                refine xp_block ?_
                refine xp_loopB [11, 16, 65, 66, 67, 68, 69, 70, 71, 72, 73, 74, 75, 76, 77, 78, 79, 80] 3 (α := Nat) (fun k => [(65, .int .i64 k)]) (fun k => _) (fun k h_k => k ≤ rl.length ∧ (rl.take k).any outR = false) (fun k => rl.length - k) (0) ⟨rfl, trivial⟩ (rfl) (⟨Nat.zero_le _, rfl⟩) ?_
                rintro k T2 h_k E_k J_k
                refine goes_norm [_, _, _] rfl ?_
                obtain ⟨K1, K2⟩ := J_k
                refine xp_seq ?_
                refine xp_region rfl ?_
                refine op_pure (pv_of (v := .bool _) rfl) ?_
                refine xp_seq ?_
                refine xp_cond rfl (fun hk => ?_) (fun hk => ?_)
                · skip
                  have hkl : k < rl.length := ltI hk
                  have hoff : 0 + (k : Int).toNat * 2 = k * 2 := by omega
                  refine xp_skip ?_
                  refine xp_seq ?_
                  refine xp_block ?_
                  refine xp_seq ?_
                  refine xp_region rfl ?_
                  refine op_pure (pv_index rfl rfl rfl rfl (by omega) (by omega)) ?_
                  refine op_loadW (cs := [.int .i64 rl[k].mn, .int .i64 rl[k].mx]) (off := 0 + (k : Int).toNat * 2) rfl rfl rfl rfl (fun V => by rw [hoff]; exact rg_cells (i := 2) rfl V (List.getElem?_eq_getElem hkl)) ?_
                  refine op_alloc (cs := [_, _]) rfl rfl fun b16_1 hb16_1 => ?_
                  refine wp_norm [_, _, _, _] rfl ?_
                  refine op_storeP 3 (v := .agg #[.int .i64 _, .int .i64 _]) (vs := [_, _]) (c' := [_, _]) rfl rfl rfl rfl rfl rfl rfl rfl rfl ?_
                  refine wp_norm [_, _, _, _] rfl ?_
                  refine xp_seq ?_
                  refine xp_region rfl ?_
                  refine op_pure (pv_fieldAddr rfl rfl rfl rfl 0 rfl) ?_
                  refine op_loadP 3 (v := .int .i64 _) rfl rfl rfl rfl ?_
                  refine op_fn (caps := []) (vs := [.int .i64 _, .int .i64 _, .int .i64 _]) rfl rfl rfl (in_ok _ _ _ h_k) ?_
                  rintro _ h7 E7 rfl
                  rcases Bool.eq_false_or_eq_true (inM rl[k].mn (-50) 100) with x1 | x1
                  · skip
                    have x1' : (!(decide (-50 ≤ rl[k].mn) && decide (rl[k].mn ≤ 100))) = false := by unfold inM at x1; rw [x1]; rfl
                    refine op_pure (pv_of (v := .bool _) rfl) ?_
                    refine op_pure (pv_move (v := .bool _) rfl) ?_
                    refine guard_yes rfl x1' ?_
                    refine op_pure (pv_fieldAddr rfl rfl rfl rfl 1 rfl) ?_
                    refine guard_yes rfl x1' ?_
                    refine op_loadP 3 (v := .int .i64 _) rfl rfl rfl rfl ?_
                    refine guard_yes rfl x1' ?_
                    refine op_fn (caps := []) (vs := [.int .i64 _, .int .i64 _, .int .i64 _]) rfl rfl rfl (in_ok _ _ _ h7) ?_
                    rintro _ h8 E8 rfl
                    refine guard_yes rfl x1' ?_
                    refine op_pure (pv_of (v := .bool _) rfl) ?_
                    refine op_pure (pv_pickF rfl x1' (v := .bool _) rfl) ?_
                    refine xp_cond rfl (fun x2 => ?_) (fun x2 => ?_)
                    · skip
                      have x2' : inM rl[k].mx (-50) 100 = false := inM_not x2
                      have hany : rl.any outR = true := by rw [List.any_eq_true]; exact ⟨rl[k], List.getElem_mem hkl, by unfold outR; rw [x1, x2']; rfl⟩
                      have hE : harderE s 2 a z d = 1 := by rw [harderE, if_neg (by simp [hc0]), if_neg (by decide), if_neg (by simp [ha]), if_neg (by simp [hz]), if_neg (by omega), if_neg (by simp [hd]), hW, if_pos hany]
                      refine xp_seq ?_
                      refine xp_region rfl ?_
                      refine op_pure (pv_build (zc := [_, _, _, _]) (vs := []) (cs := [_, _, _, _]) rfl rfl rfl rfl rfl rfl) ?_
                      refine op_storeP 1 (v := .agg #[.slice _ _ _, .slice _ _ _, .slice _ _ _, .slice _ _ _]) (vs := [_, _, _, _]) (c' := [_, _, _, _]) rfl rfl rfl rfl rfl rfl rfl rfl rfl ?_
                      refine wp_norm [_, _, _, _] rfl ?_
                      refine op_pure (pv_assign (v := .int .i64 _) rfl) ?_
                      refine xp_ret ?_
                      refine res_list (vs := [_, _]) Tryd.results21 ⟨resV_agg 1 rfl rfl rfl rfl rfl (vs := [.slice _ _ _, .slice _ _ _, .slice _ _ _, .slice _ _ _]) rfl, resV_tmp rfl rfl, trivial⟩ fun V => ?_
                      exact ⟨(Ext.trans (Ext.trans (Ext.trans (Ext.trans (Ext.trans (Ext.trans (Ext.trans (Ext.trans (Ext.trans (Ext.trans (Ext.trans (Ext.trans E1 E2) E3') E4') E5') E3) E4) E5) E6) E_k) E7) E8) (ext_wl V)), _, by rw [hE]; rfl, none, none, none, none, 0, 0, 0, 0, by rw [harderV, hE]; rfl, by rw [harderV, hE]; exact seasonR_none⟩
                    · skip
                      have x2' : inM rl[k].mx (-50) 100 = true := inM_yes x2
                      refine xp_skip ?_
                      refine xp_region rfl ?_
                      refine op_pure (pv_arith rfl (by omega)) ?_
                      refine op_pure (pv_move (v := .int .i64 _) rfl) ?_
                      refine ⟨k + 1, ⟨rfl, trivial⟩, rfl, rfl, (Ext.trans (Ext.trans E_k E7) E8), fun h3 E3 => ⟨hkl, by rw [take_snoc hkl, List.any_append, K2]; simp [outR, x1, x2']⟩, by first | omega | (dsimp only; omega), ?_⟩
                      repeat (first | exact off_base _ _ _ | refine off_upd (by decide) ?_ | refine off_updL rfl ?_ | refine off_mix rfl ?_)
                  · skip
                    have x1' : (!(decide (-50 ≤ rl[k].mn) && decide (rl[k].mn ≤ 100))) = true := by unfold inM at x1; rw [x1]; rfl
                    have hany : rl.any outR = true := by rw [List.any_eq_true]; exact ⟨rl[k], List.getElem_mem hkl, by unfold outR; rw [x1]; rfl⟩
                    have hE : harderE s 2 a z d = 1 := by rw [harderE, if_neg (by simp [hc0]), if_neg (by decide), if_neg (by simp [ha]), if_neg (by simp [hz]), if_neg (by omega), if_neg (by simp [hd]), hW, if_pos hany]
                    refine op_pure (pv_of (v := .bool _) rfl) ?_
                    refine op_pure (pv_move (v := .bool _) rfl) ?_
                    refine guard_no rfl x1' ?_
                    refine guard_no rfl x1' ?_
                    refine guard_no rfl x1' ?_
                    refine guard_no rfl x1' ?_
                    refine op_pure (pv_pickT rfl x1' (v := .bool _) rfl) ?_
                    refine xp_condT rfl (rfl) ?_
                    refine xp_seq ?_
                    refine xp_region rfl ?_
                    refine op_pure (pv_build (zc := [_, _, _, _]) (vs := []) (cs := [_, _, _, _]) rfl rfl rfl rfl rfl rfl) ?_
                    refine op_storeP 1 (v := .agg #[.slice _ _ _, .slice _ _ _, .slice _ _ _, .slice _ _ _]) (vs := [_, _, _, _]) (c' := [_, _, _, _]) rfl rfl rfl rfl rfl rfl rfl rfl rfl ?_
                    refine wp_norm [_, _, _, _] rfl ?_
                    refine op_pure (pv_assign (v := .int .i64 _) rfl) ?_
                    refine xp_ret ?_
                    refine res_list (vs := [_, _]) Tryd.results21 ⟨resV_agg 1 rfl rfl rfl rfl rfl (vs := [.slice _ _ _, .slice _ _ _, .slice _ _ _, .slice _ _ _]) rfl, resV_tmp rfl rfl, trivial⟩ fun V => ?_
                    exact ⟨(Ext.trans (Ext.trans (Ext.trans (Ext.trans (Ext.trans (Ext.trans (Ext.trans (Ext.trans (Ext.trans (Ext.trans (Ext.trans E1 E2) E3') E4') E5') E3) E4) E5) E6) E_k) E7) (ext_wl V)), _, by rw [hE]; rfl, none, none, none, none, 0, 0, 0, 0, by rw [harderV, hE]; rfl, by rw [harderV, hE]; exact seasonR_none⟩
                · skip
                  have hke : k = rl.length := by have := geI hk; omega
                  subst hke
                  rw [List.take_length] at K2
                  have hE : harderE s 2 a z d = 0 := by rw [harderE, if_neg (by simp [hc0]), if_neg (by decide), if_neg (by simp [ha]), if_neg (by simp [hz]), if_neg (by omega), if_neg (by simp [hd]), hW, if_neg (by simp [K2])]
                  refine goes_pub 2 rfl ?_
                  intro h9 E9 p9
                  refine xp_exit ?_
                  refine xp_seq ?_
                  refine xp_dw [] rfl rfl rfl ?_
                  refine dw_pure (i := 0) rfl (by decide +kernel) (pv_move (v := .int .i64 _) rfl) ?_
                  refine dw_load (i := 2) rfl (by decide +kernel) ?_
                  refine op_loadPA 0 (vs := [.slice _ _ _, .slice _ _ _, .slice _ _ _, .slice _ _ _]) rfl rfl rfl rfl rfl ?_
                  refine dw_pure (i := 3) rfl (by decide +kernel) (pv_move (v := .slice _ _ _) rfl) ?_
                  refine dw_eff (i := 1) rfl (by decide +kernel) ?_
                  refine op_fn (caps := []) (vs := [.int .i64 _]) rfl rfl rfl (kindOf_ok _ h9) ?_
                  rintro _ h10 E10 rfl
                  refine ⟨ext_wlm E10 _, ?_⟩
                  refine dw_last (i := 4) rfl (by decide +kernel) (by decide +kernel) ?_
                  refine op_invoke rfl (by kernel_rfl) rfl rfl (leatherUnder_ok (bare s) B0 B1 B2 none (some ⟨b4, 0, none⟩) d0 d1 d2 0 _ cap4 h10) ?_
                  rintro _ h11 E11 rfl
                  refine dw_last (i := 5) rfl (by decide +kernel) (by decide +kernel) ?_
                  refine op_storeP 1 (v := .agg #[.slice _ _ _, .slice _ _ _, .slice _ _ _, .slice _ _ _]) (vs := [_, _, _, _]) (c' := [_, _, _, _]) rfl rfl rfl rfl rfl rfl rfl rfl rfl ?_
                  refine dw_norm [_, _, _] rfl ?_
                  refine dw_pure (i := 6) rfl (by decide +kernel) (pv_assign (v := .int .i64 _) rfl) ?_
                  refine dw_end rfl ?_
                  refine xp_ret ?_
                  refine res_list (vs := [_, _]) Tryd.results21 ⟨resV_agg 1 rfl rfl rfl rfl rfl (vs := [.slice _ _ _, .slice _ _ _, .slice _ _ _, .slice _ _ _]) rfl, resV_tmp rfl rfl, trivial⟩ fun V => ?_
                  have hV : harderV s 2 a z d = { s with damps := rl, reports := [] } := by rw [harderV, if_pos hE, harderS, if_neg (by decide), hW]
                  exact ⟨(Ext.trans (Ext.trans (Ext.trans (Ext.trans (Ext.trans (Ext.trans (Ext.trans (Ext.trans (Ext.trans (Ext.trans (Ext.trans (Ext.trans (Ext.trans E1 E2) E3') E4') E5') E3) E4) E5) E6) E_k) E9) E10) E11) (ext_wl V)), _, by rw [hE]; rfl, B0, some ⟨b4, 0, none⟩, B2, none, d0, cap4, d2, 0, by rw [hV]; rfl, by rw [hV]; exact ⟨R2.heats.ext (Ext.trans (Ext.trans (Ext.trans (Ext.trans (Ext.trans (Ext.trans (Ext.trans E4 E5) E6) E_k) E9) E10) E11) (ext_wl V)), (rg_row p9).ext (Ext.trans (Ext.trans E10 E11) (ext_wl V)), R2.joints.ext (Ext.trans (Ext.trans (Ext.trans (Ext.trans (Ext.trans (Ext.trans (Ext.trans E4 E5) E6) E_k) E9) E10) E11) (ext_wl V)), ⟨fun _ h => (by cases h), Rd.nil _ _⟩⟩⟩
end Go.Proofs.YtboigjfgpppeaaaDoor
/- Walks: seasons compared. Conditions: as each theorem states. -/
namespace Go.Proofs.YtboigjfgpppeaaaDoor
open Go Go.HL Go.Proofs Go.Wx
variable [Lvl]
set_option maxRecDepth 100000
theorem rgEqD (d : Nat) (a b : Rg) : pev Tryd.prog (Op.equalIn (d + 2) 29 (.agg #[.int .i64 a.mn, .int .i64 a.mx]) (.agg #[.int .i64 b.mn, .int .i64 b.mx])) = some (decide (a = b)) := by
  have h1 := eq_struct (P := Tryd.prog) (t := 29) (d := d + 1) (fs := [_, _]) (xs := #[.int .i64 a.mn, .int .i64 a.mx]) (ys := #[.int .i64 b.mn, .int .i64 b.mx]) (rs := [a.mn == b.mn, a.mx == b.mx]) rfl (by kernel_rfl) rfl ?_
  · refine h1.trans ?_
    obtain ⟨a1, a2⟩ := a
    obtain ⟨b1, b2⟩ := b
    simp only [List.all_cons, List.all_nil, id, Bool.and_true, Option.some.injEq]
    rw [Bool.eq_iff_iff]
    simp
  · intro i f r hf hr
    match i, hf, hr with
    | 0, hf, hr => cases hf; cases hr; exact ⟨by decide, _, _, rfl, rfl, eq_int rfl _ _⟩
    | 1, hf, hr => cases hf; cases hr; exact ⟨by decide, _, _, rfl, rfl, eq_int rfl _ _⟩
    | i + 2, hf, hr => simp at hf
theorem rgEq (a b : Rg) : pev Tryd.prog (Op.equalIn Op.maxDepth 29 (.agg (rgC a).toArray) (.agg (rgC b).toArray)) = some (decide (a = b)) := rgEqD 9998 a b
/-- Whether two lists are the same up to a place. -/
def sameN {α : Type} [DecidableEq α] (p : Bool) (a b : List α) (k : Nat) : Bool := p && decide (a.take k = b.take k)
theorem sameN_zero {α : Type} [DecidableEq α] (p : Bool) (a b : List α) : sameN p a b 0 = p := by simp [sameN]
theorem sameN_succ {α : Type} [DecidableEq α] {a b : List α} {k : Nat} (ha : k < a.length) (hb : k < b.length) (h : sameN true a b k = true) : sameN true a b (k + 1) = decide (a[k] = b[k]) := by
  unfold sameN at h ⊢
  simp only [Bool.true_and, decide_eq_true_eq] at h
  rw [Bool.true_and, take_snoc ha, take_snoc hb, h, decide_eq_decide]
  constructor
  · intro e
    have := List.append_cancel_left e
    injection this
  · intro e; rw [e]
theorem sameN_all {α : Type} [DecidableEq α] {a b : List α} (hl : a.length = b.length) (p : Bool) : sameN p a b a.length = (p && decide (a = b)) := by
  unfold sameN
  rw [List.take_length, hl, List.take_length]
theorem sameN_no {α : Type} [DecidableEq α] {a b : List α} {k : Nat} {p : Bool} (h : sameN p a b k = false) : (p && decide (a = b)) = false := by
  unfold sameN at h
  cases p with
  | false => rfl
  | true =>
    rw [Bool.true_and, decide_eq_false_iff_not] at h ⊢
    intro e; rw [e] at h; exact h rfl
theorem sameRanges_ok (a b : List Rg) (A B : Option Addr) (ca cb : Nat) (h : AH) (Ra : Row h 2 rgC A a) (Rb : Row h 2 rgC B b) (ha : a.length < 2 ^ 40) :
    FnT Tryd.prog 12 #[.slice A a.length ca, .slice B b.length cb] h (fun v _ => v = .bool (decide (a = b))) := by
  refine call_body Tryd.func12 rfl Tryd.ntmps12 rfl ?_
  refine xp_seq ?_
  refine xp_region rfl ?_
  refine op_pure (pv_assign (v := .bool _) rfl) ?_
  refine xp_seq ?_
  refine xp_region rfl ?_
  refine op_pure (pv_move (v := .slice _ _ _) rfl) ?_
  refine op_pure (pv_len rfl rfl) ?_
  refine op_pure (pv_move (v := .slice _ _ _) rfl) ?_
  refine op_pure (pv_len rfl rfl) ?_
  refine op_pure (pv_of (v := .bool _) rfl) ?_
  refine op_pure (pv_assign (v := .bool _) rfl) ?_
  refine xp_seq ?_
  refine xp_seq ?_
  refine xp_region rfl ?_
  refine op_pure (pv_assign (v := .int .i64 _) rfl) ?_
  refine xp_block ?_
  obtain ⟨p, hp⟩ : ∃ p, decide (a.length = b.length) = p := ⟨_, rfl⟩
  have hp' : Value.bool ((a.length : Int) == (b.length : Int)) = .bool p := by rw [natBeq, hp]
  refine xp_loopB [5, 6, 12, 13, 14, 15, 16, 17, 18, 19, 20, 21, 22, 23, 24, 25, 26, 27, 28, 29] 0 (α := Nat) (fun k => [(5, .bool (sameN p a b k)), (6, .int .i64 k)]) (fun k => _) (fun k h_k => k ≤ a.length) (fun k => a.length - k) (0) ⟨(by rw [sameN_zero]; exact hp'), rfl, trivial⟩ (rfl) (Nat.zero_le _) ?_
  rintro k T1 h_k E_k J_k
  refine goes_norm [] rfl ?_
  obtain ⟨q, hq⟩ : ∃ q, sameN p a b k = q := ⟨_, rfl⟩
  rw [hq]
  cases q with
  | false =>
    refine xp_seq ?_
    refine xp_seq ?_
    refine xp_region rfl ?_
    refine op_pure (pv_move (v := .bool _) rfl) ?_
    refine op_pure (pv_move (v := .bool _) rfl) ?_
    refine guard_no rfl rfl ?_
    refine guard_no rfl rfl ?_
    refine guard_no rfl rfl ?_
    refine guard_no rfl rfl ?_
    refine op_pure (pv_pickF rfl rfl (v := .bool _) rfl) ?_
    refine xp_condF rfl (rfl) ?_
    refine xp_exit ?_
    refine xp_seq ?_
    refine xp_region rfl ?_
    refine op_pure (pv_move (v := .bool _) rfl) ?_
    refine op_pure (pv_assign (v := .bool _) rfl) ?_
    refine xp_ret ?_
    refine res_list (vs := [_]) Tryd.results12 ⟨resV_tmp rfl rfl, trivial⟩ fun V => ?_
    exact ⟨(Ext.trans E_k (ext_wl V)), congrArg Value.bool (by have e := sameN_no hq; rw [← hp] at e; cases hd : decide (a = b) with | false => rfl | true => rw [hd] at e; have := of_decide_eq_true hd; subst this; simp at e)⟩
  | true =>
    have hpt : p = true := by cases p with | true => rfl | false => cases hq
    subst hpt
    have hlen : a.length = b.length := of_decide_eq_true hp
    refine xp_seq ?_
    refine xp_seq ?_
    refine xp_region rfl ?_
    refine op_pure (pv_move (v := .bool _) rfl) ?_
    refine op_pure (pv_move (v := .bool _) rfl) ?_
    refine guard_yes rfl rfl ?_
    refine op_pure (pv_move (v := .int .i64 _) rfl) ?_
    refine guard_yes rfl rfl ?_
    refine op_pure (pv_move (v := .slice _ _ _) rfl) ?_
    refine guard_yes rfl rfl ?_
    refine op_pure (pv_len rfl rfl) ?_
    refine guard_yes rfl rfl ?_
    refine op_pure (pv_of (v := .bool _) rfl) ?_
    refine op_pure (pv_pickT rfl rfl (v := .bool _) rfl) ?_
    refine xp_cond rfl (fun ht => ?_) (fun ht => ?_)
    · skip
      have hlt : k < a.length := ltI ht
      have hlt2 : k < b.length := by omega
      obtain ⟨g, off, hA, hc⟩ := (Ra.ext E_k).at (by omega) hlt
      obtain ⟨g2, off2, hB, hc2⟩ := (Rb.ext E_k).at (by omega) hlt2
      refine xp_skip ?_
      refine xp_seq ?_
      refine xp_block ?_
      refine xp_dw [] rfl rfl rfl ?_
      refine dw_pure (i := 0) rfl (by decide +kernel) (pv_move (v := .slice _ _ _) rfl) ?_
      refine dw_pure (i := 1) rfl (by decide +kernel) (pv_move (v := .int .i64 _) rfl) ?_
      refine dw_pure (i := 2) rfl (by decide +kernel) (pv_indexE rfl hA rfl rfl rfl (by omega) (by omega)) ?_
      refine dw_load (i := 3) rfl (by decide +kernel) ?_
      refine op_loadA rfl rfl rfl rfl (hc) ?_
      refine dw_pure (i := 4) rfl (by decide +kernel) (pv_move (v := .slice _ _ _) rfl) ?_
      refine dw_pure (i := 5) rfl (by decide +kernel) (pv_move (v := .int .i64 _) rfl) ?_
      refine dw_pure (i := 6) rfl (by decide +kernel) (pv_indexE rfl hB rfl rfl rfl (by omega) (by omega)) ?_
      refine dw_load (i := 7) rfl (by decide +kernel) ?_
      refine op_loadA rfl rfl rfl rfl (hc2) ?_
      refine dw_pure (i := 8) rfl (by decide +kernel) (pv_eqA rfl rfl (by kernel_rfl) (rgEq _ _)) ?_
      refine dw_pure (i := 9) rfl (by decide +kernel) (pv_assign (v := .bool _) rfl) ?_
      refine dw_end rfl ?_
      refine xp_region rfl ?_
      refine op_pure (pv_move (v := .int .i64 _) rfl) ?_
      refine op_pure (pv_arith rfl (by omega)) ?_
      refine op_pure (pv_assign (v := .int .i64 _) rfl) ?_
      refine ⟨k + 1, ⟨(by rw [sameN_succ hlt hlt2 hq]; rfl), rfl, trivial⟩, rfl, rfl, E_k, fun h3 E3 => hlt, by first | omega | (dsimp only; omega), ?_⟩
      repeat (first | exact off_base _ _ _ | refine off_upd (by decide) ?_ | refine off_updL rfl ?_ | refine off_mix rfl ?_)
    · skip
      have hke : k = a.length := by have := geI ht; omega
      subst hke
      refine xp_exit ?_
      refine xp_seq ?_
      refine xp_region rfl ?_
      refine op_pure (pv_move (v := .bool _) rfl) ?_
      refine op_pure (pv_assign (v := .bool _) rfl) ?_
      refine xp_ret ?_
      refine res_list (vs := [_]) Tryd.results12 ⟨resV_tmp rfl rfl, trivial⟩ fun V => ?_
      exact ⟨(Ext.trans E_k (ext_wl V)), congrArg Value.bool (by rw [sameN_all hlen] at hq; rw [← hq]; rfl)⟩
structure PreS (a b : Season) (p : Bool) : Prop where
  no : p = false → a ≠ b
  yes : p = true → a.heats = b.heats ∧ a.damps = b.damps ∧ a.joints.length = b.joints.length ∧ a.reports.length = b.reports.length
end Go.Proofs.YtboigjfgpppeaaaDoor
/- Plain: warmer and colder weather. Conditions: as each theorem states. -/
namespace Go.Wx
open Go Go.HL
variable [Lvl]
end Go.Wx
/- Plain: seasons with a report more, and without some. Conditions: as each theorem states. -/
namespace Go.Wx
open Go Go.HL
variable [Lvl]
/-- The reports whose numbers are not in a list. -/
def keepN (l : List Int) : Nat → List Seen → List Seen
  | _, [] => []
  | i, r :: rs => if (i : Int) ∈ l then keepN l (i + 1) rs else r :: keepN l (i + 1) rs
theorem keepN_snoc (l : List Int) (x : Seen) : ∀ (a : List Seen) (i : Nat), keepN l i (a ++ [x]) = keepN l i a ++ if ((i + a.length : Nat) : Int) ∈ l then [] else [x]
  | [], i => by simp [keepN]
  | r :: a, i => by
    rw [List.cons_append, keepN, keepN, keepN_snoc l x a (i + 1), List.length_cons, show i + 1 + a.length = i + (a.length + 1) from by omega]
    split <;> simp
theorem keepN_len (l : List Int) : ∀ (a : List Seen) (i : Nat), (keepN l i a).length ≤ a.length
  | [], i => by simp [keepN]
  | r :: a, i => by
    have := keepN_len l a (i + 1)
    rw [keepN]
    split
    · simp; omega
    · simp; omega
theorem keepN_mem {l : List Int} {r : Seen} : ∀ {a : List Seen} {i : Nat}, r ∈ keepN l i a → r ∈ a
  | [], i, h => by simp [keepN] at h
  | q :: a, i, h => by
    rw [keepN] at h
    split at h
    · exact List.mem_cons_of_mem _ (keepN_mem h)
    · rcases List.mem_cons.1 h with rfl | h
      · exact List.mem_cons_self ..
      · exact List.mem_cons_of_mem _ (keepN_mem h)
def withoutS (s : Season) (l : List Int) : Season := { s with reports := keepN l 0 s.reports }
theorem CheckS.without {s : Season} (c : CheckS s) (l : List Int) : CheckS (withoutS s l) :=
  ⟨c.w1, c.w6, c.dl, c.h, c.d, c.j3, c.j, Nat.le_trans (keepN_len l s.reports 0) c.r5, fun r hr => by
    have := checkSeen_iff.1 (c.r r (keepN_mem hr))
    exact checkSeen_iff.2 this⟩
theorem CheckS.b {s : Season} (c : CheckS s) : SeasonB s := (checkM_zero c.ok).b
def wrongL (s : Season) : List Int := if checkM s = 0 then (fewestP s.reports.length (fun l => mayM (withoutS s l)) (s.reports.length + 1)).getD [] else []
end Go.Wx
/- Walks: a report more; reports that must be wrong. Conditions: as each theorem states. -/
namespace Go.Proofs.YtboigjfgpppeaaaDoor
open Go Go.HL Go.Proofs Go.Wx
variable [Lvl]
set_option maxRecDepth 100000
end Go.Proofs.YtboigjfgpppeaaaDoor
/- Walks: the fewest reports that must be wrong. Conditions: as each theorem states. -/
namespace Go.Proofs.YtboigjfgpppeaaaDoor
open Go Go.HL Go.Proofs Go.Wx
variable [Lvl]
set_option maxRecDepth 100000
theorem index_ok (l : List Int) (z : Int) (A : Option Addr) (c : Nat) (h : AH) (R : Row h 1 intC A l) (hl : l.length < 2 ^ 40) :
    FnT Tryd.prog 62 #[.slice A l.length c, .int .i64 z] h (fun v _ => ∃ i : Int, v = .int .i64 i ∧ decide (i ≥ 0) = decide (z ∈ l)) := by
  refine call_body Tryd.func62 rfl Tryd.ntmps62 rfl ?_
  refine xp_seq ?_
  refine xp_region rfl ?_
  refine op_pure (pv_assign (v := .int .i64 _) rfl) ?_
  refine xp_seq ?_
  refine xp_seq ?_
  refine xp_region rfl ?_
  refine op_pure (pv_move (v := .slice _ _ _) rfl) ?_
  refine op_pure (pv_len rfl rfl) ?_
  refine op_pure (pv_move (v := .int .i64 _) rfl) ?_
  refine xp_block ?_
  refine xp_loopB [4, 5, 8, 9, 10, 11, 12, 13, 14, 15, 16, 17, 18] 0 (α := Nat) (fun k => [(8, .int .i64 k)]) (fun k => _) (fun k h_k => k ≤ l.length ∧ z ∉ l.take k) (fun k => l.length - k) (0) ⟨rfl, trivial⟩ (rfl) (⟨Nat.zero_le _, by simp⟩) ?_
  rintro k T1 h_k E_k J_k
  refine goes_norm [] rfl ?_
  obtain ⟨K1, K2⟩ := J_k
  refine xp_seq ?_
  refine xp_region rfl ?_
  refine op_pure (pv_of (v := .bool _) rfl) ?_
  refine xp_seq ?_
  refine xp_cond rfl (fun hk => ?_) (fun hk => ?_)
  · skip
    have hkl : k < l.length := ltI hk
    obtain ⟨g, off, hA, hc⟩ := (R.ext E_k).at (by omega) hkl
    refine xp_skip ?_
    refine xp_seq ?_
    refine xp_block ?_
    refine xp_seq ?_
    refine xp_region rfl ?_
    refine op_pure (pv_move (v := .int .i64 _) rfl) ?_
    refine op_pure (pv_assign (v := .int .i64 _) rfl) ?_
    refine xp_seq ?_
    refine xp_region rfl ?_
    refine op_pure (pv_move (v := .int .i64 _) rfl) ?_
    refine op_pure (pv_move (v := .slice _ _ _) rfl) ?_
    refine op_pure (pv_move (v := .int .i64 _) rfl) ?_
    refine op_pure (pv_indexE rfl hA rfl rfl rfl (by omega) (by omega)) ?_
    refine op_load (v := .int .i64 _) rfl rfl ((hc) 0 _ rfl) ?_
    refine op_pure (pv_of (v := .bool _) rfl) ?_
    refine xp_cond rfl (fun he => ?_) (fun he => ?_)
    · skip
      have he' : z = l[k] := by simpa using he
      have hz : z ∈ l := by rw [he']; exact List.getElem_mem hkl
      refine xp_seq ?_
      refine xp_region rfl ?_
      refine op_pure (pv_move (v := .int .i64 _) rfl) ?_
      refine op_pure (pv_assign (v := .int .i64 _) rfl) ?_
      refine xp_ret ?_
      refine res_list (vs := [_]) Tryd.results62 ⟨resV_tmp rfl rfl, trivial⟩ fun V => ?_
      exact ⟨(Ext.trans E_k (ext_wl V)), k, rfl, by rw [decide_eq_true hz]; exact decide_eq_true (by omega)⟩
    · skip
      have he' : ¬ z = l[k] := by simpa using he
      refine xp_skip ?_
      refine xp_region rfl ?_
      refine op_pure (pv_arith rfl (by omega)) ?_
      refine op_pure (pv_move (v := .int .i64 _) rfl) ?_
      refine ⟨k + 1, ⟨rfl, trivial⟩, rfl, rfl, E_k, fun h3 E3 => ⟨hkl, by rw [take_snoc hkl, List.mem_append, List.mem_singleton]; exact fun h => h.elim K2 he'⟩, by first | omega | (dsimp only; omega), ?_⟩
      repeat (first | exact off_base _ _ _ | refine off_upd (by decide) ?_ | refine off_updL rfl ?_ | refine off_mix rfl ?_)
  · skip
    have hke : k = l.length := by have := geI hk; omega
    subst hke
    rw [List.take_length] at K2
    refine xp_exit ?_
    refine xp_seq ?_
    refine xp_region rfl ?_
    refine op_pure (pv_assign (v := .int .i64 _) rfl) ?_
    refine xp_ret ?_
    refine res_list (vs := [_]) Tryd.results62 ⟨resV_tmp rfl rfl, trivial⟩ fun V => ?_
    exact ⟨(Ext.trans E_k (ext_wl V)), -1, rfl, by rw [decide_eq_false K2]; rfl⟩
theorem contains_ok (l : List Int) (z : Int) (A : Option Addr) (c : Nat) (h : AH) (R : Row h 1 intC A l) (hl : l.length < 2 ^ 40) :
    FnT Tryd.prog 46 #[.slice A l.length c, .int .i64 z] h (fun v _ => v = .bool (decide (z ∈ l))) := by
  refine call_body Tryd.func46 rfl Tryd.ntmps46 rfl ?_
  refine xp_seq ?_
  refine xp_region rfl ?_
  refine op_pure (pv_assign (v := .bool _) rfl) ?_
  refine xp_seq ?_
  refine xp_region rfl ?_
  refine op_pure (pv_move (v := .slice _ _ _) rfl) ?_
  refine op_pure (pv_move (v := .int .i64 _) rfl) ?_
  refine op_fn (caps := []) (vs := [.slice _ _ _, .int .i64 _]) rfl rfl rfl (index_ok l z A c h R hl) ?_
  rintro _ h1 E1 ⟨i, rfl, hi⟩
  refine op_pure (pv_of (v := .bool _) rfl) ?_
  refine op_pure (pv_assign (v := .bool _) rfl) ?_
  refine xp_ret ?_
  refine res_list (vs := [_]) Tryd.results46 ⟨resV_tmp rfl rfl, trivial⟩ fun V => ?_
  exact ⟨(Ext.trans E1 (ext_wl V)), congrArg Value.bool hi⟩
set_option maxHeartbeats 1000000 in
theorem wrong1_will (s : Season) (C : CheckS s) (A0 A1 A2 A3 : Option Addr) (c0 c1 c2 c3 : Nat) (b1 : Nat) (h : AH) (R : SeasonR h A0 A1 A2 A3 s)
    (e1 : h b1 = some (.cells #[.slice A0 s.heats.length c0, .slice A1 s.damps.length c1, .slice A2 s.joints.length c2, .slice A3 s.reports.length c3] 26 (0, 0))) :
    Will (.func (.func 45) #[] #[.pointer (some ⟨b1, 0, none⟩)]) h (fun l => mayM (withoutS s l)) := by
  intro h' E _ l B c RB hl
  have r5 := C.r5
  refine callV_fn (caps := [.pointer (some ⟨b1, 0, none⟩)]) rfl ?_
  refine call_body Tryd.func45 rfl Tryd.ntmps45 rfl ?_
  refine goes_more ?_
  refine goes_norm [_] rfl ?_
  refine xp_seq ?_
  refine xp_region rfl ?_
  refine op_pure (pv_assign (v := .bool _) rfl) ?_
  refine xp_seq ?_
  refine xp_region rfl ?_
  refine op_loadA (cs := [.slice _ _ _, .slice _ _ _, .slice _ _ _, .slice _ _ _]) rfl rfl rfl rfl (cells_blk (E _ _ e1)) ?_
  refine op_alloc (cs := [_, _, _, _]) rfl rfl fun b4 hb4 => ?_
  refine wp_norm [_, _] rfl ?_
  refine op_storeP 1 (v := .agg #[.slice _ _ _, .slice _ _ _, .slice _ _ _, .slice _ _ _]) (vs := [_, _, _, _]) (c' := [_, _, _, _]) rfl rfl rfl rfl rfl rfl rfl rfl rfl ?_
  refine wp_norm [_, _] rfl ?_
  refine xp_seq ?_
  refine xp_region rfl ?_
  refine op_pure (pv_fieldAddr rfl rfl rfl rfl 3 rfl) ?_
  refine op_storeP 1 (v := .slice _ _ _) (vs := [_]) (c' := [_, _, _, _]) rfl rfl rfl rfl rfl rfl rfl rfl rfl ?_
  refine wp_norm [_, _] rfl ?_
  refine xp_seq ?_
  refine xp_seq ?_
  refine xp_region rfl ?_
  refine op_pure (pv_fieldAddr rfl rfl rfl rfl _ rfl) ?_
  refine op_load (v := .slice _ _ _) rfl rfl (by simp only [cellA, E _ _ e1]; rfl) ?_
  refine op_pure (pv_len rfl rfl) ?_
  refine op_pure (pv_move (v := .int .i64 _) rfl) ?_
  refine xp_block ?_
  refine xp_loopL [5, 6, 14, 15, 16, 17, 18, 19, 20, 21, 22, 23, 24, 25, 26, 27, 28, 29] 2 (α := Nat × Acc) (fun ⟨k, a⟩ => [(14, .int .i64 k)]) (fun ⟨k, a⟩ L => (L.set 1 (some (b4, .cells #[.slice A0 s.heats.length c0, .slice A1 s.damps.length c1, .slice A2 s.joints.length c2, .slice a.A a.n a.c] 26 (0, 0)))).set 0 (a.p)) (fun ⟨k, a⟩ h_k => k ≤ s.reports.length ∧ AccR 50 3 ((keepN l 0 (s.reports.take k)).flatMap seenC) a) (fun ⟨k, a⟩ => s.reports.length - k) ((0, acc0)) ⟨rfl, trivial⟩ (rfl) (⟨Nat.zero_le _, accR0⟩) ?_
  rintro ⟨k, a⟩ T1 h_k E_k J_k
  refine goes_norm [_, _] rfl ?_
  obtain ⟨K1, K2⟩ := J_k
  refine xp_seq ?_
  refine xp_region rfl ?_
  refine op_pure (pv_of (v := .bool _) rfl) ?_
  refine xp_seq ?_
  refine xp_cond rfl (fun hk => ?_) (fun hk => ?_)
  · skip
    have hkl : k < s.reports.length := ltI hk
    obtain ⟨g, off, hA, hcs⟩ := (R.reports.ext (Ext.trans E E_k)).at (by omega) hkl
    have hsn : keepN l 0 (s.reports.take (k + 1)) = keepN l 0 (s.reports.take k) ++ if ((k : Nat) : Int) ∈ l then [] else [s.reports[k]] := by
      rw [take_snoc hkl, keepN_snoc, List.length_take, Nat.min_eq_left (by omega), Nat.zero_add]
    refine xp_skip ?_
    refine xp_seq ?_
    refine xp_block ?_
    refine xp_seq ?_
    refine xp_region rfl ?_
    refine op_pure (pv_move (v := .int .i64 _) rfl) ?_
    refine op_pure (pv_indexE rfl hA rfl rfl rfl (by omega) (by omega)) ?_
    refine op_loadA rfl rfl rfl rfl (hcs) ?_
    refine op_alloc (cs := [_, _, _]) rfl rfl fun b6 hb6 => ?_
    refine wp_norm [_, _, _] rfl ?_
    refine op_pure (pv_assign (v := .int .i64 _) rfl) ?_
    refine op_storeP 2 (v := .agg #[.int .i64 _, .int .i64 _, .bool _]) (vs := [_, _, _]) (c' := [_, _, _]) rfl rfl rfl rfl rfl rfl rfl rfl rfl ?_
    refine wp_norm [_, _, _] rfl ?_
    refine xp_seq ?_
    refine xp_region rfl ?_
    refine op_pure (pv_move (v := .slice _ _ _) rfl) ?_
    refine op_pure (pv_move (v := .int .i64 _) rfl) ?_
    refine op_fn (caps := []) (vs := [.slice _ _ _, .int .i64 _]) rfl rfl rfl (contains_ok l k B c h_k (RB.ext E_k) (by omega)) ?_
    rintro _ h3 E3 rfl
    refine op_pure (pv_of (v := .bool _) rfl) ?_
    refine xp_cond rfl (fun hin => ?_) (fun hin => ?_)
    · skip
      have hin' : ¬ ((k : Nat) : Int) ∈ l := by simpa using hin
      refine xp_region rfl ?_
      refine op_pure (pv_fieldAddr rfl rfl rfl rfl 3 rfl) ?_
      refine op_loadP 1 (v := .slice _ _ _) rfl rfl rfl rfl ?_
      refine op_loadPA 2 (vs := [.int .i64 _, .int .i64 _, .bool _]) rfl rfl rfl rfl rfl ?_
      refine op_buildSlice (zc := [_, _, _]) (vs := [(0, .agg #[.int .i64 _, .int .i64 _, .bool _])]) (cs := [_, _, _]) rfl rfl rfl rfl rfl rfl rfl fun b26 hb26 => ?_
      refine wp_norm [_, _, _, _] rfl ?_
      refine op_appendR 0 K2 rfl rfl rfl (fun V => rdP V (i := 3) rfl) rfl rfl rfl rfl rfl rfl rfl rfl rfl (by omega) rfl (by rw [flat_len (m := 3) (fun _ _ => rfl)]; have := keepN_len l (s.reports.take k) 0; simp at this ⊢; omega) fun a2 h2a E2a ha2 => ?_
      refine wp_norm [_, _, _, _] rfl ?_
      refine op_pure (pv_fieldAddr rfl rfl rfl rfl 3 rfl) ?_
      refine op_storeP 1 (v := .slice _ _ _) (vs := [_]) (c' := [_, _, _, _]) rfl rfl rfl rfl rfl rfl rfl rfl rfl ?_
      refine wp_norm [_, _, _, _] rfl ?_
      refine xp_region rfl ?_
      refine op_pure (pv_arith rfl (by omega)) ?_
      refine op_pure (pv_move (v := .int .i64 _) rfl) ?_
      refine ⟨(k + 1, a2), ⟨rfl, trivial⟩, rfl, rfl, (Ext.trans (Ext.trans E_k E3) E2a), fun h3 E3 => ⟨hkl, by rw [hsn, if_neg hin', List.flatMap_append]; exact ha2⟩, by first | omega | (dsimp only; omega), ?_⟩
      repeat (first | exact off_base _ _ _ | refine off_upd (by decide) ?_ | refine off_updL rfl ?_ | refine off_mix rfl ?_)
    · skip
      have hin' : ((k : Nat) : Int) ∈ l := by simpa using hin
      refine xp_skip ?_
      refine xp_region rfl ?_
      refine op_pure (pv_arith rfl (by omega)) ?_
      refine op_pure (pv_move (v := .int .i64 _) rfl) ?_
      refine ⟨(k + 1, a), ⟨rfl, trivial⟩, rfl, rfl, (Ext.trans E_k E3), fun h3 E3 => ⟨hkl, by rw [hsn, if_pos hin', List.append_nil]; exact K2⟩, by first | omega | (dsimp only; omega), ?_⟩
      repeat (first | exact off_base _ _ _ | refine off_upd (by decide) ?_ | refine off_updL rfl ?_ | refine off_mix rfl ?_)
  · skip
    have hke : k = s.reports.length := by have := geI hk; omega
    subst hke
    rw [List.take_length] at K2
    obtain ⟨p7, A7, n7, c7⟩ := a
    obtain rfl : n7 = (withoutS s l).reports.length := by have := AccR.len K2; rw [flat_len (m := 3) (fun _ _ => rfl)] at this; simp [withoutS] at this ⊢; omega
    dsimp only
    refine goes_pubO 0 rfl ?_
    intro g7 G7 P7
    refine goes_norm [_, _] rfl ?_
    have CW := C.without l
    have RW : SeasonR g7 A0 A1 A2 A7 (withoutS s l) := ⟨R.heats.ext (Ext.trans E (Ext.trans E_k G7)), R.damps.ext (Ext.trans E (Ext.trans E_k G7)), R.joints.ext (Ext.trans E (Ext.trans E_k G7)), ⟨fun _ _ => rfl, AccR.rd K2 P7⟩⟩
    refine xp_exit ?_
    refine xp_seq ?_
    refine xp_region rfl ?_
    refine op_loadPA 1 (vs := [.slice _ _ _, .slice _ _ _, .slice _ _ _, .slice _ _ _]) rfl rfl rfl rfl rfl ?_
    refine op_fn (caps := []) (vs := [.agg #[.slice _ _ _, .slice _ _ _, .slice _ _ _, .slice _ _ _]]) rfl rfl rfl (bothOf_ok (withoutS s l) CW.b A0 A1 A2 A7 c0 c1 c2 c7 g7 RW) ?_
    rintro _ h8 E8 ⟨_, rfl, A, c, mf, fm, fl, A', c', mf', fm', fl', rfl, X, X'⟩
    refine op_pure (pv_move (v := .tuple #[.agg #[.slice _ _ _, .map _, .map _, .map _, .map _, .slice _ _ _, .map _, .map _, .map _, .map _], .bool _]) rfl) ?_
    refine op_pure (pv_of (v := .agg #[.slice _ _ _, .map _, .map _, .map _, .map _, .slice _ _ _, .map _, .map _, .map _, .map _]) rfl) ?_
    refine op_pure (pv_of (v := .bool _) rfl) ?_
    refine op_alloc (cs := [_, _, _, _, _, _, _, _, _, _]) rfl rfl fun b7 hb7 => ?_
    refine wp_norm [_, _, _] rfl ?_
    refine op_storeP 2 (v := .agg #[.slice _ _ _, .map _, .map _, .map _, .map _, .slice _ _ _, .map _, .map _, .map _, .map _]) (vs := [_, _, _, _, _, _, _, _, _, _]) (c' := [_, _, _, _, _, _, _, _, _, _]) rfl rfl rfl rfl rfl rfl rfl rfl rfl ?_
    refine wp_norm [_, _, _] rfl ?_
    refine op_pure (pv_assign (v := .bool _) rfl) ?_
    refine xp_seq ?_
    refine xp_region rfl ?_
    refine op_pure (pv_move (v := .bool _) rfl) ?_
    refine op_pure (pv_assign (v := .bool _) rfl) ?_
    refine xp_ret ?_
    refine res_list (vs := [_]) Tryd.results45 ⟨resV_tmp rfl rfl, trivial⟩ fun V => ?_
    exact ⟨(Ext.trans (Ext.trans (Ext.trans E_k G7) E8) (ext_wl V)), rfl⟩
set_option maxHeartbeats 1000000 in
theorem Wrong_ok (s : Season) (Sm : Small s) (A0 A1 A2 A3 : Option Addr) (c0 c1 c2 c3 : Nat) (h : AH) (R : SeasonR h A0 A1 A2 A3 s) :
    FnT Tryd.prog 19 #[seasonV A0 A1 A2 A3 c0 c1 c2 c3 s] h (fun v h' => ∃ u, v = .tuple #[u, .int .i64 (checkM s)] ∧ SlR h' 1 intC (wrongL s) u) := by
  refine call_body Tryd.func19 rfl Tryd.ntmps19 rfl ?_
  refine xp_seq ?_
  refine xp_region rfl ?_
  refine op_box (v := .agg #[.slice _ _ _, .slice _ _ _, .slice _ _ _, .slice _ _ _]) (cs := [_, _, _, _]) rfl rfl fun b1 hb1 => ?_
  refine wp_norm [_] rfl ?_
  refine op_pure (pv_assign (v := .slice _ _ _) rfl) ?_
  refine op_pure (pv_assign (v := .int .i64 _) rfl) ?_
  refine goes_pub 0 rfl ?_
  intro h1 E1 p1
  refine xp_seq ?_
  refine xp_seq ?_
  refine xp_region rfl ?_
  refine op_loadA (cs := [.slice _ _ _, .slice _ _ _, .slice _ _ _, .slice _ _ _]) rfl rfl rfl rfl (cells_blk p1) ?_
  refine op_fn (caps := []) (vs := [.agg #[.slice _ _ _, .slice _ _ _, .slice _ _ _, .slice _ _ _]]) rfl rfl rfl (check_ok s A0 A1 A2 A3 c0 c1 c2 c3 h1 (R.ext E1) Sm.h0 Sm.h1 Sm.h2 Sm.h3) ?_
  rintro _ h2 E2 rfl
  refine op_pure (pv_assign (v := .int .i64 _) rfl) ?_
  refine xp_seq ?_
  refine xp_region rfl ?_
  refine op_pure (pv_move (v := .int .i64 _) rfl) ?_
  refine op_pure (pv_of (v := .bool _) rfl) ?_
  refine xp_cond rfl (fun hc => ?_) (fun hc => ?_)
  · skip
    have hc0 : checkM s ≠ 0 := by simpa using hc
    refine xp_seq ?_
    refine xp_region rfl ?_
    refine op_pure (pv_move (v := .int .i64 _) rfl) ?_
    refine op_pure (pv_assign (v := .slice _ _ _) rfl) ?_
    refine op_pure (pv_assign (v := .int .i64 _) rfl) ?_
    refine xp_ret ?_
    refine res_list (vs := [_, _]) Tryd.results19 ⟨resV_tmp rfl rfl, resV_tmp rfl rfl, trivial⟩ fun V => ?_
    refine ⟨(Ext.trans (Ext.trans E1 E2) (ext_wl V)), _, rfl, none, 0, ?_, ?_⟩
    · rw [wrongL, if_neg hc0]; rfl
    · rw [wrongL, if_neg hc0]; exact ⟨fun _ h => (by cases h), Rd.nil _ _⟩
  · skip
    have hc0 : checkM s = 0 := by simpa using hc
    have C := CheckS.of hc0
    have r5 := C.r5
    refine xp_skip ?_
    refine xp_seq ?_
    refine xp_region rfl ?_
    refine op_pure (pv_fieldAddr rfl rfl rfl rfl _ rfl) ?_
    refine op_load (v := .slice _ _ _) rfl rfl (by simp only [cellA, E2 _ _ p1]; rfl) ?_
    refine op_pure (pv_len rfl rfl) ?_
    refine op_pure (pv_makeFunc (vs := []) (ws := [_]) rfl rfl) ?_
    refine op_fn (caps := []) (vs := [.int .i64 _, _]) rfl rfl rfl (fewest_ok s.reports.length (by omega) _ _ _ _ h2 (wrong1_will s C A0 A1 A2 A3 c0 c1 c2 c3 b1 _ (R.ext (Ext.trans E1 E2)) (E2 _ _ p1))) ?_
    rintro _ h7 E7 ⟨u, rfl, B, cB, rfl, RB⟩
    refine op_pure (pv_move (v := .tuple #[.slice _ _ _, .bool _]) rfl) ?_
    refine op_pure (pv_of (v := .slice _ _ _) rfl) ?_
    refine op_pure (pv_of (v := .bool _) rfl) ?_
    refine op_pure (pv_assign (v := .slice _ _ _) rfl) ?_
    refine op_pure (pv_assign (v := .bool _) rfl) ?_
    refine xp_seq ?_
    refine xp_region rfl ?_
    refine op_pure (pv_move (v := .slice _ _ _) rfl) ?_
    refine op_pure (pv_assign (v := .slice _ _ _) rfl) ?_
    refine op_pure (pv_assign (v := .int .i64 _) rfl) ?_
    refine xp_ret ?_
    refine res_list (vs := [_, _]) Tryd.results19 ⟨resV_tmp rfl rfl, resV_tmp rfl rfl, trivial⟩ fun V => ?_
    refine ⟨(Ext.trans (Ext.trans (Ext.trans E1 E2) E7) (ext_wl V)), _, by rw [hc0]; rfl, B, cB, ?_, ?_⟩
    · rw [wrongL, if_pos hc0]; rfl
    · rw [wrongL, if_pos hc0]; exact RB.ext (ext_wl V)
end Go.Proofs.YtboigjfgpppeaaaDoor
/- Plain: the least and the greatest weather; how many joints are sound. Conditions: as each theorem states. -/
namespace Go.Wx
open Go Go.HL
variable [Lvl]
/-- The least weather of a week among the first k, and the greatest. -/
def loK (l : List Sky) (w k : Nat) : Int := (l.take k).foldl (fun m x => min m (x.at w)) ((l.headD sky0).at w)
def hiK (l : List Sky) (w k : Nat) : Int := (l.take k).foldl (fun m x => max m (x.at w)) ((l.headD sky0).at w)
theorem loK_succ {l : List Sky} {w k : Nat} (h : k < l.length) : loK l w (k + 1) = min (loK l w k) (l[k].at w) := by
  unfold loK; rw [take_snoc h, List.foldl_append]; rfl
theorem hiK_succ {l : List Sky} {w k : Nat} (h : k < l.length) : hiK l w (k + 1) = max (hiK l w k) (l[k].at w) := by
  unfold hiK; rw [take_snoc h, List.foldl_append]; rfl
def weekR (l : List Sky) (w : Nat) : Rg := ⟨loK l w l.length, hiK l w l.length⟩
def kindE (k : Int) : Int := if inM k 1 2 then 0 else 8
def weatherE (s : Season) (k : Int) : Int := knownM s [kindE k]
def weatherL (s : Season) (k : Int) : List Rg := if weatherE s k = 0 then (List.range s.heats.length).map (weekR (skM s k)) else []
theorem kindE_zero {k : Int} (h : kindE k = 0) : k = 1 ∨ k = 2 := by
  unfold kindE at h
  split at h
  · rename_i hk; unfold inM at hk; simp at hk; omega
  · cases h
theorem may_pos {s : Season} (h : mayM s = true) {k : Int} (hk : k = 1 ∨ k = 2) : 0 < (skM s k).length := by
  unfold mayM at h
  rw [Bool.and_eq_true, decide_eq_true_eq, decide_eq_true_eq] at h
  rcases hk with rfl | rfl
  · exact h.1
  · exact h.2
/-- How many joints have surely failed, and how many may be sound, as the first n say. -/
def mustN (f : Fate) (w : Nat) : Nat → Nat
  | 0 => 0
  | i + 1 => mustN f w i + if uptoM (f.at i) w = 0 then 1 else 0
def canN (f : Fate) (w : Nat) : Nat → Nat
  | 0 => 0
  | i + 1 => canN f w i + if f.at i ≠ uptoM (f.at i) w then 1 else 0
def soundLo (s : Season) (w : Nat) (l : List Fate) : Nat := l.foldl (fun m f => min m (mustN f w s.joints.length)) s.joints.length
def soundHi (s : Season) (w : Nat) (l : List Fate) : Nat := l.foldl (fun m f => max m (canN f w s.joints.length)) 0
theorem foldl_min {α : Type} (g : α → Nat) : ∀ (l : List α) (m z : Nat), z ≤ l.foldl (fun m f => min m (g f)) m ↔ z ≤ m ∧ ∀ f ∈ l, z ≤ g f
  | [], m, z => by simp
  | f :: l, m, z => by
    rw [List.foldl_cons, foldl_min g l]
    simp only [List.mem_cons, forall_eq_or_imp]
    constructor
    · rintro ⟨h1, h2⟩; exact ⟨by omega, by omega, h2⟩
    · rintro ⟨h1, h2, h3⟩; exact ⟨by omega, h3⟩
theorem foldl_max {α : Type} (g : α → Nat) : ∀ (l : List α) (m z : Nat), l.foldl (fun m f => max m (g f)) m ≤ z ↔ m ≤ z ∧ ∀ f ∈ l, g f ≤ z
  | [], m, z => by simp
  | f :: l, m, z => by
    rw [List.foldl_cons, foldl_max g l]
    simp only [List.mem_cons, forall_eq_or_imp]
    constructor
    · rintro ⟨h1, h2⟩; exact ⟨by omega, by omega, h2⟩
    · rintro ⟨h1, h2, h3⟩; exact ⟨by omega, h3⟩
/-- The order of the fates does not matter. -/
theorem soundLo_same {s : Season} {w : Nat} {l l' : List Fate} (h : ∀ f, f ∈ l ↔ f ∈ l') : soundLo s w l = soundLo s w l' := by
  refine Nat.le_antisymm ?_ ?_
  · exact (foldl_min _ _ _ _).2 (by have := (foldl_min (fun f => mustN f w s.joints.length) l s.joints.length (soundLo s w l)).1 (Nat.le_refl _); exact ⟨this.1, fun f hf => this.2 f ((h f).2 hf)⟩)
  · exact (foldl_min _ _ _ _).2 (by have := (foldl_min (fun f => mustN f w s.joints.length) l' s.joints.length (soundLo s w l')).1 (Nat.le_refl _); exact ⟨this.1, fun f hf => this.2 f ((h f).1 hf)⟩)
theorem soundHi_same {s : Season} {w : Nat} {l l' : List Fate} (h : ∀ f, f ∈ l ↔ f ∈ l') : soundHi s w l = soundHi s w l' := by
  refine Nat.le_antisymm ?_ ?_
  · exact (foldl_max _ _ _ _).2 (by have := (foldl_max (fun f => canN f w s.joints.length) l' 0 (soundHi s w l')).1 (Nat.le_refl _); exact ⟨this.1, fun f hf => this.2 f ((h f).1 hf)⟩)
  · exact (foldl_max _ _ _ _).2 (by have := (foldl_max (fun f => canN f w s.joints.length) l 0 (soundHi s w l)).1 (Nat.le_refl _); exact ⟨this.1, fun f hf => this.2 f ((h f).2 hf)⟩)
def soundE (s : Season) (w : Int) : Int := knownM s [isWeekM s w]
def soundV (s : Season) (w : Int) : Rg := if soundE s w = 0 then ⟨soundLo s w.toNat (allFates s), soundHi s w.toNat (allFates s)⟩ else ⟨0, 0⟩
theorem mustN_le (f : Fate) (w : Nat) : ∀ n, mustN f w n ≤ n
  | 0 => Nat.le_refl _
  | n + 1 => by have := mustN_le f w n; rw [mustN]; split <;> omega
theorem canN_le (f : Fate) (w : Nat) : ∀ n, canN f w n ≤ n
  | 0 => Nat.le_refl _
  | n + 1 => by have := canN_le f w n; rw [canN]; split <;> omega
end Go.Wx
/- Walks: the weather that there can be. Conditions: as each theorem states. -/
namespace Go.Proofs.YtboigjfgpppeaaaDoor
open Go Go.HL Go.Proofs Go.Wx
variable [Lvl]
set_option maxRecDepth 100000
theorem weather1_ask (w : Int) (b1 : Nat) (h : AH) (e1 : h b1 = some (.cells #[.int .i64 w] 3 (0, 0))) :
    AskT (.func (.func 31) #[] #[.pointer (some ⟨b1, 0, none⟩)]) h (kindE w) := by
  intro h' E _
  refine callV_fn (caps := [.pointer (some ⟨b1, 0, none⟩)]) rfl ?_
  refine call_body Tryd.func31 rfl Tryd.ntmps31 rfl ?_
  refine xp_seq ?_
  refine xp_region rfl ?_
  refine op_pure (pv_assign (v := .int .i64 _) rfl) ?_
  refine xp_seq ?_
  refine xp_seq ?_
  refine xp_region rfl ?_
  refine op_load (v := .int .i64 _) rfl rfl (by simp only [cellA, E _ _ e1]; rfl) ?_
  refine op_fn (caps := []) (vs := [.int .i64 _, .int .i64 _, .int .i64 _]) rfl rfl rfl (in_ok _ _ _ h') ?_
  rintro _ h3 E3 rfl
  refine op_pure (pv_of (v := .bool _) rfl) ?_
  refine xp_cond rfl (fun ht => ?_) (fun ht => ?_)
  · skip
    have hb := inM_not ht
    refine xp_seq ?_
    refine xp_region rfl ?_
    refine op_pure (pv_assign (v := .int .i64 _) rfl) ?_
    refine xp_ret ?_
    refine res_list (vs := [_]) Tryd.results31 ⟨resV_tmp rfl rfl, trivial⟩ fun V => ?_
    refine ⟨(Ext.trans E3 (ext_wl V)), intE ?_⟩
    unfold kindE
    rw [hb]; rfl
  · skip
    have hb := inM_yes ht
    refine xp_skip ?_
    refine xp_seq ?_
    refine xp_region rfl ?_
    refine op_pure (pv_assign (v := .int .i64 _) rfl) ?_
    refine xp_ret ?_
    refine res_list (vs := [_]) Tryd.results31 ⟨resV_tmp rfl rfl, trivial⟩ fun V => ?_
    refine ⟨(Ext.trans E3 (ext_wl V)), intE ?_⟩
    unfold kindE
    rw [hb]; rfl
set_option maxHeartbeats 4000000 in
theorem Weather_ok (s : Season) (Sm : Small s) (kd : Int) (A0 A1 A2 A3 : Option Addr) (c0 c1 c2 c3 : Nat) (h : AH) (R : SeasonR h A0 A1 A2 A3 s) :
    FnT Tryd.prog 10 #[seasonV A0 A1 A2 A3 c0 c1 c2 c3 s, .int .i64 kd] h (fun v h' => ∃ u, v = .tuple #[u, .int .i64 (weatherE s kd)] ∧ SlR h' 2 rgC (weatherL s kd) u) := by
  by_cases he : weatherE s kd = 0
  · have hk := knownM_zero he
    have SV := checkM_zero hk.1
    have hw6 := SV.b.w6
    have hkd : kd = 1 ∨ kd = 2 := kindE_zero (firstErr_zero (f := id) hk.2.1 (kindE kd) (by simp))
    have hpos := may_pos hk.2.2 hkd
    have hsk : (skM s kd).length ≤ 729 := skK_len SV.b kd (allSkies s kd).length
    refine call_body Tryd.func10 rfl Tryd.ntmps10 rfl ?_
    refine xp_seq ?_
    refine xp_region rfl ?_
    refine op_box (v := .agg #[.slice _ _ _, .slice _ _ _, .slice _ _ _, .slice _ _ _]) (cs := [_, _, _, _]) rfl rfl fun b2 hb2 => ?_
    refine wp_norm [_] rfl ?_
    refine op_box (v := .int .i64 _) (cs := [_]) rfl rfl fun b3 hb3 => ?_
    refine wp_norm [_, _] rfl ?_
    refine op_pure (pv_assign (v := .slice _ _ _) rfl) ?_
    refine op_pure (pv_assign (v := .int .i64 _) rfl) ?_
    refine goes_pub 1 rfl ?_
    intro h1 E1 p1
    refine goes_more ?_
    refine goes_norm [_, _, _] rfl ?_
    refine xp_seq ?_
    refine xp_region rfl ?_
    refine op_loadPA 0 (vs := [.slice _ _ _, .slice _ _ _, .slice _ _ _, .slice _ _ _]) rfl rfl rfl rfl rfl ?_
    refine op_pure (pv_makeFunc (vs := []) (ws := [_]) rfl rfl) ?_
    refine op_buildSlice (zc := [_]) (vs := [(0, _)]) (cs := [_]) rfl rfl rfl rfl rfl rfl rfl fun b17 hb17 => ?_
    refine wp_norm [_, _, _, _] rfl ?_
    refine wp_pub 3 rfl rfl ?_
    intro h2 E2 p17
    refine wp_norm [_, _, _, _] rfl ?_
    refine op_fn (caps := []) (vs := [.agg #[.slice _ _ _, .slice _ _ _, .slice _ _ _, .slice _ _ _], .slice _ _ _]) rfl rfl rfl (known_yes s A0 A1 A2 A3 c0 c1 c2 c3 h2 (R.ext (Ext.trans E1 E2)) Sm.h0 Sm.h1 Sm.h2 Sm.h3 [_] [_] _ _ (rowFn p17) rfl (by simp) (ask1 ((weather1_ask kd b3 _ p1).ext E2)) he) ?_
    rintro _ h3 E3 ⟨A, c, mf, fm, fl, A', c', mf', fm', fl', rfl, X, X'⟩
    refine op_pure (pv_move (v := .tuple #[.agg #[.slice _ _ _, .map _, .map _, .map _, .map _, .slice _ _ _, .map _, .map _, .map _, .map _], .int .i64 _]) rfl) ?_
    refine op_pure (pv_of (v := .agg #[.slice _ _ _, .map _, .map _, .map _, .map _, .slice _ _ _, .map _, .map _, .map _, .map _]) rfl) ?_
    refine op_pure (pv_of (v := .int .i64 _) rfl) ?_
    refine op_alloc (cs := [_, _, _, _, _, _, _, _, _, _]) rfl rfl fun b6 hb6 => ?_
    refine wp_norm [_, _, _, _, _] rfl ?_
    refine op_storeP 4 (v := .agg #[.slice _ _ _, .map _, .map _, .map _, .map _, .slice _ _ _, .map _, .map _, .map _, .map _]) (vs := [_, _, _, _, _, _, _, _, _, _]) (c' := [_, _, _, _, _, _, _, _, _, _]) rfl rfl rfl rfl rfl rfl rfl rfl rfl ?_
    refine wp_norm [_, _, _, _, _] rfl ?_
    refine op_pure (pv_assign (v := .int .i64 _) rfl) ?_
    refine xp_seq ?_
    refine xp_seq ?_
    refine xp_region rfl ?_
    refine op_pure (pv_move (v := .int .i64 _) rfl) ?_
    refine op_pure (pv_of (v := .bool _) rfl) ?_
    refine xp_condF rfl (by decide) ?_
    refine xp_skip ?_
    refine xp_seq ?_
    refine xp_region rfl ?_
    refine op_loadPA 4 (vs := [.slice _ _ _, .map _, .map _, .map _, .map _, .slice _ _ _, .map _, .map _, .map _, .map _]) rfl rfl rfl rfl rfl ?_
    refine op_load (v := .int .i64 _) rfl rfl (by simp only [cellA, (Ext.trans E2 E3) _ _ p1]; rfl) ?_
    refine op_fn (caps := []) (vs := [.agg #[.slice _ _ _, .map _, .map _, .map _, .map _, .slice _ _ _, .map _, .map _, .map _, .map _], .int .i64 _]) rfl rfl rfl (of2_ok s kd hkd A c mf fm fl A' c' mf' fm' fl' h3 (X.ext (Ext.refl _)) (X'.ext (Ext.refl _))) ?_
    rintro _ h4 E4 ⟨AK, cK, mK, fmK, flK, rfl, XK⟩
    refine op_pure (pv_of (v := .slice _ _ _) rfl) ?_
    refine op_pure (pv_assign (v := .slice _ _ _) rfl) ?_
    refine xp_seq ?_
    refine xp_region rfl ?_
    refine op_pure (pv_assign (v := .slice _ _ _) rfl) ?_
    refine xp_seq ?_
    refine xp_seq ?_
    refine xp_region rfl ?_
    refine op_pure (pv_fieldAddr rfl rfl rfl rfl 0 rfl) ?_
    refine op_loadP 0 (v := .slice _ _ _) rfl rfl rfl rfl ?_
    refine op_pure (pv_len rfl rfl) ?_
    refine op_pure (pv_move (v := .int .i64 _) rfl) ?_
    refine xp_block ?_
    refine xp_loopL [9, 10, 11, 13, 31, 32, 33, 34, 35, 36, 37, 38, 39, 40, 41, 42, 43, 44, 45, 46, 47, 48, 49, 50, 51, 52, 53, 54, 55, 56, 57, 58, 59, 60, 61, 62, 63, 64, 65, 66, 67, 68, 69] 5 (α := Nat × Acc) (fun ⟨w, a⟩ => [(31, .int .i64 w), (9, .slice a.A a.n a.c)]) (fun ⟨w, a⟩ L => L.set 2 (a.p)) (fun ⟨w, a⟩ h_w => w ≤ s.heats.length ∧ AccR 29 2 (((List.range w).map (weekR (skM s kd))).flatMap rgC) a) (fun ⟨w, a⟩ => s.heats.length - w) ((0, acc0)) ⟨rfl, rfl, trivial⟩ (rfl) (⟨Nat.zero_le _, accR0⟩) ?_
    rintro ⟨w, a⟩ T1 h_w E_w J_w
    refine goes_norm [_, _, _, _, _] rfl ?_
    obtain ⟨K1, K2⟩ := J_w
    refine xp_seq ?_
    refine xp_region rfl ?_
    refine op_pure (pv_of (v := .bool _) rfl) ?_
    refine xp_seq ?_
    refine xp_cond rfl (fun hw => ?_) (fun hw => ?_)
    · skip
      have hwl : w < s.heats.length := ltI hw
      obtain ⟨g, off, hA, hc0⟩ := (XK.sk.ext E_w).at (by omega) hpos
      have hw6' : w < 6 := by omega
      have hhd : (skM s kd).headD sky0 = (skM s kd)[0] := by simp [List.headD_eq_head?_getD, List.head?_eq_getElem?, List.getElem?_eq_getElem hpos]
      have hcw := hc0 w _ (skyC_at _ w hw6')
      refine xp_skip ?_
      refine xp_seq ?_
      refine xp_block ?_
      refine xp_seq ?_
      refine xp_region rfl ?_
      refine op_pure (pv_move (v := .int .i64 _) rfl) ?_
      refine op_pure (pv_assign (v := .int .i64 _) rfl) ?_
      refine xp_seq ?_
      refine xp_dw [] rfl rfl rfl ?_
      refine dw_pure (i := 0) rfl (by decide +kernel) (pv_move (v := .slice _ _ _) rfl) ?_
      refine dw_pure (i := 1) rfl (by decide +kernel) (pv_move (v := .int .i64 _) rfl) ?_
      refine dw_pure (i := 2) rfl (by decide +kernel) (pv_indexE rfl hA rfl rfl rfl (by omega) (by omega)) ?_
      refine dw_pure (i := 3) rfl (by decide +kernel) (pv_indexA (m := 1) rfl rfl rfl rfl (by omega) (by omega)) ?_
      refine dw_load (i := 4) rfl (by decide +kernel) ?_
      refine op_load (v := .int .i64 ((skM s kd)[0].at w)) rfl rfl (by simpa using hcw) ?_
      refine dw_pure (i := 5) rfl (by decide +kernel) (pv_move (v := .slice _ _ _) rfl) ?_
      refine dw_pure (i := 6) rfl (by decide +kernel) (pv_move (v := .int .i64 _) rfl) ?_
      refine dw_pure (i := 7) rfl (by decide +kernel) (pv_indexE rfl hA rfl rfl rfl (by omega) (by omega)) ?_
      refine dw_pure (i := 8) rfl (by decide +kernel) (pv_indexA (m := 1) rfl rfl rfl rfl (by omega) (by omega)) ?_
      refine dw_load (i := 9) rfl (by decide +kernel) ?_
      refine op_load (v := .int .i64 ((skM s kd)[0].at w)) rfl rfl (by simpa using hcw) ?_
      refine dw_pure (i := 10) rfl (by decide +kernel) (pv_build (zc := [_, _]) (vs := [(0, .int .i64 _), (1, .int .i64 _)]) (cs := [_, _]) rfl rfl rfl rfl rfl rfl) ?_
      refine dw_eff (i := 11) rfl (by decide +kernel) ?_
      refine op_alloc (cs := [_, _]) rfl rfl fun b11 hb11 => ?_
      refine ⟨ext_new hb11 _, ?_⟩
      refine dw_norm [_, _, _, _, _, _] rfl ?_
      refine dw_last (i := 12) rfl (by decide +kernel) (by decide +kernel) ?_
      refine op_storeP 5 (v := .agg #[.int .i64 _, .int .i64 _]) (vs := [_, _]) (c' := [_, _]) rfl rfl rfl rfl rfl rfl rfl rfl rfl ?_
      refine dw_norm [_, _, _, _, _, _] rfl ?_
      refine dw_end rfl ?_
      refine xp_seq ?_
      refine xp_seq ?_
      refine xp_region rfl ?_
      refine op_pure (pv_move (v := .slice _ _ _) rfl) ?_
      refine op_pure (pv_len rfl rfl) ?_
      refine op_pure (pv_move (v := .int .i64 _) rfl) ?_
      refine xp_block ?_
      refine xp_loopL [13, 47, 48, 49, 50, 51, 52, 53, 54, 55, 56, 57, 58, 59, 60, 61, 62, 63, 64] 6 (α := Nat) (fun k => [(47, .int .i64 k)]) (fun k L => L.set 5 (some (b11, .cells #[.int .i64 (loK (skM s kd) w k), .int .i64 (hiK (skM s kd) w k)] 29 (0, 0)))) (fun k h_k => k ≤ (skM s kd).length) (fun k => (skM s kd).length - k) (0) ⟨rfl, trivial⟩ (by rw [loK, hiK, hhd]; rfl) (Nat.zero_le _) ?_
      rintro k T2 h_k E_k J_k
      refine goes_norm [_, _, _, _, _, _] rfl ?_
      refine xp_seq ?_
      refine xp_region rfl ?_
      refine op_pure (pv_of (v := .bool _) rfl) ?_
      refine xp_seq ?_
      refine xp_cond rfl (fun hk2 => ?_) (fun hk2 => ?_)
      · skip
        have hkl : k < (skM s kd).length := ltI hk2
        obtain ⟨g2, off2, hA2, hck⟩ := (XK.sk.ext (Ext.trans E_w E_k)).at (by omega) hkl
        refine xp_skip ?_
        refine xp_seq ?_
        refine xp_block ?_
        refine xp_seq ?_
        refine xp_region rfl ?_
        refine op_pure (pv_indexE rfl hA2 rfl rfl rfl (by omega) (by omega)) ?_
        refine op_loadA rfl rfl rfl rfl (hck) ?_
        refine op_alloc (cs := [_, _, _, _, _, _]) rfl rfl fun b13 hb13 => ?_
        refine wp_norm [_, _, _, _, _, _, _] rfl ?_
        refine op_storeP 6 (v := .agg #[.int .i64 _, .int .i64 _, .int .i64 _, .int .i64 _, .int .i64 _, .int .i64 _]) (vs := [_, _, _, _, _, _]) (c' := [_, _, _, _, _, _]) rfl rfl rfl rfl rfl rfl rfl rfl rfl ?_
        refine wp_norm [_, _, _, _, _, _, _] rfl ?_
        refine xp_dw [] rfl rfl rfl ?_
        refine dw_pure (i := 0) rfl (by decide +kernel) (pv_fieldAddr rfl rfl rfl rfl 0 rfl) ?_
        refine dw_load (i := 1) rfl (by decide +kernel) ?_
        refine op_loadP 5 (v := .int .i64 _) rfl rfl rfl rfl ?_
        refine dw_pure (i := 2) rfl (by decide +kernel) (pv_move (v := .int .i64 _) rfl) ?_
        refine dw_pure (i := 3) rfl (by decide +kernel) (pv_indexA rfl rfl rfl rfl (by omega) (by omega)) ?_
        refine dw_load (i := 4) rfl (by decide +kernel) ?_
        refine op_loadP 6 (v := .int .i64 ((skM s kd)[k].at w)) rfl rfl rfl (skyArr (skM s kd)[k] w hw6') ?_
        refine dw_pure (i := 5) rfl (by decide +kernel) (pv_min rfl rfl) ?_
        refine dw_pure (i := 6) rfl (by decide +kernel) (pv_fieldAddr rfl rfl rfl rfl 1 rfl) ?_
        refine dw_load (i := 7) rfl (by decide +kernel) ?_
        refine op_loadP 5 (v := .int .i64 _) rfl rfl rfl rfl ?_
        refine dw_pure (i := 8) rfl (by decide +kernel) (pv_move (v := .int .i64 _) rfl) ?_
        refine dw_pure (i := 9) rfl (by decide +kernel) (pv_indexA rfl rfl rfl rfl (by omega) (by omega)) ?_
        refine dw_load (i := 10) rfl (by decide +kernel) ?_
        refine op_loadP 6 (v := .int .i64 ((skM s kd)[k].at w)) rfl rfl rfl (skyArr (skM s kd)[k] w hw6') ?_
        refine dw_pure (i := 11) rfl (by decide +kernel) (pv_max rfl rfl) ?_
        refine dw_pure (i := 12) rfl (by decide +kernel) (pv_build (zc := [_, _]) (vs := [(0, .int .i64 _), (1, .int .i64 _)]) (cs := [_, _]) rfl rfl rfl rfl rfl rfl) ?_
        refine dw_last (i := 13) rfl (by decide +kernel) (by decide +kernel) ?_
        refine op_storeP 5 (v := .agg #[.int .i64 _, .int .i64 _]) (vs := [_, _]) (c' := [_, _]) rfl rfl rfl rfl rfl rfl rfl rfl rfl ?_
        refine dw_norm [_, _, _, _, _, _, _] rfl ?_
        refine dw_end rfl ?_
        refine xp_region rfl ?_
        refine op_pure (pv_arith rfl (by omega)) ?_
        refine op_pure (pv_move (v := .int .i64 _) rfl) ?_
        refine ⟨k + 1, ⟨rfl, trivial⟩, rfl, by rw [loK_succ hkl, hiK_succ hkl]; rfl, E_k, fun h3 E3 => hkl, by first | omega | (dsimp only; omega), ?_⟩
        repeat (first | exact off_base _ _ _ | refine off_upd (by decide) ?_ | refine off_updL rfl ?_ | refine off_mix rfl ?_)
      · skip
        have hke : k = (skM s kd).length := by have := geI hk2; omega
        subst hke
        refine xp_exit ?_
        refine xp_region rfl ?_
        refine op_pure (pv_move (v := .slice _ _ _) rfl) ?_
        refine op_loadPA 5 (vs := [.int .i64 _, .int .i64 _]) rfl rfl rfl rfl rfl ?_
        refine op_buildSlice (zc := [_, _]) (vs := [(0, .agg #[.int .i64 _, .int .i64 _])]) (cs := [_, _]) rfl rfl rfl rfl rfl rfl rfl fun b67 hb67 => ?_
        refine wp_norm [_, _, _, _, _, _, _] rfl ?_
        refine op_appendR 2 K2 rfl rfl rfl (fun V => rdP V (i := 6) rfl) rfl rfl rfl rfl rfl rfl rfl rfl rfl (by omega) rfl (by rw [flat_len (m := 2) (fun _ _ => rfl)]; simp; omega) fun a2 h3a E3a ha2 => ?_
        refine wp_norm [_, _, _, _, _, _, _] rfl ?_
        refine op_pure (pv_assign (v := .slice _ _ _) rfl) ?_
        refine xp_region rfl ?_
        refine op_pure (pv_arith rfl (by omega)) ?_
        refine op_pure (pv_move (v := .int .i64 _) rfl) ?_
        refine ⟨(w + 1, a2), ⟨rfl, rfl, trivial⟩, rfl, rfl, (Ext.trans (Ext.trans E_w E_k) E3a), fun h3 E3 => ⟨hwl, by rw [List.range_succ, List.map_append, List.flatMap_append]; exact ha2⟩, by first | omega | (dsimp only; omega), ?_⟩
        repeat (first | exact off_base _ _ _ | refine off_upd (by decide) ?_ | refine off_updL rfl ?_ | refine off_mix rfl ?_)
    · skip
      have hwe : w = s.heats.length := by have := geI hw; omega
      subst hwe
      refine xp_exit ?_
      refine xp_seq ?_
      refine xp_region rfl ?_
      refine op_pure (pv_move (v := .slice _ _ _) rfl) ?_
      refine op_pure (pv_assign (v := .slice _ _ _) rfl) ?_
      refine op_pure (pv_assign (v := .int .i64 _) rfl) ?_
      refine xp_ret ?_
      refine res_list (vs := [_, _]) Tryd.results10 ⟨resV_tmp rfl rfl, resV_tmp rfl rfl, trivial⟩ fun V => ?_
      refine ⟨(Ext.trans (Ext.trans (Ext.trans (Ext.trans (Ext.trans E1 E2) E3) E4) E_w) (ext_wl V)), _, by rw [he]; rfl, ?_⟩
      rw [weatherL, if_pos he]
      exact AccP.row (i := 2) K2 (by omega) (fun _ _ => rfl) V rfl
  · skip
    refine call_body Tryd.func10 rfl Tryd.ntmps10 rfl ?_
    refine xp_seq ?_
    refine xp_region rfl ?_
    refine op_box (v := .agg #[.slice _ _ _, .slice _ _ _, .slice _ _ _, .slice _ _ _]) (cs := [_, _, _, _]) rfl rfl fun b2 hb2 => ?_
    refine wp_norm [_] rfl ?_
    refine op_box (v := .int .i64 _) (cs := [_]) rfl rfl fun b3 hb3 => ?_
    refine wp_norm [_, _] rfl ?_
    refine op_pure (pv_assign (v := .slice _ _ _) rfl) ?_
    refine op_pure (pv_assign (v := .int .i64 _) rfl) ?_
    refine goes_pub 1 rfl ?_
    intro h1 E1 p1
    refine xp_seq ?_
    refine xp_region rfl ?_
    refine op_loadPA 0 (vs := [.slice _ _ _, .slice _ _ _, .slice _ _ _, .slice _ _ _]) rfl rfl rfl rfl rfl ?_
    refine op_pure (pv_makeFunc (vs := []) (ws := [_]) rfl rfl) ?_
    refine op_buildSlice (zc := [_]) (vs := [(0, _)]) (cs := [_]) rfl rfl rfl rfl rfl rfl rfl fun b17 hb17 => ?_
    refine wp_norm [_, _, _] rfl ?_
    refine wp_pub 2 rfl rfl ?_
    intro h2 E2 p17
    refine wp_norm [_, _, _] rfl ?_
    refine op_fn (caps := []) (vs := [.agg #[.slice _ _ _, .slice _ _ _, .slice _ _ _, .slice _ _ _], .slice _ _ _]) rfl rfl rfl (known_no s A0 A1 A2 A3 c0 c1 c2 c3 h2 (R.ext (Ext.trans E1 E2)) Sm.h0 Sm.h1 Sm.h2 Sm.h3 [_] [_] _ _ (rowFn p17) rfl (by simp) (ask1 ((weather1_ask kd b3 _ p1).ext E2)) he) ?_
    rintro _ h3 E3 rfl
    refine op_pure (pv_move (v := .tuple #[.agg #[.slice _ _ _, .map _, .map _, .map _, .map _, .slice _ _ _, .map _, .map _, .map _, .map _], .int .i64 _]) rfl) ?_
    refine op_pure (pv_of (v := .agg #[.slice _ _ _, .map _, .map _, .map _, .map _, .slice _ _ _, .map _, .map _, .map _, .map _]) rfl) ?_
    refine op_pure (pv_of (v := .int .i64 _) rfl) ?_
    refine op_alloc (cs := [_, _, _, _, _, _, _, _, _, _]) rfl rfl fun b6 hb6 => ?_
    refine wp_norm [_, _, _, _] rfl ?_
    refine op_storeP 3 (v := .agg #[.slice _ _ _, .map _, .map _, .map _, .map _, .slice _ _ _, .map _, .map _, .map _, .map _]) (vs := [_, _, _, _, _, _, _, _, _, _]) (c' := [_, _, _, _, _, _, _, _, _, _]) rfl rfl rfl rfl rfl rfl rfl rfl rfl ?_
    refine wp_norm [_, _, _, _] rfl ?_
    refine op_pure (pv_assign (v := .int .i64 _) rfl) ?_
    refine xp_seq ?_
    refine xp_seq ?_
    refine xp_region rfl ?_
    refine op_pure (pv_move (v := .int .i64 _) rfl) ?_
    refine op_pure (pv_of (v := .bool _) rfl) ?_
    refine xp_condT rfl (by simpa [weatherE] using he) ?_
    refine xp_seq ?_
    refine xp_region rfl ?_
    refine op_pure (pv_move (v := .int .i64 _) rfl) ?_
    refine op_pure (pv_assign (v := .slice _ _ _) rfl) ?_
    refine op_pure (pv_assign (v := .int .i64 _) rfl) ?_
    refine xp_ret ?_
    refine res_list (vs := [_, _]) Tryd.results10 ⟨resV_tmp rfl rfl, resV_tmp rfl rfl, trivial⟩ fun V => ?_
    refine ⟨(Ext.trans (Ext.trans (Ext.trans E1 E2) E3) (ext_wl V)), _, rfl, none, 0, ?_, ?_⟩
    · rw [weatherL, if_neg he]; rfl
    · rw [weatherL, if_neg he]; exact ⟨fun _ h => (by cases h), Rd.nil _ _⟩
end Go.Proofs.YtboigjfgpppeaaaDoor
/- Walks: how many joints are sound. Conditions: as each theorem states. -/
namespace Go.Proofs.YtboigjfgpppeaaaDoor
open Go Go.HL Go.Proofs Go.Wx
variable [Lvl]
set_option maxRecDepth 100000
/-- What holds between the rounds. -/
def SoundI (s : Season) (w : Nat) (pre : Pv) (b8 l : Nat) (r : Loop) (h0 : AH) (done : List Fate) (h : AH) (M : Pv) : Prop :=
  Ext h0 h ∧ M = pre ++ [some (b8, .cells #[.int .i64 (soundLo s w done : Nat), .int .i64 (soundHi s w done : Nat)] 29 (0, 0)), some (l, obL r .ready none)]
theorem minN (a b : Nat) : ((min a b : Nat) : Int) = min (a : Int) (b : Int) := by omega
theorem maxN (a b : Nat) : ((max a b : Nat) : Int) = max (a : Int) (b : Int) := by omega
set_option maxHeartbeats 4000000 in
theorem Sound_ok (s : Season) (Sm : Small s) (week : Int) (A0 A1 A2 A3 : Option Addr) (c0 c1 c2 c3 : Nat) (h : AH) (R : SeasonR h A0 A1 A2 A3 s) :
    FnT Tryd.prog 16 #[seasonV A0 A1 A2 A3 c0 c1 c2 c3 s, .int .i64 week] h (fun v h' => v = .tuple #[rgV (soundV s week), .int .i64 (soundE s week)]) := by
  by_cases he : soundE s week = 0
  · have hk := knownM_zero he
    have SV := checkM_zero hk.1
    have hw6 := SV.b.w6
    have hj3 := SV.b.j3
    obtain ⟨w, rfl, hw⟩ := isWeekM_zero (s := s) (w := week) (firstErr_zero (f := id) hk.2.1 (isWeekM s week) (by simp))
    refine call_body Tryd.func16 rfl Tryd.ntmps16 rfl ?_
    refine xp_seq ?_
    refine xp_region rfl ?_
    refine op_box (v := .agg #[.slice _ _ _, .slice _ _ _, .slice _ _ _, .slice _ _ _]) (cs := [_, _, _, _]) rfl rfl fun b2 hb2 => ?_
    refine wp_norm [_] rfl ?_
    refine op_box (v := .int .i64 _) (cs := [_]) rfl rfl fun b3 hb3 => ?_
    refine wp_norm [_, _] rfl ?_
    refine op_alloc (cs := [_, _]) rfl rfl fun b4 hb4 => ?_
    refine wp_norm [_, _, _] rfl ?_
    refine op_pure (pv_assign (v := .int .i64 _) rfl) ?_
    refine xp_seq ?_
    refine xp_dw [] rfl rfl rfl ?_
    refine dw_load (i := 0) rfl (by decide +kernel) ?_
    refine op_loadPA 0 (vs := [.slice _ _ _, .slice _ _ _, .slice _ _ _, .slice _ _ _]) rfl rfl rfl rfl rfl ?_
    refine dw_load (i := 1) rfl (by decide +kernel) ?_
    refine op_loadPA 0 (vs := [.slice _ _ _, .slice _ _ _, .slice _ _ _, .slice _ _ _]) rfl rfl rfl rfl rfl ?_
    refine dw_load (i := 2) rfl (by decide +kernel) ?_
    refine op_loadP 1 (v := .int .i64 _) rfl rfl rfl rfl ?_
    refine dw_eff (i := 3) rfl (by decide +kernel) ?_
    refine op_fn (caps := []) (vs := [.agg #[.slice _ _ _, .slice _ _ _, .slice _ _ _, .slice _ _ _], .int .i64 _]) rfl rfl rfl (isWeek_ok s w A0 A1 A2 A3 c0 c1 c2 c3 Sm.h0 h) ?_
    rintro _ h1 E1 ⟨fn, caps, rfl, ak⟩
    refine ⟨ext_wlm E1 _, ?_⟩
    refine dw_eff (i := 4) rfl (by decide +kernel) ?_
    refine op_buildSlice (zc := [_]) (vs := [(0, _)]) (cs := [_]) rfl rfl rfl rfl rfl rfl rfl fun b18 hb18 => ?_
    refine ⟨ext_new hb18 _, ?_⟩
    refine dw_norm [_, _, _, _] rfl ?_
    refine dw_pub 3 rfl ?_
    intro h2 E2 p18
    refine dw_norm [_, _, _, _] rfl ?_
    refine dw_last (i := 5) rfl (by decide +kernel) (by decide +kernel) ?_
    refine op_fn (caps := []) (vs := [.agg #[.slice _ _ _, .slice _ _ _, .slice _ _ _, .slice _ _ _], .slice _ _ _]) rfl rfl rfl (known_yes s A0 A1 A2 A3 c0 c1 c2 c3 h2 (R.ext (Ext.trans E1 E2)) Sm.h0 Sm.h1 Sm.h2 Sm.h3 [_] [_] _ _ (rowFn p18) rfl (by simp) (ask1 (ak.ext E2)) he) ?_
    rintro _ h3 E3 ⟨A, c, mf, fm, fl, A', c', mf', fm', fl', rfl, X, X'⟩
    refine dw_pure (i := 6) rfl (by decide +kernel) (pv_move (v := .tuple #[.agg #[.slice _ _ _, .map _, .map _, .map _, .map _, .slice _ _ _, .map _, .map _, .map _, .map _], .int .i64 _]) rfl) ?_
    refine dw_pure (i := 7) rfl (by decide +kernel) (pv_of (v := .agg #[.slice _ _ _, .map _, .map _, .map _, .map _, .slice _ _ _, .map _, .map _, .map _, .map _]) rfl) ?_
    refine dw_pure (i := 8) rfl (by decide +kernel) (pv_of (v := .int .i64 _) rfl) ?_
    refine dw_eff (i := 9) rfl (by decide +kernel) ?_
    refine op_alloc (cs := [_, _, _, _, _, _, _, _, _, _]) rfl rfl fun b6 hb6 => ?_
    refine ⟨ext_new hb6 _, ?_⟩
    refine dw_norm [_, _, _, _, _] rfl ?_
    refine dw_last (i := 10) rfl (by decide +kernel) (by decide +kernel) ?_
    refine op_storeP 4 (v := .agg #[.slice _ _ _, .map _, .map _, .map _, .map _, .slice _ _ _, .map _, .map _, .map _, .map _]) (vs := [_, _, _, _, _, _, _, _, _, _]) (c' := [_, _, _, _, _, _, _, _, _, _]) rfl rfl rfl rfl rfl rfl rfl rfl rfl ?_
    refine dw_norm [_, _, _, _, _] rfl ?_
    refine dw_pure (i := 11) rfl (by decide +kernel) (pv_assign (v := .int .i64 _) rfl) ?_
    refine dw_end rfl ?_
    refine xp_seq ?_
    refine xp_seq ?_
    refine xp_region rfl ?_
    refine op_pure (pv_move (v := .int .i64 _) rfl) ?_
    refine op_pure (pv_of (v := .bool _) rfl) ?_
    refine xp_condF rfl (by decide) ?_
    refine xp_skip ?_
    refine xp_seq ?_
    refine xp_region rfl ?_
    refine op_pure (pv_fieldAddr rfl rfl rfl rfl 2 rfl) ?_
    refine op_loadP 0 (v := .slice _ _ _) rfl rfl rfl rfl ?_
    refine op_pure (pv_len rfl rfl) ?_
    refine op_pure (pv_build (zc := [_, _]) (vs := [(0, .int .i64 _), (1, .int .i64 _)]) (cs := [_, _]) rfl rfl rfl rfl rfl rfl) ?_
    refine op_alloc (cs := [_, _]) rfl rfl fun b8 hb8 => ?_
    refine wp_norm [_, _, _, _, _, _] rfl ?_
    refine op_storeP 5 (v := .agg #[.int .i64 _, .int .i64 _]) (vs := [_, _]) (c' := [_, _]) rfl rfl rfl rfl rfl rfl rfl rfl rfl ?_
    refine wp_norm [_, _, _, _, _, _] rfl ?_
    refine xp_seq ?_
    refine xp_seq ?_
    refine xp_region rfl ?_
    refine op_loadPA 4 (vs := [.slice _ _ _, .map _, .map _, .map _, .map _, .slice _ _ _, .map _, .map _, .map _, .map _]) rfl rfl rfl rfl rfl ?_
    refine op_fn (caps := []) (vs := [.agg #[.slice _ _ _, .map _, .map _, .map _, .map _, .slice _ _ _, .map _, .map _, .map _, .map _]]) rfl rfl rfl (fates_ok s SV A c mf fm fl A' c' mf' fm' fl' h3 (X.ext (Ext.refl _)) (X'.ext (Ext.refl _))) ?_
    rintro y h4 E4 It
    refine xp_block ?_
    refine xp_rangeFunc rfl ?_
    intro r l lp htm hpr has hbd V0
    refine CallV.mono (It (.yield l) #[] #[] (SoundI s w [_, _, _, _, _] b8 l lp h4) (fun k h1 h2 M E I => ⟨I.1.trans E, I.2⟩) ?_ h4 _ (Ext.refl _) ⟨Ext.refl _, rfl⟩ V0) ?_ (fun _ _ y => y)
    · intro done f hc M hf I
      obtain ⟨E0, rfl⟩ := I
      have fb := allFates_b hw6 hf
      intro V
      refine callV_yield (wl_get V (i := 6) rfl) hpr rfl htm has hbd ?_
      refine round_enter (i := 6) (r := lp) ?_ V
      refine goes_norm [_, _, _, _, _, _, _] rfl ?_
      refine xp_region rfl ?_
      refine op_alloc (cs := [_, _, _]) rfl rfl fun b9 hb9 => ?_
      refine wp_norm [_, _, _, _, _, _, _, _] rfl ?_
      refine op_storeP 7 (v := .agg #[.int .u64 _, .int .u64 _, .int .u64 _]) (vs := [_, _, _]) (c' := [_, _, _]) rfl rfl rfl rfl rfl rfl rfl rfl rfl ?_
      refine wp_norm [_, _, _, _, _, _, _, _] rfl ?_
      refine ⟨rfl, none, rfl, ?_⟩
      refine goes_norm [_, _, _, _, _, _, _, _] rfl ?_
      refine xp_block ?_
      refine xp_seq ?_
      refine xp_region rfl ?_
      refine op_pure (pv_assign (v := .int .i64 _) rfl) ?_
      refine op_pure (pv_assign (v := .int .i64 _) rfl) ?_
      refine xp_seq ?_
      refine xp_seq ?_
      refine xp_region rfl ?_
      refine op_pure (pv_fieldAddr rfl rfl rfl rfl 2 rfl) ?_
      refine op_loadP 0 (v := .slice _ _ _) rfl rfl rfl rfl ?_
      refine op_pure (pv_len rfl rfl) ?_
      refine op_pure (pv_move (v := .int .i64 _) rfl) ?_
      refine xp_block ?_
      refine xp_loopB [10, 11, 12, 36, 37, 38, 39, 40, 41, 42, 43, 44, 45, 46, 47, 48, 49, 50, 51, 52, 53, 54, 55, 56, 57, 58] 8 (α := Nat) (fun i => [(36, .int .i64 i), (10, .int .i64 (mustN f w i : Nat)), (11, .int .i64 (canN f w i : Nat))]) (fun i => _) (fun i h_i => i ≤ s.joints.length) (fun i => s.joints.length - i) (0) ⟨rfl, rfl, rfl, trivial⟩ (rfl) (Nat.zero_le _) ?_
      rintro i T1 h_i E_i J_i
      refine goes_norm [_, _, _, _, _, _, _, _] rfl ?_
      refine xp_seq ?_
      refine xp_region rfl ?_
      refine op_pure (pv_of (v := .bool _) rfl) ?_
      refine xp_seq ?_
      refine xp_cond rfl (fun hti => ?_) (fun hti => ?_)
      · skip
        have hil := ltI hti
        have hi3 : i < 3 := by omega
        have fbi := fb.at i
        have hm := mustN_le f w i
        have hcn := canN_le f w i
        refine xp_skip ?_
        refine xp_seq ?_
        refine xp_block ?_
        refine xp_seq ?_
        refine xp_region rfl ?_
        refine op_pure (pv_move (v := .int .i64 _) rfl) ?_
        refine op_pure (pv_assign (v := .int .i64 _) rfl) ?_
        refine xp_cutB [10, 39, 40, 41, 42, 43, 44, 45, 46] 8 (α := Unit) (fun u => [(10, .int .i64 (mustN f w (i + 1) : Nat))]) (fun u L => L) (fun u h_u => True) ?_ ?_
        · skip
          refine xp_seq ?_
          refine xp_dw [] rfl rfl rfl ?_
          refine dw_pure (i := 0) rfl (by decide +kernel) (pv_move (v := .int .i64 _) rfl) ?_
          refine dw_pure (i := 1) rfl (by decide +kernel) (pv_indexA rfl rfl rfl rfl (by omega) (by omega)) ?_
          refine dw_load (i := 2) rfl (by decide +kernel) ?_
          refine op_loadP 7 (v := .int .u64 (f.at i : Nat)) rfl rfl rfl (fate_arr f i hi3) ?_
          refine dw_load (i := 3) rfl (by decide +kernel) ?_
          refine op_loadP 1 (v := .int .i64 _) rfl rfl rfl rfl ?_
          refine dw_last (i := 4) rfl (by decide +kernel) (by decide +kernel) ?_
          refine op_fn (caps := []) (vs := [.int .u64 _, .int .i64 _]) rfl rfl rfl (upto_ok (f.at i) w (by omega) (by omega) h_i) ?_
          rintro _ h5 E5 rfl
          refine dw_pure (i := 5) rfl (by decide +kernel) (pv_of (v := .bool _) rfl) ?_
          refine dw_end rfl ?_
          refine xp_cond rfl (fun hu => ?_) (fun hu => ?_)
          · skip
            have hu' : uptoM (f.at i) w = 0 := by simpa using hu
            refine xp_region rfl ?_
            refine op_pure (pv_move (v := .int .i64 _) rfl) ?_
            refine op_pure (pv_arith rfl (by omega)) ?_
            refine op_pure (pv_assign (v := .int .i64 _) rfl) ?_
            refine ⟨(), ⟨intE (by rw [mustN, if_pos hu']; omega), trivial⟩, rfl, rfl, E5, fun h3 E3 => by first | trivial | omega | (refine ⟨?_, ?_⟩ <;> omega), ?_⟩
            repeat (first | exact off_refl _ _ | exact off_base _ _ _ | refine off_upd (by decide) ?_ | refine off_updL rfl ?_ | refine off_mix rfl ?_)
          · skip
            have hu' : ¬ uptoM (f.at i) w = 0 := by simpa using hu
            refine xp_skip ?_
            refine ⟨(), ⟨intE (by rw [mustN, if_neg hu']; omega), trivial⟩, rfl, rfl, E5, fun h3 E3 => by first | trivial | omega | (refine ⟨?_, ?_⟩ <;> omega), ?_⟩
            repeat (first | exact off_refl _ _ | exact off_base _ _ _ | refine off_upd (by decide) ?_ | refine off_updL rfl ?_ | refine off_mix rfl ?_)
        · rintro u T2 h_u E_u J_u
          refine goes_norm [_, _, _, _, _, _, _, _] rfl ?_
          refine xp_seq ?_
          refine xp_dw [] rfl rfl rfl ?_
          refine dw_pure (i := 0) rfl (by decide +kernel) (pv_move (v := .int .i64 _) rfl) ?_
          refine dw_pure (i := 1) rfl (by decide +kernel) (pv_indexA rfl rfl rfl rfl (by omega) (by omega)) ?_
          refine dw_load (i := 2) rfl (by decide +kernel) ?_
          refine op_loadP 7 (v := .int .u64 (f.at i : Nat)) rfl rfl rfl (fate_arr f i hi3) ?_
          refine dw_pure (i := 3) rfl (by decide +kernel) (pv_move (v := .int .i64 _) rfl) ?_
          refine dw_pure (i := 4) rfl (by decide +kernel) (pv_indexA rfl rfl rfl rfl (by omega) (by omega)) ?_
          refine dw_load (i := 5) rfl (by decide +kernel) ?_
          refine op_loadP 7 (v := .int .u64 (f.at i : Nat)) rfl rfl rfl (fate_arr f i hi3) ?_
          refine dw_load (i := 6) rfl (by decide +kernel) ?_
          refine op_loadP 1 (v := .int .i64 _) rfl rfl rfl rfl ?_
          refine dw_eff (i := 7) rfl (by decide +kernel) ?_
          refine op_fn (caps := []) (vs := [.int .u64 _, .int .i64 _]) rfl rfl rfl (upto_ok (f.at i) w (by omega) (by omega) h_u) ?_
          rintro _ h5 E5 rfl
          refine ⟨ext_wlm E5 _, ?_⟩
          refine dw_pure (i := 8) rfl (by decide +kernel) (pv_of (v := .bool _) rfl) ?_
          refine dw_end rfl ?_
          refine xp_cond rfl (fun hu => ?_) (fun hu => ?_)
          · skip
            have hu' : f.at i ≠ uptoM (f.at i) w := by
              intro e
              rw [← e] at hu
              simp at hu
            refine xp_region rfl ?_
            refine op_pure (pv_move (v := .int .i64 _) rfl) ?_
            refine op_pure (pv_arith rfl (by omega)) ?_
            refine op_pure (pv_assign (v := .int .i64 _) rfl) ?_
            refine xp_region rfl ?_
            refine op_pure (pv_arith rfl (by omega)) ?_
            refine op_pure (pv_move (v := .int .i64 _) rfl) ?_
            refine ⟨i + 1, ⟨rfl, rfl, intE (by rw [canN, if_pos hu']; omega), trivial⟩, rfl, rfl, (Ext.trans (Ext.trans E_i E_u) E5), fun h3 E3 => by omega, by first | omega | (dsimp only; omega), ?_⟩
            repeat (first | exact off_base _ _ _ | refine off_upd (by decide) ?_ | refine off_updL rfl ?_ | refine off_mix rfl ?_)
          · skip
            have hu' : ¬ f.at i ≠ uptoM (f.at i) w := by
              intro e
              simp at hu
              exact e (by exact_mod_cast hu)
            refine xp_skip ?_
            refine xp_region rfl ?_
            refine op_pure (pv_arith rfl (by omega)) ?_
            refine op_pure (pv_move (v := .int .i64 _) rfl) ?_
            refine ⟨i + 1, ⟨rfl, rfl, intE (by rw [canN, if_neg hu']; omega), trivial⟩, rfl, rfl, (Ext.trans (Ext.trans E_i E_u) E5), fun h3 E3 => by omega, by first | omega | (dsimp only; omega), ?_⟩
            repeat (first | exact off_base _ _ _ | refine off_upd (by decide) ?_ | refine off_updL rfl ?_ | refine off_mix rfl ?_)
      · skip
        have hie : i = s.joints.length := by have := geI hti; omega
        subst hie
        refine xp_exit ?_
        refine xp_region rfl ?_
        refine op_pure (pv_fieldAddr rfl rfl rfl rfl 0 rfl) ?_
        refine op_loadP 5 (v := .int .i64 _) rfl rfl rfl rfl ?_
        refine op_pure (pv_move (v := .int .i64 _) rfl) ?_
        refine op_pure (pv_min rfl rfl) ?_
        refine op_pure (pv_fieldAddr rfl rfl rfl rfl 1 rfl) ?_
        refine op_loadP 5 (v := .int .i64 _) rfl rfl rfl rfl ?_
        refine op_pure (pv_move (v := .int .i64 _) rfl) ?_
        refine op_pure (pv_max rfl rfl) ?_
        refine op_pure (pv_build (zc := [_, _]) (vs := [(0, .int .i64 _), (1, .int .i64 _)]) (cs := [_, _]) rfl rfl rfl rfl rfl rfl) ?_
        refine op_storeP 5 (v := .agg #[.int .i64 _, .int .i64 _]) (vs := [_, _]) (c' := [_, _]) rfl rfl rfl rfl rfl rfl rfl rfl rfl ?_
        refine wp_norm [_, _, _, _, _, _, _, _] rfl ?_
        intro V2
        refine ⟨rfl, ⟨_, _, rfl⟩, ?_⟩
        have V3 := valid_set (o' := obL lp .ready none) V2 (i := 6) rfl
        obtain ⟨h9, E9, e9, V9⟩ := wl_drop [_] [_, _, _, _, _, _, _] V3
        refine ⟨h9, _, e9, V9, Ext.trans E_i E9, rfl, Ext.trans (Ext.trans E0 E_i) E9, ?_⟩
        have eL : soundLo s w (done ++ [f]) = min (soundLo s w done) (mustN f w s.joints.length) := by unfold soundLo; rw [List.foldl_append]; rfl
        have eH : soundHi s w (done ++ [f]) = max (soundHi s w done) (canN f w s.joints.length) := by unfold soundHi; rw [List.foldl_append]; rfl
        rw [eL, eH, minN, maxN]
        rfl
    · rintro v H ⟨h', M', rfl, V', E', done, hdone, E0, rfl⟩
      refine ⟨h', [_, _, _, _, _, _], .ready, none, rfl, V', by simp, fun h'' E'' => ?_⟩
      refine goes_norm [_, _, _, _, _, _] rfl ?_
      refine xp_seq ?_
      refine xp_region rfl ?_
      refine op_loadPA 5 (vs := [.int .i64 _, .int .i64 _]) rfl rfl rfl rfl rfl ?_
      refine op_storeP 2 (v := .agg #[.int .i64 _, .int .i64 _]) (vs := [_, _]) (c' := [_, _]) rfl rfl rfl rfl rfl rfl rfl rfl rfl ?_
      refine wp_norm [_, _, _, _, _, _] rfl ?_
      refine op_pure (pv_assign (v := .int .i64 _) rfl) ?_
      refine xp_ret ?_
      refine res_listM (vs := [_, _]) rfl Tryd.results16 ⟨resV_agg 2 rfl rfl rfl rfl rfl (vs := [.int .i64 _, .int .i64 _]) rfl, resV_tmp rfl rfl, trivial⟩ fun hM EM V => ?_
      refine ⟨Ext.trans (Ext.trans (Ext.trans (Ext.trans (Ext.trans (Ext.trans E1 E2) E3) E4) E') E'') (Ext.trans EM (ext_wl V)), ?_⟩
      rw [soundV, if_pos he, Int.toNat_natCast, ← soundLo_same hdone, ← soundHi_same hdone, he]
      rfl
  · skip
    refine call_body Tryd.func16 rfl Tryd.ntmps16 rfl ?_
    refine xp_seq ?_
    refine xp_region rfl ?_
    refine op_box (v := .agg #[.slice _ _ _, .slice _ _ _, .slice _ _ _, .slice _ _ _]) (cs := [_, _, _, _]) rfl rfl fun b2 hb2 => ?_
    refine wp_norm [_] rfl ?_
    refine op_box (v := .int .i64 _) (cs := [_]) rfl rfl fun b3 hb3 => ?_
    refine wp_norm [_, _] rfl ?_
    refine op_alloc (cs := [_, _]) rfl rfl fun b4 hb4 => ?_
    refine wp_norm [_, _, _] rfl ?_
    refine op_pure (pv_assign (v := .int .i64 _) rfl) ?_
    refine xp_seq ?_
    refine xp_dw [] rfl rfl rfl ?_
    refine dw_load (i := 0) rfl (by decide +kernel) ?_
    refine op_loadPA 0 (vs := [.slice _ _ _, .slice _ _ _, .slice _ _ _, .slice _ _ _]) rfl rfl rfl rfl rfl ?_
    refine dw_load (i := 1) rfl (by decide +kernel) ?_
    refine op_loadPA 0 (vs := [.slice _ _ _, .slice _ _ _, .slice _ _ _, .slice _ _ _]) rfl rfl rfl rfl rfl ?_
    refine dw_load (i := 2) rfl (by decide +kernel) ?_
    refine op_loadP 1 (v := .int .i64 _) rfl rfl rfl rfl ?_
    refine dw_eff (i := 3) rfl (by decide +kernel) ?_
    refine op_fn (caps := []) (vs := [.agg #[.slice _ _ _, .slice _ _ _, .slice _ _ _, .slice _ _ _], .int .i64 _]) rfl rfl rfl (isWeek_ok s week A0 A1 A2 A3 c0 c1 c2 c3 Sm.h0 h) ?_
    rintro _ h1 E1 ⟨fn, caps, rfl, ak⟩
    refine ⟨ext_wlm E1 _, ?_⟩
    refine dw_eff (i := 4) rfl (by decide +kernel) ?_
    refine op_buildSlice (zc := [_]) (vs := [(0, _)]) (cs := [_]) rfl rfl rfl rfl rfl rfl rfl fun b18 hb18 => ?_
    refine ⟨ext_new hb18 _, ?_⟩
    refine dw_norm [_, _, _, _] rfl ?_
    refine dw_pub 3 rfl ?_
    intro h2 E2 p18
    refine dw_norm [_, _, _, _] rfl ?_
    refine dw_last (i := 5) rfl (by decide +kernel) (by decide +kernel) ?_
    refine op_fn (caps := []) (vs := [.agg #[.slice _ _ _, .slice _ _ _, .slice _ _ _, .slice _ _ _], .slice _ _ _]) rfl rfl rfl (known_no s A0 A1 A2 A3 c0 c1 c2 c3 h2 (R.ext (Ext.trans E1 E2)) Sm.h0 Sm.h1 Sm.h2 Sm.h3 [_] [_] _ _ (rowFn p18) rfl (by simp) (ask1 (ak.ext E2)) he) ?_
    rintro _ h3 E3 rfl
    refine dw_pure (i := 6) rfl (by decide +kernel) (pv_move (v := .tuple #[.agg #[.slice _ _ _, .map _, .map _, .map _, .map _, .slice _ _ _, .map _, .map _, .map _, .map _], .int .i64 _]) rfl) ?_
    refine dw_pure (i := 7) rfl (by decide +kernel) (pv_of (v := .agg #[.slice _ _ _, .map _, .map _, .map _, .map _, .slice _ _ _, .map _, .map _, .map _, .map _]) rfl) ?_
    refine dw_pure (i := 8) rfl (by decide +kernel) (pv_of (v := .int .i64 _) rfl) ?_
    refine dw_eff (i := 9) rfl (by decide +kernel) ?_
    refine op_alloc (cs := [_, _, _, _, _, _, _, _, _, _]) rfl rfl fun b6 hb6 => ?_
    refine ⟨ext_new hb6 _, ?_⟩
    refine dw_norm [_, _, _, _, _] rfl ?_
    refine dw_last (i := 10) rfl (by decide +kernel) (by decide +kernel) ?_
    refine op_storeP 4 (v := .agg #[.slice _ _ _, .map _, .map _, .map _, .map _, .slice _ _ _, .map _, .map _, .map _, .map _]) (vs := [_, _, _, _, _, _, _, _, _, _]) (c' := [_, _, _, _, _, _, _, _, _, _]) rfl rfl rfl rfl rfl rfl rfl rfl rfl ?_
    refine dw_norm [_, _, _, _, _] rfl ?_
    refine dw_pure (i := 11) rfl (by decide +kernel) (pv_assign (v := .int .i64 _) rfl) ?_
    refine dw_end rfl ?_
    refine xp_seq ?_
    refine xp_seq ?_
    refine xp_region rfl ?_
    refine op_pure (pv_move (v := .int .i64 _) rfl) ?_
    refine op_pure (pv_of (v := .bool _) rfl) ?_
    refine xp_condT rfl (by simpa [soundE] using he) ?_
    refine xp_seq ?_
    refine xp_region rfl ?_
    refine op_pure (pv_build (zc := [_, _]) (vs := []) (cs := [_, _]) rfl rfl rfl rfl rfl rfl) ?_
    refine op_pure (pv_move (v := .int .i64 _) rfl) ?_
    refine op_storeP 2 (v := .agg #[.int .i64 _, .int .i64 _]) (vs := [_, _]) (c' := [_, _]) rfl rfl rfl rfl rfl rfl rfl rfl rfl ?_
    refine wp_norm [_, _, _, _, _] rfl ?_
    refine op_pure (pv_assign (v := .int .i64 _) rfl) ?_
    refine xp_ret ?_
    refine res_list (vs := [_, _]) Tryd.results16 ⟨resV_agg 2 rfl rfl rfl rfl rfl (vs := [.int .i64 _, .int .i64 _]) rfl, resV_tmp rfl rfl, trivial⟩ fun V => ?_
    refine ⟨(Ext.trans (Ext.trans (Ext.trans E1 E2) E3) (ext_wl V)), ?_⟩
    rw [soundV, if_neg he]; rfl
end Go.Proofs.YtboigjfgpppeaaaDoor
