/- An own logic over the model, its walks and its plain laws, joined of parts W75 W76. Conditions: as each theorem states. -/
import Derived.Test.YtboigjfgpppeaaaDoorLa5
import Derived.Test.YtboigjfgpppeaaaDoorLa4
set_option linter.all false
/- Walks: the chapter's examples, as contracts. Conditions: as each theorem states. -/
namespace Go.Proofs.YtboigjfgpppeaaaDoor
open Go Go.HL Go.Proofs Go.Wx Go.Rd
section
variable [Lvl]
set_option maxRecDepth 100000
theorem season0_okM (h : AH) : FnM Tryd.prog (.func (.func 4) #[] ([] : List Value).toArray) [] h [] (fun v h' M' => ∃ p q l, v = seasonV (some ⟨p, 0, none⟩) (some ⟨q, 0, none⟩) (some ⟨l, 0, none⟩) none 3 3 2 0 season0 ∧
    M' = [some (p, .cells (season0.heats.flatMap rgC).toArray 29 (0, 0)), some (q, .cells (season0.damps.flatMap rgC).toArray 29 (0, 0)), some (l, .cells (season0.joints.flatMap jointC).toArray 32 (0, 0))]) := by
  refine fnM_body rfl rfl Tryd.func4 rfl Tryd.ntmps4 rfl ?_
  refine xp_seq ?_
  refine xp_region rfl ?_
  refine op_alloc (cs := [_, _, _, _]) rfl rfl fun b0 hb0 => ?_
  refine wp_norm [_] rfl ?_
  refine xp_seq ?_
  refine xp_region rfl ?_
  refine op_fn (caps := []) (vs := [.int .i64 _, .int .i64 _]) rfl rfl rfl (to_ok _ _ h) ?_
  rintro _ h1 E1 rfl
  refine op_fn (caps := []) (vs := [.int .i64 _, .int .i64 _]) rfl rfl rfl (to_ok _ _ h1) ?_
  rintro _ h2 E2 rfl
  refine op_fn (caps := []) (vs := [.int .i64 _, .int .i64 _]) rfl rfl rfl (to_ok _ _ h2) ?_
  rintro _ h3 E3 rfl
  refine op_buildSlice (zc := [_, _]) (vs := [(0, .agg #[.int .i64 _, .int .i64 _]), (1, .agg #[.int .i64 _, .int .i64 _]), (2, .agg #[.int .i64 _, .int .i64 _])]) (cs := [_, _, _, _, _, _]) rfl rfl rfl rfl rfl rfl rfl fun b4 hb4 => ?_
  refine wp_norm [_, _] rfl ?_
  refine op_fn (caps := []) (vs := [.int .i64 _, .int .i64 _]) rfl rfl rfl (to_ok _ _ h3) ?_
  rintro _ h4 E4 rfl
  refine op_fn (caps := []) (vs := [.int .i64 _, .int .i64 _]) rfl rfl rfl (to_ok _ _ h4) ?_
  rintro _ h5 E5 rfl
  refine op_fn (caps := []) (vs := [.int .i64 _, .int .i64 _]) rfl rfl rfl (to_ok _ _ h5) ?_
  rintro _ h6 E6 rfl
  refine op_buildSlice (zc := [_, _]) (vs := [(0, .agg #[.int .i64 _, .int .i64 _]), (1, .agg #[.int .i64 _, .int .i64 _]), (2, .agg #[.int .i64 _, .int .i64 _])]) (cs := [_, _, _, _, _, _]) rfl rfl rfl rfl rfl rfl rfl fun b8 hb8 => ?_
  refine wp_norm [_, _, _] rfl ?_
  refine op_fn (caps := []) (vs := [.int .i64 _, .int .i64 _]) rfl rfl rfl (to_ok _ _ h6) ?_
  rintro _ h7 E7 rfl
  refine op_fn (caps := []) (vs := [.int .i64 _, .int .i64 _]) rfl rfl rfl (to_ok _ _ h7) ?_
  rintro _ h8 E8 rfl
  refine op_fn (caps := []) (vs := [.int .i64 _, .int .i64 _]) rfl rfl rfl (to_ok _ _ h8) ?_
  rintro _ h9 E9 rfl
  refine op_fn (caps := []) (vs := [.int .i64 _, .int .i64 _]) rfl rfl rfl (to_ok _ _ h9) ?_
  rintro _ h10 E10 rfl
  refine op_pure (pv_build (zc := [_, _, _, _, _, _, _, _, _]) (vs := [(0, .int .i64 _), (1, .agg #[.int .i64 _, .int .i64 _]), (2, .agg #[.int .i64 _, .int .i64 _]), (3, .agg #[.int .i64 _, .int .i64 _]), (4, .agg #[.int .i64 _, .int .i64 _])]) (cs := [_, _, _, _, _, _, _, _, _]) rfl rfl rfl rfl rfl rfl) ?_
  refine op_fn (caps := []) (vs := [.int .i64 _, .int .i64 _]) rfl rfl rfl (to_ok _ _ h10) ?_
  rintro _ h11 E11 rfl
  refine op_fn (caps := []) (vs := [.int .i64 _, .int .i64 _]) rfl rfl rfl (to_ok _ _ h11) ?_
  rintro _ h12 E12 rfl
  refine op_fn (caps := []) (vs := [.int .i64 _, .int .i64 _]) rfl rfl rfl (to_ok _ _ h12) ?_
  rintro _ h13 E13 rfl
  refine op_fn (caps := []) (vs := [.int .i64 _, .int .i64 _]) rfl rfl rfl (to_ok _ _ h13) ?_
  rintro _ h14 E14 rfl
  refine op_pure (pv_build (zc := [_, _, _, _, _, _, _, _, _]) (vs := [(0, .int .i64 _), (1, .agg #[.int .i64 _, .int .i64 _]), (2, .agg #[.int .i64 _, .int .i64 _]), (3, .agg #[.int .i64 _, .int .i64 _]), (4, .agg #[.int .i64 _, .int .i64 _])]) (cs := [_, _, _, _, _, _, _, _, _]) rfl rfl rfl rfl rfl rfl) ?_
  refine op_buildSliceR (zc := [_, _, _, _, _, _, _, _, _]) [[.int .i64 _, .int .i64 _, .int .i64 _, .int .i64 _, .int .i64 _, .int .i64 _, .int .i64 _, .int .i64 _, .int .i64 _], [.int .i64 _, .int .i64 _, .int .i64 _, .int .i64 _, .int .i64 _, .int .i64 _, .int .i64 _, .int .i64 _, .int .i64 _]] rfl rfl rfl rfl rfl rfl rfl rfl fun b19 hb19 => ?_
  refine wp_norm [_, _, _, _] rfl ?_
  refine op_pure (pv_build (zc := [_, _, _, _]) (vs := [(0, .slice _ _ _), (1, .slice _ _ _), (2, .slice _ _ _)]) (cs := [_, _, _, _]) rfl rfl rfl rfl rfl rfl) ?_
  refine op_storeP 0 (v := .agg #[.slice _ _ _, .slice _ _ _, .slice _ _ _, .slice _ _ _]) (vs := [_, _, _, _]) (c' := [_, _, _, _]) rfl rfl rfl rfl rfl rfl rfl rfl rfl ?_
  refine wp_norm [_, _, _, _] rfl ?_
  refine xp_ret ?_
  refine res_list (vs := [_]) Tryd.results4 ⟨resV_agg 0 rfl rfl rfl rfl rfl (vs := [.slice _ _ _, .slice _ _ _, .slice _ _ _, .slice _ _ _]) rfl, trivial⟩ fun V => ?_
  obtain ⟨h', E, e, V'⟩ := wl_shed [_] [_, _, _] V
  exact ⟨h', _, e, V', ((Ext.trans (Ext.trans (Ext.trans (Ext.trans (Ext.trans (Ext.trans (Ext.trans (Ext.trans (Ext.trans (Ext.trans (Ext.trans (Ext.trans (Ext.trans E1 E2) E3) E4) E5) E6) E7) E8) E9) E10) E11) E12) E13) E14)).trans E, b4, b8, b19, rfl, rfl⟩
theorem season0_okC (h : AH) : FnT Tryd.prog 4 #[] h (fun v h' => ∃ p q l : Nat, v = seasonV (some ⟨p, 0, none⟩) (some ⟨q, 0, none⟩) (some ⟨l, 0, none⟩) none 3 3 2 0 season0 ∧ SeasonR h' (some ⟨p, 0, none⟩) (some ⟨q, 0, none⟩) (some ⟨l, 0, none⟩) none season0) := by
  refine call_body Tryd.func4 rfl Tryd.ntmps4 rfl ?_
  refine xp_seq ?_
  refine xp_region rfl ?_
  refine op_alloc (cs := [_, _, _, _]) rfl rfl fun b0 hb0 => ?_
  refine wp_norm [_] rfl ?_
  refine xp_seq ?_
  refine xp_region rfl ?_
  refine op_fn (caps := []) (vs := [.int .i64 _, .int .i64 _]) rfl rfl rfl (to_ok _ _ h) ?_
  rintro _ h1 E1 rfl
  refine op_fn (caps := []) (vs := [.int .i64 _, .int .i64 _]) rfl rfl rfl (to_ok _ _ h1) ?_
  rintro _ h2 E2 rfl
  refine op_fn (caps := []) (vs := [.int .i64 _, .int .i64 _]) rfl rfl rfl (to_ok _ _ h2) ?_
  rintro _ h3 E3 rfl
  refine op_buildSlice (zc := [_, _]) (vs := [(0, .agg #[.int .i64 _, .int .i64 _]), (1, .agg #[.int .i64 _, .int .i64 _]), (2, .agg #[.int .i64 _, .int .i64 _])]) (cs := [_, _, _, _, _, _]) rfl rfl rfl rfl rfl rfl rfl fun b4 hb4 => ?_
  refine wp_norm [_, _] rfl ?_
  refine op_fn (caps := []) (vs := [.int .i64 _, .int .i64 _]) rfl rfl rfl (to_ok _ _ h3) ?_
  rintro _ h4 E4 rfl
  refine op_fn (caps := []) (vs := [.int .i64 _, .int .i64 _]) rfl rfl rfl (to_ok _ _ h4) ?_
  rintro _ h5 E5 rfl
  refine op_fn (caps := []) (vs := [.int .i64 _, .int .i64 _]) rfl rfl rfl (to_ok _ _ h5) ?_
  rintro _ h6 E6 rfl
  refine op_buildSlice (zc := [_, _]) (vs := [(0, .agg #[.int .i64 _, .int .i64 _]), (1, .agg #[.int .i64 _, .int .i64 _]), (2, .agg #[.int .i64 _, .int .i64 _])]) (cs := [_, _, _, _, _, _]) rfl rfl rfl rfl rfl rfl rfl fun b8 hb8 => ?_
  refine wp_norm [_, _, _] rfl ?_
  refine op_fn (caps := []) (vs := [.int .i64 _, .int .i64 _]) rfl rfl rfl (to_ok _ _ h6) ?_
  rintro _ h7 E7 rfl
  refine op_fn (caps := []) (vs := [.int .i64 _, .int .i64 _]) rfl rfl rfl (to_ok _ _ h7) ?_
  rintro _ h8 E8 rfl
  refine op_fn (caps := []) (vs := [.int .i64 _, .int .i64 _]) rfl rfl rfl (to_ok _ _ h8) ?_
  rintro _ h9 E9 rfl
  refine op_fn (caps := []) (vs := [.int .i64 _, .int .i64 _]) rfl rfl rfl (to_ok _ _ h9) ?_
  rintro _ h10 E10 rfl
  refine op_pure (pv_build (zc := [_, _, _, _, _, _, _, _, _]) (vs := [(0, .int .i64 _), (1, .agg #[.int .i64 _, .int .i64 _]), (2, .agg #[.int .i64 _, .int .i64 _]), (3, .agg #[.int .i64 _, .int .i64 _]), (4, .agg #[.int .i64 _, .int .i64 _])]) (cs := [_, _, _, _, _, _, _, _, _]) rfl rfl rfl rfl rfl rfl) ?_
  refine op_fn (caps := []) (vs := [.int .i64 _, .int .i64 _]) rfl rfl rfl (to_ok _ _ h10) ?_
  rintro _ h11 E11 rfl
  refine op_fn (caps := []) (vs := [.int .i64 _, .int .i64 _]) rfl rfl rfl (to_ok _ _ h11) ?_
  rintro _ h12 E12 rfl
  refine op_fn (caps := []) (vs := [.int .i64 _, .int .i64 _]) rfl rfl rfl (to_ok _ _ h12) ?_
  rintro _ h13 E13 rfl
  refine op_fn (caps := []) (vs := [.int .i64 _, .int .i64 _]) rfl rfl rfl (to_ok _ _ h13) ?_
  rintro _ h14 E14 rfl
  refine op_pure (pv_build (zc := [_, _, _, _, _, _, _, _, _]) (vs := [(0, .int .i64 _), (1, .agg #[.int .i64 _, .int .i64 _]), (2, .agg #[.int .i64 _, .int .i64 _]), (3, .agg #[.int .i64 _, .int .i64 _]), (4, .agg #[.int .i64 _, .int .i64 _])]) (cs := [_, _, _, _, _, _, _, _, _]) rfl rfl rfl rfl rfl rfl) ?_
  refine op_buildSliceR (zc := [_, _, _, _, _, _, _, _, _]) [[.int .i64 _, .int .i64 _, .int .i64 _, .int .i64 _, .int .i64 _, .int .i64 _, .int .i64 _, .int .i64 _, .int .i64 _], [.int .i64 _, .int .i64 _, .int .i64 _, .int .i64 _, .int .i64 _, .int .i64 _, .int .i64 _, .int .i64 _, .int .i64 _]] rfl rfl rfl rfl rfl rfl rfl rfl fun b19 hb19 => ?_
  refine wp_norm [_, _, _, _] rfl ?_
  refine op_pure (pv_build (zc := [_, _, _, _]) (vs := [(0, .slice _ _ _), (1, .slice _ _ _), (2, .slice _ _ _)]) (cs := [_, _, _, _]) rfl rfl rfl rfl rfl rfl) ?_
  refine op_storeP 0 (v := .agg #[.slice _ _ _, .slice _ _ _, .slice _ _ _, .slice _ _ _]) (vs := [_, _, _, _]) (c' := [_, _, _, _]) rfl rfl rfl rfl rfl rfl rfl rfl rfl ?_
  refine wp_norm [_, _, _, _] rfl ?_
  refine xp_ret ?_
  refine res_list (vs := [_]) Tryd.results4 ⟨resV_agg 0 rfl rfl rfl rfl rfl (vs := [.slice _ _ _, .slice _ _ _, .slice _ _ _, .slice _ _ _]) rfl, trivial⟩ fun V => ?_
  exact ⟨(Ext.trans (Ext.trans (Ext.trans (Ext.trans (Ext.trans (Ext.trans (Ext.trans (Ext.trans (Ext.trans (Ext.trans (Ext.trans (Ext.trans (Ext.trans (Ext.trans E1 E2) E3) E4) E5) E6) E7) E8) E9) E10) E11) E12) E13) E14) (ext_wl V)), b4, b8, b19, rfl, row_of_block (enc := rgC) (m := 2) (l := season0.heats) (fun _ _ => rfl) (wl_get V (i := 1) rfl), row_of_block (enc := rgC) (m := 2) (l := season0.damps) (fun _ _ => rfl) (wl_get V (i := 2) rfl), row_of_block (enc := jointC) (m := 9) (l := season0.joints) (fun _ _ => rfl) (wl_get V (i := 3) rfl), fun _ h => (by cases h), Rd.nil _ _⟩
theorem told0_okM (h : AH) : FnM Tryd.prog (.func (.func 9) #[] ([] : List Value).toArray) [] h [] (fun v h' M' => ∃ p q l r, v = seasonV (some ⟨p, 0, none⟩) (some ⟨q, 0, none⟩) (some ⟨l, 0, none⟩) (some ⟨r, 0, none⟩) 3 3 2 1 told0 ∧
    SeasonR h' (some ⟨p, 0, none⟩) (some ⟨q, 0, none⟩) (some ⟨l, 0, none⟩) none season0 ∧ M' = [some (r, .cells (told0.reports.flatMap seenC).toArray 50 (0, 0))]) := by
  refine fnM_body rfl rfl Tryd.func9 rfl Tryd.ntmps9 rfl ?_
  refine xp_seq ?_
  refine xp_region rfl ?_
  refine op_alloc (cs := [_, _, _, _]) rfl rfl fun b0 hb0 => ?_
  refine wp_norm [_] rfl ?_
  refine xp_seq ?_
  refine xp_region rfl ?_
  refine op_fn (caps := []) (vs := []) rfl rfl rfl (season0_okC h) ?_
  rintro _ h1 E1 ⟨p, q, l, rfl, R⟩
  refine op_alloc (cs := [_, _, _, _]) rfl rfl fun b1 hb1 => ?_
  refine wp_norm [_, _] rfl ?_
  refine op_storeP 1 (v := .agg #[.slice _ _ _, .slice _ _ _, .slice _ _ _, .slice _ _ _]) (vs := [_, _, _, _]) (c' := [_, _, _, _]) rfl rfl rfl rfl rfl rfl rfl rfl rfl ?_
  refine wp_norm [_, _] rfl ?_
  refine xp_seq ?_
  refine xp_region rfl ?_
  refine op_pure (pv_build (zc := [_, _, _]) (vs := [(1, .int .i64 _), (2, .bool _)]) (cs := [_, _, _]) rfl rfl rfl rfl rfl rfl) ?_
  refine op_buildSlice (zc := [_, _, _]) (vs := [(0, .agg #[.int .i64 _, .int .i64 _, .bool _])]) (cs := [_, _, _]) rfl rfl rfl rfl rfl rfl rfl fun b4 hb4 => ?_
  refine wp_norm [_, _, _] rfl ?_
  refine op_pure (pv_fieldAddr rfl rfl rfl rfl 3 rfl) ?_
  refine op_storeP 1 (v := .slice _ _ _) (vs := [_]) (c' := [_, _, _, _]) rfl rfl rfl rfl rfl rfl rfl rfl rfl ?_
  refine wp_norm [_, _, _] rfl ?_
  refine xp_seq ?_
  refine xp_region rfl ?_
  refine op_loadPA 1 (vs := [.slice _ _ _, .slice _ _ _, .slice _ _ _, .slice _ _ _]) rfl rfl rfl rfl rfl ?_
  refine op_storeP 0 (v := .agg #[.slice _ _ _, .slice _ _ _, .slice _ _ _, .slice _ _ _]) (vs := [_, _, _, _]) (c' := [_, _, _, _]) rfl rfl rfl rfl rfl rfl rfl rfl rfl ?_
  refine wp_norm [_, _, _] rfl ?_
  refine xp_ret ?_
  refine res_list (vs := [_]) Tryd.results9 ⟨resV_agg 0 rfl rfl rfl rfl rfl (vs := [.slice _ _ _, .slice _ _ _, .slice _ _ _, .slice _ _ _]) rfl, trivial⟩ fun V => ?_
  obtain ⟨h', E, e, V'⟩ := wl_shed [_, _] [_] V
  exact ⟨h', _, e, V', (E1).trans E, p, q, l, b4, rfl, R.ext E, rfl⟩
def none0 : Season := { season0 with heats := [] }
def damps0 : Season := { season0 with damps := [⟨50, 50⟩, ⟨50, 50⟩] }
def wide0 : Season := { season0 with heats := [⟨28, 31⟩, ⟨28, 30⟩, ⟨10, 10⟩] }
def life0 : Season := { season0 with joints := [⟨1, ⟨30, 31⟩, ⟨10, 10⟩, ⟨1, 2⟩, ⟨9, 9⟩⟩, ⟨2, ⟨60, 60⟩, ⟨40, 40⟩, ⟨1, 1⟩, ⟨1, 10⟩⟩] }
def against0 : Season := { season0 with reports := [⟨0, 1, true⟩, ⟨0, 2, false⟩] }
def cold0 : Season := harderV season0 1 1 1 (-1)
def short0 : Season := ⟨[⟨20, 21⟩], [⟨50, 50⟩], [⟨1, ⟨30, 31⟩, ⟨10, 10⟩, ⟨1, 2⟩, ⟨9, 9⟩⟩], [⟨0, 0, true⟩]⟩
theorem smallN : Small none0 := ⟨by decide, by decide, by decide, by decide⟩
theorem smallD : Small damps0 := ⟨by decide, by decide, by decide, by decide⟩
theorem smallW : Small wide0 := ⟨by decide, by decide, by decide, by decide⟩
theorem smallL : Small life0 := ⟨by decide, by decide, by decide, by decide⟩
theorem smallA : Small against0 := ⟨by decide, by decide, by decide, by decide⟩
theorem smallS : Small short0 := ⟨by decide, by decide, by decide, by decide⟩
theorem smallC : Small cold0 := ⟨by decide +kernel, by decide +kernel, by decide +kernel, by decide +kernel⟩
section
variable {s : Season}
theorem kCheck (Sm : Small s) (A0 A1 A2 A3 : Option Addr) (c0 c1 c2 c3 : Nat) (h : AH) (e : Int) (he : checkM s = e) (R : SeasonR h A0 A1 A2 A3 s) : FnT Tryd.prog 7 #[seasonV A0 A1 A2 A3 c0 c1 c2 c3 s] h (fun v _ => v = .int .i64 e) := by
  subst he; exact check_ok s A0 A1 A2 A3 c0 c1 c2 c3 h R Sm.h0 Sm.h1 Sm.h2 Sm.h3
theorem kFails (Sm : Small s) (A0 A1 A2 A3 : Option Addr) (c0 c1 c2 c3 : Nat) (h : AH) (j : Int) (l : List Int) (e : Int) (he : failsE s j = e) (hl : failsL s j = l) (R : SeasonR h A0 A1 A2 A3 s) : FnT Tryd.prog 8 #[seasonV A0 A1 A2 A3 c0 c1 c2 c3 s, .int .i64 j] h (fun v h' => ∃ w, v = .tuple #[w, .int .i64 e] ∧ SlR h' 1 intC l w) := by
  subst he hl; exact Fails_ok s Sm j A0 A1 A2 A3 c0 c1 c2 c3 h R
theorem kCauses (Sm : Small s) (A0 A1 A2 A3 : Option Addr) (c0 c1 c2 c3 : Nat) (h : AH) (j : Int) (l : List Int) (e : Int) (he : failsE s j = e) (hl : causesL s j = l) (R : SeasonR h A0 A1 A2 A3 s) : FnT Tryd.prog 14 #[seasonV A0 A1 A2 A3 c0 c1 c2 c3 s, .int .i64 j] h (fun v h' => ∃ w, v = .tuple #[w, .int .i64 e] ∧ SlR h' 1 intC l w) := by
  subst he hl; exact Causes_ok s Sm j A0 A1 A2 A3 c0 c1 c2 c3 h R
theorem kWeather (Sm : Small s) (A0 A1 A2 A3 : Option Addr) (c0 c1 c2 c3 : Nat) (h : AH) (k : Int) (l : List Rg) (e : Int) (he : weatherE s k = e) (hl : weatherL s k = l) (R : SeasonR h A0 A1 A2 A3 s) : FnT Tryd.prog 10 #[seasonV A0 A1 A2 A3 c0 c1 c2 c3 s, .int .i64 k] h (fun v h' => ∃ w, v = .tuple #[w, .int .i64 e] ∧ SlR h' 2 rgC l w) := by
  subst he hl; exact Weather_ok s Sm k A0 A1 A2 A3 c0 c1 c2 c3 h R
theorem kFailed (Sm : Small s) (A0 A1 A2 A3 : Option Addr) (c0 c1 c2 c3 : Nat) (h : AH) (j w x e : Int) (he : failedE s j w = e) (hx : failedV s j w = x) (R : SeasonR h A0 A1 A2 A3 s) : FnT Tryd.prog 13 #[seasonV A0 A1 A2 A3 c0 c1 c2 c3 s, .int .i64 j, .int .i64 w] h (fun v _ => v = .tuple #[.int .i64 x, .int .i64 e]) := by
  subst he hx; exact Failed_ok s Sm j w A0 A1 A2 A3 c0 c1 c2 c3 h R
theorem kFirst (Sm : Small s) (A0 A1 A2 A3 : Option Addr) (c0 c1 c2 c3 : Nat) (h : AH) (l : List Int) (e : Int) (he : firstE s = e) (hl : firstL s = l) (R : SeasonR h A0 A1 A2 A3 s) : FnT Tryd.prog 15 #[seasonV A0 A1 A2 A3 c0 c1 c2 c3 s] h (fun v h' => ∃ w, v = .tuple #[w, .int .i64 e] ∧ SlR h' 1 intC l w) := by
  subst he hl; exact First_ok s Sm A0 A1 A2 A3 c0 c1 c2 c3 h R
theorem kSound (Sm : Small s) (A0 A1 A2 A3 : Option Addr) (c0 c1 c2 c3 : Nat) (h : AH) (w : Int) (x : Rg) (e : Int) (he : soundE s w = e) (hx : soundV s w = x) (R : SeasonR h A0 A1 A2 A3 s) : FnT Tryd.prog 16 #[seasonV A0 A1 A2 A3 c0 c1 c2 c3 s, .int .i64 w] h (fun v _ => v = .tuple #[rgV x, .int .i64 e]) := by
  subst he hx; exact Sound_ok s Sm w A0 A1 A2 A3 c0 c1 c2 c3 h R
theorem kInspect (Sm : Small s) (A0 A1 A2 A3 : Option Addr) (c0 c1 c2 c3 : Nat) (h : AH) (w : Int) (l : List Int) (e : Int) (he : inspectE s w = e) (hl : inspectL s w = l) (R : SeasonR h A0 A1 A2 A3 s) : FnT Tryd.prog 17 #[seasonV A0 A1 A2 A3 c0 c1 c2 c3 s, .int .i64 w] h (fun v h' => ∃ w, v = .tuple #[w, .int .i64 e] ∧ SlR h' 1 intC l w) := by
  subst he hl; exact Inspect_ok s Sm w A0 A1 A2 A3 c0 c1 c2 c3 h R
theorem kUnseen (Sm : Small s) (A0 A1 A2 A3 : Option Addr) (c0 c1 c2 c3 : Nat) (h : AH) (l : List Int) (hl : l.length < 2 ^ 20) (x e : Int) (he : unseenE s l = e) (hx : unseenV s l = x) (B : Option Addr) (cB : Nat) (R : SeasonR h A0 A1 A2 A3 s) (RB : Row h 1 intC B l) : FnT Tryd.prog 18 #[seasonV A0 A1 A2 A3 c0 c1 c2 c3 s, .slice B l.length cB] h (fun v _ => v = .tuple #[.int .i64 x, .int .i64 e]) := by
  subst he hx; exact Unseen_ok s Sm l hl B cB A0 A1 A2 A3 c0 c1 c2 c3 h R RB
theorem kWrong (Sm : Small s) (A0 A1 A2 A3 : Option Addr) (c0 c1 c2 c3 : Nat) (h : AH) (l : List Int) (e : Int) (he : checkM s = e) (hl : wrongL s = l) (R : SeasonR h A0 A1 A2 A3 s) : FnT Tryd.prog 19 #[seasonV A0 A1 A2 A3 c0 c1 c2 c3 s] h (fun v h' => ∃ w, v = .tuple #[w, .int .i64 e] ∧ SlR h' 1 intC l w) := by
  subst he hl; exact Wrong_ok s Sm A0 A1 A2 A3 c0 c1 c2 c3 h R
theorem kMargin (Sm : Small s) (A0 A1 A2 A3 : Option Addr) (c0 c1 c2 c3 : Nat) (h : AH) (j w x e : Int) (he : marginE s j w = e) (hx : marginV s j w = x) (R : SeasonR h A0 A1 A2 A3 s) : FnT Tryd.prog 20 #[seasonV A0 A1 A2 A3 c0 c1 c2 c3 s, .int .i64 j, .int .i64 w] h (fun v _ => v = .tuple #[.int .i64 x, .int .i64 e]) := by
  subst he hx; exact Margin_ok s Sm j w A0 A1 A2 A3 c0 c1 c2 c3 h R
theorem kHarder (Sm : Small s) (A0 A1 A2 A3 : Option Addr) (c0 c1 c2 c3 : Nat) (h : AH) (k a z d e : Int) (he : harderE s k a z d = e) (R : SeasonR h A0 A1 A2 A3 s) : FnT Tryd.prog 21 #[seasonV A0 A1 A2 A3 c0 c1 c2 c3 s, .int .i64 k, .int .i64 a, .int .i64 z, .int .i64 d] h (fun v h' => ∃ B0 B1 B2 B3 d0 d1 d2 d3, v = .tuple #[seasonV B0 B1 B2 B3 d0 d1 d2 d3 (harderV s k a z d), .int .i64 e] ∧ SeasonR h' B0 B1 B2 B3 (harderV s k a z d)) := by
  subst he
  refine (Harder_ok s Sm k a z d A0 A1 A2 A3 c0 c1 c2 c3 h R).mono (fun _ _ r => ?_) fun _ _ y => y
  obtain ⟨E0, u, rfl, B0, B1, B2, B3, d0, d1, d2, d3, rfl, R'⟩ := r
  exact ⟨E0, B0, B1, B2, B3, d0, d1, d2, d3, rfl, R'⟩
end
theorem num_short : NumS short0 := ⟨by simp [short0, RgN, ItoD], by simp [short0, RgN, ItoD], by simp [short0, RgN, ItoD], by simp [short0, RgN, ItoD]⟩
def shortText : List UInt8 := [119, 101, 101, 107, 32, 50, 48, 47, 50, 49, 32, 53, 48, 47, 53, 48, 10, 119, 97, 120, 32, 51, 48, 47, 51, 49, 32, 49, 48, 47, 49, 48, 32, 49, 47, 50, 32, 57, 47, 57, 10, 115, 101, 101, 110, 32, 48, 32, 48, 32, 102, 97, 105, 108, 101, 100, 10, 115, 112, 114, 105, 110, 103, 10]
theorem kWrite (h : AH) (PW : Pow h) (A0 A1 A2 A3 : Option Addr) (c0 c1 c2 c3 : Nat) (R : SeasonR h A0 A1 A2 A3 short0) : FnT Tryd.prog 22 #[seasonV A0 A1 A2 A3 c0 c1 c2 c3 short0] h (fun v _ => v = .tuple #[.string (bs shortText), .int .i64 0]) :=
  (WriteS_ok short0 smallS (fun _ => num_short) A0 A1 A2 A3 c0 c1 c2 c3 h PW R).mono (fun _ _ r => ⟨r.1, by
    rw [r.2, writeSV, show checkM short0 = 0 by decide +kernel, if_pos rfl, show writeS short0 = shortText by decide +kernel]⟩) fun _ _ y => y
theorem row_takeW {α : Type} {enc : α → List Value} {h : AH} {A : Option Addr} {l : List α} {m : Nat} (R : Row h m enc A l) (k : Nat) : Row h m enc A (l.take k) := by
  refine ⟨fun x hx => R.1 x (List.mem_of_mem_take hx), ?_⟩
  have h2 := rd_take R.2 ((l.take k).flatMap enc).length
  have e : (l.flatMap enc).take ((l.take k).flatMap enc).length = (l.take k).flatMap enc := by
    conv => lhs; arg 2; rw [← List.take_append_drop k l, List.flatMap_append]
    exact List.take_left
  rw [e] at h2
  exact h2
theorem sameI_k (l : List Int) (ha : l.length < 2 ^ 40) (A B : Option Addr) (ca cb : Nat) (h : AH) (Ra : Row h 1 intC A l) (Rb : Row h 1 intC B l) : FnT Tryd.prog 11 #[.slice A l.length ca, .slice B l.length cb] h (fun v _ => v = .bool true) :=
  (sameInts_ok l l A B ca cb h Ra Rb ha).mono (fun _ _ r => ⟨r.1, r.2.trans (congrArg Value.bool (decide_eq_true rfl))⟩) fun _ _ y => y
theorem sameR_k (l : List Rg) (ha : l.length < 2 ^ 40) (A B : Option Addr) (ca cb : Nat) (h : AH) (Ra : Row h 2 rgC A l) (Rb : Row h 2 rgC B l) : FnT Tryd.prog 12 #[.slice A l.length ca, .slice B l.length cb] h (fun v _ => v = .bool true) :=
  (sameRanges_ok l l A B ca cb h Ra Rb ha).mono (fun _ _ r => ⟨r.1, r.2.trans (congrArg Value.bool (decide_eq_true rfl))⟩) fun _ _ y => y
theorem rowIk (l : List Int) {h : AH} {b : Nat} (hb : h b = some (.cells (l.flatMap intC).toArray 3 (0, 0))) : Row h 1 intC (some ⟨b, 0, none⟩) l := row_of_block (enc := intC) (m := 1) (l := l) (fun _ _ => rfl) hb
theorem rowRk (l : List Rg) {h : AH} {b : Nat} (hb : h b = some (.cells (l.flatMap rgC).toArray 29 (0, 0))) : Row h 2 rgC (some ⟨b, 0, none⟩) l := row_of_block (enc := rgC) (m := 2) (l := l) (fun _ _ => rfl) hb
theorem rowJk (l : List Joint) {h : AH} {b : Nat} (hb : h b = some (.cells (l.flatMap jointC).toArray 32 (0, 0))) : Row h 9 jointC (some ⟨b, 0, none⟩) l := row_of_block (enc := jointC) (m := 9) (l := l) (fun _ _ => rfl) hb
theorem rowSk (l : List Seen) {h : AH} {b : Nat} (hb : h b = some (.cells (l.flatMap seenC).toArray 50 (0, 0))) : Row h 3 seenC (some ⟨b, 0, none⟩) l := row_of_block (enc := seenC) (m := 3) (l := l) (fun _ _ => rfl) hb
end
end Go.Proofs.YtboigjfgpppeaaaDoor
/- Walks: WaxKnown. Conditions: as each theorem states. -/
namespace Go.Proofs.YtboigjfgpppeaaaDoor
open Go Go.HL Go.Proofs Go.Wx Go.Rd Go.RowKit
section
variable [Lvl]
set_option maxRecDepth 100000
theorem rgSelf (a : Rg) : pev Tryd.prog (Op.equalIn Op.maxDepth 29 (.agg (rgC a).toArray) (.agg (rgC a).toArray)) = some true := (rgEq a a).trans (by simp)
theorem rowI0 (h : AH) : Row h 1 intC none [] := ⟨fun _ h => (by cases h), Rd.nil _ _⟩
theorem accB {e : TypeId} {m b n : Nat} {cs : List Value} (hl : cs.length = n * m) (hc : n * m = n * m) : AccR e m cs ⟨some (b, .cells cs.toArray e (0, 0)), some ⟨b, 0, none⟩, n, n⟩ := .inr ⟨b, n, n, [], hl, rfl, by simp, by simp [hl]⟩
end
set_option maxRecDepth 100000
set_option maxHeartbeats 16000000 in
theorem known_calls (w : World) (hP : Pow (absH w.heap)) : Calls Tryd.prog 3 #[] w (fun e w' => e = .returned (.bool true) ∧ Below w.heap.size w w') := by
  letI : Lvl := ⟨false, none, none⟩
  refine calls_body Tryd.func3 rfl Tryd.ntmps3 rfl Tryd.results3 rfl fun h hh => ?_
  rw [← hh] at hP
  refine xp_seq ?_
  refine xp_region rfl ?_
  refine op_pure (pv_assign (v := .bool _) rfl) ?_
  refine xp_seq ?_
  refine xp_region rfl ?_
  refine op_fn (caps := []) (vs := []) rfl rfl rfl (season0_ok h) ?_
  rintro _ h1 E1 ⟨AN0, AN1, AN2, AN3, cN0, cN1, cN2, cN3, rfl, RN⟩
  refine op_fn (caps := []) (vs := []) rfl rfl rfl (season0_okC h1) ?_
  rintro _ h2 E2 ⟨dp, dq, dl, rfl, RD⟩
  refine op_fnMM [] [] [] rfl rfl rfl (season0_okM h2) ?_
  rintro _ h3 _ E3 ⟨pH, pD, pJ, rfl, rfl⟩
  refine wp_norm [_, _, _] rfl ?_
  refine op_fnMM [_, _, _] [] [] rfl rfl rfl (season0_okM h3) ?_
  rintro _ h4 _ E4 ⟨qH, qD, qJ, rfl, rfl⟩
  refine wp_norm [_, _, _, _, _, _] rfl ?_
  refine op_alloc (cs := [_, _, _, _]) rfl rfl fun b1 hb1 => ?_
  refine wp_norm [_, _, _, _, _, _, _] rfl ?_
  refine op_alloc (cs := [_, _, _, _]) rfl rfl fun b2 hb2 => ?_
  refine wp_norm [_, _, _, _, _, _, _, _] rfl ?_
  refine op_alloc (cs := [_, _, _, _]) rfl rfl fun b3 hb3 => ?_
  refine wp_norm [_, _, _, _, _, _, _, _, _] rfl ?_
  refine op_alloc (cs := [_, _, _, _]) rfl rfl fun b4 hb4 => ?_
  refine wp_norm [_, _, _, _, _, _, _, _, _, _] rfl ?_
  refine op_storeP 6 (v := .agg #[.slice _ _ _, .slice _ _ _, .slice _ _ _, .slice _ _ _]) (vs := [_, _, _, _]) (c' := [_, _, _, _]) rfl rfl rfl rfl rfl rfl rfl rfl rfl ?_
  refine wp_norm [_, _, _, _, _, _, _, _, _, _] rfl ?_
  refine op_storeP 7 (v := .agg #[.slice _ _ _, .slice _ _ _, .slice _ _ _, .slice _ _ _]) (vs := [_, _, _, _]) (c' := [_, _, _, _]) rfl rfl rfl rfl rfl rfl rfl rfl rfl ?_
  refine wp_norm [_, _, _, _, _, _, _, _, _, _] rfl ?_
  refine op_storeP 8 (v := .agg #[.slice _ _ _, .slice _ _ _, .slice _ _ _, .slice _ _ _]) (vs := [_, _, _, _]) (c' := [_, _, _, _]) rfl rfl rfl rfl rfl rfl rfl rfl rfl ?_
  refine wp_norm [_, _, _, _, _, _, _, _, _, _] rfl ?_
  refine op_storeP 9 (v := .agg #[.slice _ _ _, .slice _ _ _, .slice _ _ _, .slice _ _ _]) (vs := [_, _, _, _]) (c' := [_, _, _, _]) rfl rfl rfl rfl rfl rfl rfl rfl rfl ?_
  refine wp_norm [_, _, _, _, _, _, _, _, _, _] rfl ?_
  refine xp_seq ?_
  refine xp_dw2 rfl rfl rfl ?_
  refine dw2_pure (i := 0) rfl (by decide +kernel) (pv_fieldAddr rfl rfl rfl rfl 0 rfl) ?_
  refine dw2_load (i := 1) (v := .slice _ _ _) rfl (by decide +kernel) rfl rfl (fun V => cell_priv V (j := 8) rfl rfl) ?_
  refine dw2_pure (i := 2) rfl (by decide +kernel) (pv_fieldAddr rfl rfl rfl rfl 2 rfl) ?_
  refine dw2_load (i := 3) (v := .slice _ _ _) rfl (by decide +kernel) rfl rfl (fun V => cell_priv V (j := 9) rfl rfl) ?_
  refine dw2_pure (i := 4) rfl (by decide +kernel) (pv_fieldAddr rfl rfl rfl rfl 1 rfl) ?_
  refine dw2_load (i := 5) (v := .slice _ _ _) rfl (by decide +kernel) rfl rfl (fun V => cell_priv V (j := 7) rfl rfl) ?_
  refine dw2_pure (i := 6) rfl (by decide +kernel) (pv_sliceHi (m := 2) 2 rfl rfl rfl rfl rfl (by decide)) ?_
  refine dw2_eff (i := 7) (C' := _) rfl (by decide +kernel) (fun c hc => hc) (fun c hc => .inl hc) ?_
  refine op_fn (caps := []) (vs := [.int .i64 _, .int .i64 _]) rfl rfl rfl (to_ok _ _ _) ?_
  rintro _ e1 Fe1 rfl
  refine ⟨fun V c hc => ?_, ?_⟩
  · simp only [List.mem_cons, List.not_mem_nil, or_false] at hc
    rcases hc with rfl | rfl | rfl
    · exact cell_priv V (j := 7) rfl rfl
    · exact cell_priv V (j := 9) rfl rfl
    · exact cell_priv V (j := 8) rfl rfl
  refine dw2_eff (i := 8) (C' := _) rfl (by decide +kernel) (fun c hc => hc) (fun c hc => .inl hc) ?_
  refine op_fn (caps := []) (vs := [.int .i64 _, .int .i64 _]) rfl rfl rfl (to_ok _ _ _) ?_
  rintro _ e2 Fe2 rfl
  refine ⟨fun V c hc => ?_, ?_⟩
  · simp only [List.mem_cons, List.not_mem_nil, or_false] at hc
    rcases hc with rfl | rfl | rfl
    · exact cell_priv V (j := 7) rfl rfl
    · exact cell_priv V (j := 9) rfl rfl
    · exact cell_priv V (j := 8) rfl rfl
  refine dw2_pure (i := 9) rfl (by decide +kernel) (pv_fieldAddr rfl rfl rfl rfl 0 rfl) ?_
  refine dw2_eff (i := 10) (C' := _) rfl (by decide +kernel) (fun c hc => hc) (fun c hc => .inl hc) ?_
  refine op_storeP 6 (v := .slice _ _ _) (vs := [_]) (c' := [_, _, _, _]) rfl rfl rfl rfl rfl rfl rfl rfl rfl ?_
  refine ⟨fun V c hc => ?_, ?_⟩
  · simp only [List.mem_cons, List.not_mem_nil, or_false] at hc
    rcases hc with rfl | rfl | rfl
    · exact cell_priv V (j := 7) rfl rfl
    · exact cell_priv V (j := 9) rfl rfl
    · exact cell_priv V (j := 8) rfl rfl
  refine dw2_pure (i := 11) rfl (by decide +kernel) (pv_fieldAddr rfl rfl rfl rfl 1 rfl) ?_
  refine dw2_eff (i := 12) (C' := _) rfl (by decide +kernel) (fun c hc => List.mem_cons_of_mem _ hc) (fun c hc => ?_) ?_
  · rcases List.mem_cons.1 hc with rfl | hc
    · exact .inr (by show el 12 (blk _ 5) = true; decide +kernel)
    · exact .inl hc
  refine op_storeP 7 (v := .slice _ _ _) (vs := [_]) (c' := [_, _, _, _]) rfl rfl rfl rfl rfl rfl rfl rfl rfl ?_
  refine ⟨fun V c hc => ?_, ?_⟩
  · simp only [List.mem_cons, List.not_mem_nil, or_false] at hc
    rcases hc with rfl | rfl
    · exact cell_priv V (j := 9) rfl rfl
    · exact cell_priv V (j := 8) rfl rfl
  refine dw2_pure (i := 13) rfl (by decide +kernel) (pv_index (m := 2) rfl rfl rfl rfl (by decide) (by decide)) ?_
  refine dw2_eff (i := 14) (C' := _) rfl (by decide +kernel) (fun c hc => hc) (fun c hc => .inl hc) ?_
  refine op_storeP 0 (v := .agg #[_, _]) (vs := [_, _]) (c' := [_, _, _, _, _, _]) rfl rfl rfl rfl rfl rfl rfl rfl rfl ?_
  refine ⟨fun V c hc => ?_, ?_⟩
  · simp only [List.mem_cons, List.not_mem_nil, or_false] at hc
    rcases hc with rfl | rfl
    · exact cell_priv V (j := 9) rfl rfl
    · exact cell_priv V (j := 8) rfl rfl
  refine dw2_pure (i := 15) rfl (by decide +kernel) (pv_index (m := 9) rfl rfl rfl rfl (by decide) (by decide)) ?_
  refine dw2_pure (i := 16) rfl (by decide +kernel) (pv_fieldAddr rfl rfl rfl rfl 16 rfl) ?_
  refine dw2_eff (i := 17) (C' := _) rfl (by decide +kernel) (fun c hc => hc) (fun c hc => .inl hc) ?_
  refine op_storeP 5 (v := .agg #[_, _]) (vs := [_, _]) (c' := [_, _, _, _, _, _, _, _, _, _, _, _, _, _, _, _, _, _]) rfl rfl rfl rfl rfl rfl rfl rfl rfl ?_
  refine ⟨fun V c hc => ?_, ?_⟩
  · simp only [List.mem_cons, List.not_mem_nil, or_false] at hc
    rcases hc with rfl | rfl
    · exact cell_priv V (j := 9) rfl rfl
    · exact cell_priv V (j := 8) rfl rfl
  refine dw2_end rfl ?_
  refine goes_norm [_, _, _, _, _, _, _, _, _, _] rfl ?_
  refine goes_pub 0 rfl ?_
  intro g1 G1 P1
  refine goes_pub 1 rfl ?_
  intro g2 G2 P2
  refine goes_pub 2 rfl ?_
  intro g3 G3 P3
  refine goes_pub 3 rfl ?_
  intro g4 G4 P4
  refine goes_pub 4 rfl ?_
  intro g5 G5 P5
  refine goes_pub 5 rfl ?_
  intro g6 G6 P6
  have RW : SeasonR g6 (some ⟨pH, 0, none⟩) (some ⟨pD, 0, none⟩) (some ⟨pJ, 0, none⟩) none wide0 := ⟨rowRk wide0.heats ((Ext.trans (Ext.trans (Ext.trans (Ext.trans G2 G3) G4) G5) G6) _ _ P1), rowRk wide0.damps ((Ext.trans (Ext.trans (Ext.trans G3 G4) G5) G6) _ _ P2), rowJk wide0.joints ((Ext.trans (Ext.trans G4 G5) G6) _ _ P3), fun _ h => (by cases h), Rd.nil _ _⟩
  have RL : SeasonR g6 (some ⟨qH, 0, none⟩) (some ⟨qD, 0, none⟩) (some ⟨qJ, 0, none⟩) none life0 := ⟨rowRk life0.heats ((Ext.trans G5 G6) _ _ P4), rowRk life0.damps (G6 _ _ P5), rowJk life0.joints P6, fun _ h => (by cases h), Rd.nil _ _⟩
  have RN0 : SeasonR g6 none AN1 AN2 AN3 none0 := ⟨⟨fun _ h => (by cases h), Rd.nil _ _⟩, (RN.ext (Ext.trans (Ext.trans (Ext.trans (Ext.trans (Ext.trans (Ext.trans (Ext.trans (Ext.trans (Ext.trans (Ext.trans E2 E3) E4) Fe1) Fe2) G1) G2) G3) G4) G5) G6)).damps, (RN.ext (Ext.trans (Ext.trans (Ext.trans (Ext.trans (Ext.trans (Ext.trans (Ext.trans (Ext.trans (Ext.trans (Ext.trans E2 E3) E4) Fe1) Fe2) G1) G2) G3) G4) G5) G6)).joints, (RN.ext (Ext.trans (Ext.trans (Ext.trans (Ext.trans (Ext.trans (Ext.trans (Ext.trans (Ext.trans (Ext.trans (Ext.trans E2 E3) E4) Fe1) Fe2) G1) G2) G3) G4) G5) G6)).reports⟩
  have RD0 : SeasonR g6 (some ⟨dp, 0, none⟩) (some ⟨dq, 0, none⟩) (some ⟨dl, 0, none⟩) none damps0 := ⟨(RD.ext (Ext.trans (Ext.trans (Ext.trans (Ext.trans (Ext.trans (Ext.trans (Ext.trans (Ext.trans (Ext.trans E3 E4) Fe1) Fe2) G1) G2) G3) G4) G5) G6)).heats, row_takeW (RD.ext (Ext.trans (Ext.trans (Ext.trans (Ext.trans (Ext.trans (Ext.trans (Ext.trans (Ext.trans (Ext.trans E3 E4) Fe1) Fe2) G1) G2) G3) G4) G5) G6)).damps 2, (RD.ext (Ext.trans (Ext.trans (Ext.trans (Ext.trans (Ext.trans (Ext.trans (Ext.trans (Ext.trans (Ext.trans E3 E4) Fe1) Fe2) G1) G2) G3) G4) G5) G6)).joints, (RD.ext (Ext.trans (Ext.trans (Ext.trans (Ext.trans (Ext.trans (Ext.trans (Ext.trans (Ext.trans (Ext.trans E3 E4) Fe1) Fe2) G1) G2) G3) G4) G5) G6)).reports⟩
  refine goes_norm [_, _, _, _, _, _, _, _, _, _] rfl ?_
  refine xp_seq ?_
  refine xp_seq ?_
  refine xp_region rfl ?_
  refine op_fn (caps := []) (vs := []) rfl rfl rfl (warm_ok g6) ?_
  rintro _ h7 E7 rfl
  refine op_pure (pv_of (v := .bool _) rfl) ?_
  refine op_pure (pv_move (v := .bool _) rfl) ?_
  refine guard_yes rfl rfl ?_
  refine op_fn (caps := []) (vs := []) rfl rfl rfl (season0_ok h7) ?_
  rintro _ h11 E11 ⟨A110, A111, A112, A113, c110, c111, c112, c113, rfl, R11⟩
  refine guard_yes rfl rfl ?_
  refine op_fn (caps := []) (vs := [.agg #[.slice _ _ _, .slice _ _ _, .slice _ _ _, .slice _ _ _]]) rfl rfl rfl (kCheck small0 _ _ _ _ _ _ _ _ h11 0 (by decide +kernel) R11) ?_
  rintro _ h12 E12 rfl
  refine guard_yes rfl rfl ?_
  refine op_pure (pv_of (v := .bool _) rfl) ?_
  refine op_pure (pv_pickF rfl rfl (v := .bool _) rfl) ?_
  refine op_pure (pv_move (v := .bool _) rfl) ?_
  refine guard_yes rfl rfl ?_
  refine op_loadPA 6 (vs := [.slice _ _ _, .slice _ _ _, .slice _ _ _, .slice _ _ _]) rfl rfl rfl rfl rfl ?_
  refine guard_yes rfl rfl ?_
  refine op_fn (caps := []) (vs := [.agg #[.slice _ _ _, .slice _ _ _, .slice _ _ _, .slice _ _ _]]) rfl rfl rfl (kCheck smallN _ _ _ _ _ _ _ _ h12 7 (by decide +kernel) (RN0.ext (Ext.trans (Ext.trans E7 E11) E12))) ?_
  rintro _ h13 E13 rfl
  refine guard_yes rfl rfl ?_
  refine op_pure (pv_of (v := .bool _) rfl) ?_
  refine op_pure (pv_pickF rfl rfl (v := .bool _) rfl) ?_
  refine op_pure (pv_move (v := .bool _) rfl) ?_
  refine guard_yes rfl rfl ?_
  refine op_loadPA 7 (vs := [.slice _ _ _, .slice _ _ _, .slice _ _ _, .slice _ _ _]) rfl rfl rfl rfl rfl ?_
  refine guard_yes rfl rfl ?_
  refine op_fn (caps := []) (vs := [.agg #[.slice _ _ _, .slice _ _ _, .slice _ _ _, .slice _ _ _]]) rfl rfl rfl (kCheck smallD _ _ _ _ _ _ _ _ h13 7 (by decide +kernel) (RD0.ext (Ext.trans (Ext.trans (Ext.trans E7 E11) E12) E13))) ?_
  rintro _ h14 E14 rfl
  refine guard_yes rfl rfl ?_
  refine op_pure (pv_of (v := .bool _) rfl) ?_
  refine op_pure (pv_pickF rfl rfl (v := .bool _) rfl) ?_
  refine op_pure (pv_move (v := .bool _) rfl) ?_
  refine guard_yes rfl rfl ?_
  refine op_loadPA 8 (vs := [.slice _ _ _, .slice _ _ _, .slice _ _ _, .slice _ _ _]) rfl rfl rfl rfl rfl ?_
  refine guard_yes rfl rfl ?_
  refine op_fn (caps := []) (vs := [.agg #[.slice _ _ _, .slice _ _ _, .slice _ _ _, .slice _ _ _]]) rfl rfl rfl (kCheck smallW _ _ _ _ _ _ _ _ h14 1 (by decide +kernel) (RW.ext (Ext.trans (Ext.trans (Ext.trans (Ext.trans E7 E11) E12) E13) E14))) ?_
  rintro _ h15 E15 rfl
  refine guard_yes rfl rfl ?_
  refine op_pure (pv_of (v := .bool _) rfl) ?_
  refine op_pure (pv_pickF rfl rfl (v := .bool _) rfl) ?_
  refine op_pure (pv_move (v := .bool _) rfl) ?_
  refine guard_yes rfl rfl ?_
  refine op_loadPA 9 (vs := [.slice _ _ _, .slice _ _ _, .slice _ _ _, .slice _ _ _]) rfl rfl rfl rfl rfl ?_
  refine guard_yes rfl rfl ?_
  refine op_fn (caps := []) (vs := [.agg #[.slice _ _ _, .slice _ _ _, .slice _ _ _, .slice _ _ _]]) rfl rfl rfl (kCheck smallL _ _ _ _ _ _ _ _ h15 1 (by decide +kernel) (RL.ext (Ext.trans (Ext.trans (Ext.trans (Ext.trans (Ext.trans E7 E11) E12) E13) E14) E15))) ?_
  rintro _ h16 E16 rfl
  refine guard_yes rfl rfl ?_
  refine op_pure (pv_of (v := .bool _) rfl) ?_
  refine op_pure (pv_pickF rfl rfl (v := .bool _) rfl) ?_
  refine xp_condF rfl (rfl) ?_
  refine xp_skip ?_
  refine xp_seq ?_
  refine xp_region rfl ?_
  refine op_fn (caps := []) (vs := []) rfl rfl rfl (season0_ok h16) ?_
  rintro _ h17 E17 ⟨A170, A171, A172, A173, c170, c171, c172, c173, rfl, R17⟩
  refine op_fn (caps := []) (vs := [.agg #[.slice _ _ _, .slice _ _ _, .slice _ _ _, .slice _ _ _], .int .i64 _]) rfl rfl rfl (kFails small0 _ _ _ _ _ _ _ _ h17 1 [1, 2] 0 (by decide +kernel) (by decide +kernel) R17) ?_
  rintro _ h18 E18 ⟨_, rfl, B18, d18, rfl, S18⟩
  refine op_pure (pv_move (v := .tuple #[.slice _ _ _, .int .i64 _]) rfl) ?_
  refine op_pure (pv_of (v := .slice _ _ _) rfl) ?_
  refine op_pure (pv_of (v := .int .i64 _) rfl) ?_
  refine op_pure (pv_assign (v := .slice _ _ _) rfl) ?_
  refine op_pure (pv_assign (v := .int .i64 _) rfl) ?_
  refine xp_seq ?_
  refine xp_region rfl ?_
  refine op_fn (caps := []) (vs := []) rfl rfl rfl (told0_ok h18) ?_
  rintro _ h19 E19 ⟨A190, A191, A192, A193, c190, c191, c192, c193, rfl, R19⟩
  refine op_fn (caps := []) (vs := [.agg #[.slice _ _ _, .slice _ _ _, .slice _ _ _, .slice _ _ _], .int .i64 _]) rfl rfl rfl (kFails smallT _ _ _ _ _ _ _ _ h19 0 [1] 0 (by decide +kernel) (by decide +kernel) R19) ?_
  rintro _ h20 E20 ⟨_, rfl, B20, d20, rfl, S20⟩
  refine op_pure (pv_move (v := .tuple #[.slice _ _ _, .int .i64 _]) rfl) ?_
  refine op_pure (pv_of (v := .slice _ _ _) rfl) ?_
  refine op_pure (pv_of (v := .int .i64 _) rfl) ?_
  refine op_pure (pv_assign (v := .slice _ _ _) rfl) ?_
  refine op_pure (pv_assign (v := .int .i64 _) rfl) ?_
  refine xp_seq ?_
  refine xp_region rfl ?_
  refine op_fn (caps := []) (vs := []) rfl rfl rfl (season0_ok h20) ?_
  rintro _ h21 E21 ⟨A210, A211, A212, A213, c210, c211, c212, c213, rfl, R21⟩
  refine op_fn (caps := []) (vs := [.agg #[.slice _ _ _, .slice _ _ _, .slice _ _ _, .slice _ _ _], .int .i64 _]) rfl rfl rfl (kWeather small0 _ _ _ _ _ _ _ _ h21 1 season0.heats 0 (by decide +kernel) (by decide +kernel) R21) ?_
  rintro _ h22 E22 ⟨_, rfl, B22, d22, rfl, S22⟩
  refine op_pure (pv_move (v := .tuple #[.slice _ _ _, .int .i64 _]) rfl) ?_
  refine op_pure (pv_of (v := .slice _ _ _) rfl) ?_
  refine op_pure (pv_of (v := .int .i64 _) rfl) ?_
  refine op_pure (pv_assign (v := .slice _ _ _) rfl) ?_
  refine op_pure (pv_assign (v := .int .i64 _) rfl) ?_
  refine xp_seq ?_
  refine xp_region rfl ?_
  refine op_fn (caps := []) (vs := []) rfl rfl rfl (told0_ok h22) ?_
  rintro _ h23 E23 ⟨A230, A231, A232, A233, c230, c231, c232, c233, rfl, R23⟩
  refine op_fn (caps := []) (vs := [.agg #[.slice _ _ _, .slice _ _ _, .slice _ _ _, .slice _ _ _], .int .i64 _]) rfl rfl rfl (kWeather smallT _ _ _ _ _ _ _ _ h23 1 [⟨20, 21⟩, ⟨30, 30⟩, ⟨10, 10⟩] 0 (by decide +kernel) (by decide +kernel) R23) ?_
  rintro _ h24 E24 ⟨_, rfl, B24, d24, rfl, S24⟩
  refine op_pure (pv_move (v := .tuple #[.slice _ _ _, .int .i64 _]) rfl) ?_
  refine op_pure (pv_of (v := .slice _ _ _) rfl) ?_
  refine op_pure (pv_of (v := .int .i64 _) rfl) ?_
  refine op_pure (pv_assign (v := .slice _ _ _) rfl) ?_
  refine op_pure (pv_assign (v := .int .i64 _) rfl) ?_
  refine xp_seq ?_
  refine xp_seq ?_
  refine xp_region rfl ?_
  refine op_pure (pv_move (v := .int .i64 _) rfl) ?_
  refine op_pure (pv_of (v := .bool _) rfl) ?_
  refine op_pure (pv_move (v := .bool _) rfl) ?_
  refine guard_yes rfl rfl ?_
  refine op_pure (pv_move (v := .int .i64 _) rfl) ?_
  refine guard_yes rfl rfl ?_
  refine op_pure (pv_of (v := .bool _) rfl) ?_
  refine op_pure (pv_pickF rfl rfl (v := .bool _) rfl) ?_
  refine op_pure (pv_move (v := .bool _) rfl) ?_
  refine guard_yes rfl rfl ?_
  refine op_pure (pv_move (v := .int .i64 _) rfl) ?_
  refine guard_yes rfl rfl ?_
  refine op_pure (pv_of (v := .bool _) rfl) ?_
  refine op_pure (pv_pickF rfl rfl (v := .bool _) rfl) ?_
  refine op_pure (pv_move (v := .bool _) rfl) ?_
  refine guard_yes rfl rfl ?_
  refine op_pure (pv_move (v := .int .i64 _) rfl) ?_
  refine guard_yes rfl rfl ?_
  refine op_pure (pv_of (v := .bool _) rfl) ?_
  refine op_pure (pv_pickF rfl rfl (v := .bool _) rfl) ?_
  refine op_pure (pv_move (v := .bool _) rfl) ?_
  refine guard_yes rfl rfl ?_
  refine op_pure (pv_move (v := .slice _ _ _) rfl) ?_
  refine guard_yes rfl rfl ?_
  refine op_buildSlice (zc := [_]) (vs := [(0, .int .i64 _), (1, .int .i64 _)]) (cs := [_, _]) rfl rfl rfl rfl rfl rfl rfl fun b106 hb106 => ?_
  refine wp_norm [_, _, _, _, _, _, _, _, _, _, _] rfl ?_
  refine guard_yes rfl rfl ?_
  refine wp_pub 10 rfl rfl ?_
  intro g20 G20 P20
  refine wp_norm [_, _, _, _, _, _, _, _, _, _, _] rfl ?_
  refine wp_norm [_, _, _, _, _, _, _, _, _, _, _] rfl ?_
  refine op_fn (caps := []) (vs := [.slice _ _ _, .slice _ _ _]) rfl rfl rfl (sameI_k [1, 2] (by decide) _ _ _ _ g20 (S18.ext (Ext.trans (Ext.trans (Ext.trans (Ext.trans (Ext.trans (Ext.trans E19 E20) E21) E22) E23) E24) G20)) (rowIk [1, 2] ((Ext.refl _) _ _ P20))) ?_
  rintro _ h25 E25 rfl
  refine guard_yes rfl rfl ?_
  refine op_pure (pv_of (v := .bool _) rfl) ?_
  refine op_pure (pv_pickF rfl rfl (v := .bool _) rfl) ?_
  refine op_pure (pv_move (v := .bool _) rfl) ?_
  refine guard_yes rfl rfl ?_
  refine op_pure (pv_move (v := .slice _ _ _) rfl) ?_
  refine guard_yes rfl rfl ?_
  refine op_buildSlice (zc := [_]) (vs := [(0, .int .i64 _)]) (cs := [_]) rfl rfl rfl rfl rfl rfl rfl fun b112 hb112 => ?_
  refine wp_norm [_, _, _, _, _, _, _, _, _, _, _, _] rfl ?_
  refine guard_yes rfl rfl ?_
  refine wp_pub 11 rfl rfl ?_
  intro g21 G21 P21
  refine wp_norm [_, _, _, _, _, _, _, _, _, _, _, _] rfl ?_
  refine wp_norm [_, _, _, _, _, _, _, _, _, _, _, _] rfl ?_
  refine op_fn (caps := []) (vs := [.slice _ _ _, .slice _ _ _]) rfl rfl rfl (sameI_k [1] (by decide) _ _ _ _ g21 (S20.ext (Ext.trans (Ext.trans (Ext.trans (Ext.trans (Ext.trans (Ext.trans E21 E22) E23) E24) G20) E25) G21)) (rowIk [1] ((Ext.refl _) _ _ P21))) ?_
  rintro _ h26 E26 rfl
  refine guard_yes rfl rfl ?_
  refine op_pure (pv_of (v := .bool _) rfl) ?_
  refine op_pure (pv_pickF rfl rfl (v := .bool _) rfl) ?_
  refine op_pure (pv_move (v := .bool _) rfl) ?_
  refine guard_yes rfl rfl ?_
  refine op_pure (pv_move (v := .slice _ _ _) rfl) ?_
  refine guard_yes rfl rfl ?_
  refine op_fn (caps := []) (vs := []) rfl rfl rfl (season0_ok h26) ?_
  rintro _ h27 E27 ⟨A270, A271, A272, A273, c270, c271, c272, c273, rfl, R27⟩
  refine guard_yes rfl rfl ?_
  refine op_pure (pv_of (v := .slice _ _ _) rfl) ?_
  refine guard_yes rfl rfl ?_
  refine op_fn (caps := []) (vs := [.slice _ _ _, .slice _ _ _]) rfl rfl rfl (sameR_k season0.heats (by decide) _ _ _ _ h27 (S22.ext (Ext.trans (Ext.trans (Ext.trans (Ext.trans (Ext.trans (Ext.trans E23 E24) G20) E25) G21) E26) E27)) R27.heats) ?_
  rintro _ h28 E28 rfl
  refine guard_yes rfl rfl ?_
  refine op_pure (pv_of (v := .bool _) rfl) ?_
  refine op_pure (pv_pickF rfl rfl (v := .bool _) rfl) ?_
  refine op_pure (pv_move (v := .bool _) rfl) ?_
  refine guard_yes rfl rfl ?_
  refine op_pure (pv_move (v := .slice _ _ _) rfl) ?_
  refine guard_yes rfl rfl ?_
  refine op_fn (caps := []) (vs := [.int .i64 _, .int .i64 _]) rfl rfl rfl (to_ok _ _ h28) ?_
  rintro _ h29 E29 rfl
  refine guard_yes rfl rfl ?_
  refine op_fn (caps := []) (vs := [.int .i64 _, .int .i64 _]) rfl rfl rfl (to_ok _ _ h29) ?_
  rintro _ h30 E30 rfl
  refine guard_yes rfl rfl ?_
  refine op_fn (caps := []) (vs := [.int .i64 _, .int .i64 _]) rfl rfl rfl (to_ok _ _ h30) ?_
  rintro _ h31 E31 rfl
  refine guard_yes rfl rfl ?_
  refine op_buildSlice (zc := [_, _]) (vs := [(0, .agg #[.int .i64 _, .int .i64 _]), (1, .agg #[.int .i64 _, .int .i64 _]), (2, .agg #[.int .i64 _, .int .i64 _])]) (cs := [_, _, _, _, _, _]) rfl rfl rfl rfl rfl rfl rfl fun b128 hb128 => ?_
  refine wp_norm [_, _, _, _, _, _, _, _, _, _, _, _, _] rfl ?_
  refine guard_yes rfl rfl ?_
  refine wp_pub 12 rfl rfl ?_
  intro g22 G22 P22
  refine wp_norm [_, _, _, _, _, _, _, _, _, _, _, _, _] rfl ?_
  refine wp_norm [_, _, _, _, _, _, _, _, _, _, _, _, _] rfl ?_
  refine op_fn (caps := []) (vs := [.slice _ _ _, .slice _ _ _]) rfl rfl rfl (sameR_k [⟨20, 21⟩, ⟨30, 30⟩, ⟨10, 10⟩] (by decide) _ _ _ _ g22 (S24.ext (Ext.trans (Ext.trans (Ext.trans (Ext.trans (Ext.trans (Ext.trans (Ext.trans (Ext.trans (Ext.trans G20 E25) G21) E26) E27) E28) E29) E30) E31) G22)) (rowRk [⟨20, 21⟩, ⟨30, 30⟩, ⟨10, 10⟩] ((Ext.refl _) _ _ P22))) ?_
  rintro _ h32 E32 rfl
  refine guard_yes rfl rfl ?_
  refine op_pure (pv_of (v := .bool _) rfl) ?_
  refine op_pure (pv_pickF rfl rfl (v := .bool _) rfl) ?_
  refine xp_condF rfl (rfl) ?_
  refine xp_skip ?_
  refine xp_seq ?_
  refine xp_region rfl ?_
  refine op_fn (caps := []) (vs := []) rfl rfl rfl (season0_ok h32) ?_
  rintro _ h33 E33 ⟨A330, A331, A332, A333, c330, c331, c332, c333, rfl, R33⟩
  refine op_fn (caps := []) (vs := [.agg #[.slice _ _ _, .slice _ _ _, .slice _ _ _, .slice _ _ _], .int .i64 _, .int .i64 _]) rfl rfl rfl (kFailed small0 _ _ _ _ _ _ _ _ h33 0 1 3 0 (by decide +kernel) (by decide +kernel) R33) ?_
  rintro _ h34 E34 rfl
  refine op_pure (pv_move (v := .tuple #[.int .i64 _, .int .i64 _]) rfl) ?_
  refine op_pure (pv_of (v := .int .i64 _) rfl) ?_
  refine op_pure (pv_of (v := .int .i64 _) rfl) ?_
  refine op_pure (pv_assign (v := .int .i64 _) rfl) ?_
  refine op_pure (pv_assign (v := .int .i64 _) rfl) ?_
  refine xp_seq ?_
  refine xp_region rfl ?_
  refine op_fn (caps := []) (vs := []) rfl rfl rfl (season0_ok h34) ?_
  rintro _ h35 E35 ⟨A350, A351, A352, A353, c350, c351, c352, c353, rfl, R35⟩
  refine op_fn (caps := []) (vs := [.agg #[.slice _ _ _, .slice _ _ _, .slice _ _ _, .slice _ _ _], .int .i64 _, .int .i64 _]) rfl rfl rfl (kFailed small0 _ _ _ _ _ _ _ _ h35 0 0 2 0 (by decide +kernel) (by decide +kernel) R35) ?_
  rintro _ h36 E36 rfl
  refine op_pure (pv_move (v := .tuple #[.int .i64 _, .int .i64 _]) rfl) ?_
  refine op_pure (pv_of (v := .int .i64 _) rfl) ?_
  refine op_pure (pv_of (v := .int .i64 _) rfl) ?_
  refine op_pure (pv_assign (v := .int .i64 _) rfl) ?_
  refine op_pure (pv_assign (v := .int .i64 _) rfl) ?_
  refine xp_seq ?_
  refine xp_region rfl ?_
  refine op_fn (caps := []) (vs := []) rfl rfl rfl (season0_ok h36) ?_
  rintro _ h37 E37 ⟨A370, A371, A372, A373, c370, c371, c372, c373, rfl, R37⟩
  refine op_fn (caps := []) (vs := [.agg #[.slice _ _ _, .slice _ _ _, .slice _ _ _, .slice _ _ _], .int .i64 _, .int .i64 _]) rfl rfl rfl (kFailed small0 _ _ _ _ _ _ _ _ h37 1 2 1 0 (by decide +kernel) (by decide +kernel) R37) ?_
  rintro _ h38 E38 rfl
  refine op_pure (pv_move (v := .tuple #[.int .i64 _, .int .i64 _]) rfl) ?_
  refine op_pure (pv_of (v := .int .i64 _) rfl) ?_
  refine op_pure (pv_of (v := .int .i64 _) rfl) ?_
  refine op_pure (pv_assign (v := .int .i64 _) rfl) ?_
  refine op_pure (pv_assign (v := .int .i64 _) rfl) ?_
  refine xp_seq ?_
  refine xp_region rfl ?_
  refine op_fn (caps := []) (vs := []) rfl rfl rfl (season0_ok h38) ?_
  rintro _ h39 E39 ⟨A390, A391, A392, A393, c390, c391, c392, c393, rfl, R39⟩
  refine op_fn (caps := []) (vs := [.agg #[.slice _ _ _, .slice _ _ _, .slice _ _ _, .slice _ _ _], .int .i64 _]) rfl rfl rfl (kCauses small0 _ _ _ _ _ _ _ _ h39 1 [2, 2, 1] 0 (by decide +kernel) (by decide +kernel) R39) ?_
  rintro _ h40 E40 ⟨_, rfl, B40, d40, rfl, S40⟩
  refine op_pure (pv_move (v := .tuple #[.slice _ _ _, .int .i64 _]) rfl) ?_
  refine op_pure (pv_of (v := .slice _ _ _) rfl) ?_
  refine op_pure (pv_of (v := .int .i64 _) rfl) ?_
  refine op_pure (pv_assign (v := .slice _ _ _) rfl) ?_
  refine op_pure (pv_assign (v := .int .i64 _) rfl) ?_
  refine xp_seq ?_
  refine xp_seq ?_
  refine xp_region rfl ?_
  refine op_pure (pv_move (v := .int .i64 _) rfl) ?_
  refine op_pure (pv_of (v := .bool _) rfl) ?_
  refine op_pure (pv_move (v := .bool _) rfl) ?_
  refine guard_yes rfl rfl ?_
  refine op_pure (pv_move (v := .int .i64 _) rfl) ?_
  refine guard_yes rfl rfl ?_
  refine op_pure (pv_of (v := .bool _) rfl) ?_
  refine op_pure (pv_pickF rfl rfl (v := .bool _) rfl) ?_
  refine op_pure (pv_move (v := .bool _) rfl) ?_
  refine guard_yes rfl rfl ?_
  refine op_pure (pv_move (v := .int .i64 _) rfl) ?_
  refine guard_yes rfl rfl ?_
  refine op_pure (pv_of (v := .bool _) rfl) ?_
  refine op_pure (pv_pickF rfl rfl (v := .bool _) rfl) ?_
  refine op_pure (pv_move (v := .bool _) rfl) ?_
  refine guard_yes rfl rfl ?_
  refine op_pure (pv_move (v := .int .i64 _) rfl) ?_
  refine guard_yes rfl rfl ?_
  refine op_pure (pv_of (v := .bool _) rfl) ?_
  refine op_pure (pv_pickF rfl rfl (v := .bool _) rfl) ?_
  refine op_pure (pv_move (v := .bool _) rfl) ?_
  refine guard_yes rfl rfl ?_
  refine op_pure (pv_move (v := .int .i64 _) rfl) ?_
  refine guard_yes rfl rfl ?_
  refine op_pure (pv_of (v := .bool _) rfl) ?_
  refine op_pure (pv_pickF rfl rfl (v := .bool _) rfl) ?_
  refine op_pure (pv_move (v := .bool _) rfl) ?_
  refine guard_yes rfl rfl ?_
  refine op_pure (pv_move (v := .int .i64 _) rfl) ?_
  refine guard_yes rfl rfl ?_
  refine op_pure (pv_of (v := .bool _) rfl) ?_
  refine op_pure (pv_pickF rfl rfl (v := .bool _) rfl) ?_
  refine op_pure (pv_move (v := .bool _) rfl) ?_
  refine guard_yes rfl rfl ?_
  refine op_pure (pv_move (v := .int .i64 _) rfl) ?_
  refine guard_yes rfl rfl ?_
  refine op_pure (pv_of (v := .bool _) rfl) ?_
  refine op_pure (pv_pickF rfl rfl (v := .bool _) rfl) ?_
  refine op_pure (pv_move (v := .bool _) rfl) ?_
  refine guard_yes rfl rfl ?_
  refine op_pure (pv_move (v := .slice _ _ _) rfl) ?_
  refine guard_yes rfl rfl ?_
  refine op_buildSlice (zc := [_]) (vs := [(0, .int .i64 _), (1, .int .i64 _), (2, .int .i64 _)]) (cs := [_, _, _]) rfl rfl rfl rfl rfl rfl rfl fun b180 hb180 => ?_
  refine wp_norm [_, _, _, _, _, _, _, _, _, _, _, _, _, _] rfl ?_
  refine guard_yes rfl rfl ?_
  refine wp_pub 13 rfl rfl ?_
  intro g23 G23 P23
  refine wp_norm [_, _, _, _, _, _, _, _, _, _, _, _, _, _] rfl ?_
  refine wp_norm [_, _, _, _, _, _, _, _, _, _, _, _, _, _] rfl ?_
  refine op_fn (caps := []) (vs := [.slice _ _ _, .slice _ _ _]) rfl rfl rfl (sameI_k [2, 2, 1] (by decide) _ _ _ _ g23 (S40.ext G23) (rowIk [2, 2, 1] ((Ext.refl _) _ _ P23))) ?_
  rintro _ h41 E41 rfl
  refine guard_yes rfl rfl ?_
  refine op_pure (pv_of (v := .bool _) rfl) ?_
  refine op_pure (pv_pickF rfl rfl (v := .bool _) rfl) ?_
  refine xp_condF rfl (rfl) ?_
  refine xp_skip ?_
  refine xp_seq ?_
  refine xp_region rfl ?_
  refine op_fn (caps := []) (vs := []) rfl rfl rfl (season0_ok h41) ?_
  rintro _ h42 E42 ⟨A420, A421, A422, A423, c420, c421, c422, c423, rfl, R42⟩
  refine op_fn (caps := []) (vs := [.agg #[.slice _ _ _, .slice _ _ _, .slice _ _ _, .slice _ _ _]]) rfl rfl rfl (kFirst small0 _ _ _ _ _ _ _ _ h42 [3, 3] 0 (by decide +kernel) (by decide +kernel) R42) ?_
  rintro _ h43 E43 ⟨_, rfl, B43, d43, rfl, S43⟩
  refine op_pure (pv_move (v := .tuple #[.slice _ _ _, .int .i64 _]) rfl) ?_
  refine op_pure (pv_of (v := .slice _ _ _) rfl) ?_
  refine op_pure (pv_of (v := .int .i64 _) rfl) ?_
  refine op_pure (pv_assign (v := .slice _ _ _) rfl) ?_
  refine op_pure (pv_assign (v := .int .i64 _) rfl) ?_
  refine xp_seq ?_
  refine xp_region rfl ?_
  refine op_fn (caps := []) (vs := []) rfl rfl rfl (season0_ok h43) ?_
  rintro _ h44 E44 ⟨A440, A441, A442, A443, c440, c441, c442, c443, rfl, R44⟩
  refine op_fn (caps := []) (vs := [.agg #[.slice _ _ _, .slice _ _ _, .slice _ _ _, .slice _ _ _], .int .i64 _]) rfl rfl rfl (kSound small0 _ _ _ _ _ _ _ _ h44 1 ⟨0, 2⟩ 0 (by decide +kernel) (by decide +kernel) R44) ?_
  rintro _ h45 E45 rfl
  refine op_pure (pv_move (v := .tuple #[.agg #[.int .i64 _, .int .i64 _], .int .i64 _]) rfl) ?_
  refine op_pure (pv_of (v := .agg #[.int .i64 _, .int .i64 _]) rfl) ?_
  refine op_pure (pv_of (v := .int .i64 _) rfl) ?_
  refine op_alloc (cs := [_, _]) rfl rfl fun b17 hb17 => ?_
  refine wp_norm [_, _, _, _, _, _, _, _, _, _, _, _, _, _, _] rfl ?_
  refine op_storeP 14 (v := .agg #[.int .i64 _, .int .i64 _]) (vs := [_, _]) (c' := [_, _]) rfl rfl rfl rfl rfl rfl rfl rfl rfl ?_
  refine wp_norm [_, _, _, _, _, _, _, _, _, _, _, _, _, _, _] rfl ?_
  refine op_pure (pv_assign (v := .int .i64 _) rfl) ?_
  refine xp_seq ?_
  refine xp_region rfl ?_
  refine op_fn (caps := []) (vs := []) rfl rfl rfl (told0_ok h45) ?_
  rintro _ h46 E46 ⟨A460, A461, A462, A463, c460, c461, c462, c463, rfl, R46⟩
  refine op_fn (caps := []) (vs := [.agg #[.slice _ _ _, .slice _ _ _, .slice _ _ _, .slice _ _ _], .int .i64 _]) rfl rfl rfl (kSound smallT _ _ _ _ _ _ _ _ h46 2 ⟨0, 0⟩ 0 (by decide +kernel) (by decide +kernel) R46) ?_
  rintro _ h47 E47 rfl
  refine op_pure (pv_move (v := .tuple #[.agg #[.int .i64 _, .int .i64 _], .int .i64 _]) rfl) ?_
  refine op_pure (pv_of (v := .agg #[.int .i64 _, .int .i64 _]) rfl) ?_
  refine op_pure (pv_of (v := .int .i64 _) rfl) ?_
  refine op_alloc (cs := [_, _]) rfl rfl fun b18 hb18 => ?_
  refine wp_norm [_, _, _, _, _, _, _, _, _, _, _, _, _, _, _, _] rfl ?_
  refine op_storeP 15 (v := .agg #[.int .i64 _, .int .i64 _]) (vs := [_, _]) (c' := [_, _]) rfl rfl rfl rfl rfl rfl rfl rfl rfl ?_
  refine wp_norm [_, _, _, _, _, _, _, _, _, _, _, _, _, _, _, _] rfl ?_
  refine op_pure (pv_assign (v := .int .i64 _) rfl) ?_
  refine xp_seq ?_
  refine xp_seq ?_
  refine xp_dw [] rfl rfl rfl ?_
  refine dw_pure (i := 0) rfl (by decide +kernel) (pv_move (v := .int .i64 _) rfl) ?_
  refine dw_pure (i := 1) rfl (by decide +kernel) (pv_of (v := .bool _) rfl) ?_
  refine dw_pure (i := 2) rfl (by decide +kernel) (pv_move (v := .bool _) rfl) ?_
  refine dw_pureG (i := 3) rfl (by decide +kernel) rfl rfl (pv_move (v := .int .i64 _) rfl) ?_
  refine dw_pureG (i := 4) rfl (by decide +kernel) rfl rfl (pv_of (v := .bool _) rfl) ?_
  refine dw_pure (i := 5) rfl (by decide +kernel) (pv_pickF rfl rfl (v := .bool _) rfl) ?_
  refine dw_pure (i := 6) rfl (by decide +kernel) (pv_move (v := .bool _) rfl) ?_
  refine dw_pureG (i := 7) rfl (by decide +kernel) rfl rfl (pv_move (v := .int .i64 _) rfl) ?_
  refine dw_pureG (i := 8) rfl (by decide +kernel) rfl rfl (pv_of (v := .bool _) rfl) ?_
  refine dw_pure (i := 9) rfl (by decide +kernel) (pv_pickF rfl rfl (v := .bool _) rfl) ?_
  refine dw_pure (i := 10) rfl (by decide +kernel) (pv_move (v := .bool _) rfl) ?_
  refine dw_loadG (i := 11) rfl (by decide +kernel) rfl rfl ?_
  refine op_loadPA 14 (vs := [.int .i64 _, .int .i64 _]) rfl rfl rfl rfl rfl ?_
  refine dw_effG (i := 12) rfl (by decide +kernel) rfl rfl ?_
  refine op_fn (caps := []) (vs := [.int .i64 _, .int .i64 _]) rfl rfl rfl (to_ok _ _ h47) ?_
  rintro _ h48 E48 rfl
  refine ⟨ext_wlm E48 _, ?_⟩
  refine dw_pureG (i := 13) rfl (by decide +kernel) rfl rfl (pv_neA rfl rfl (by kernel_rfl) (rgSelf ⟨0, 2⟩)) ?_
  refine dw_pure (i := 14) rfl (by decide +kernel) (pv_pickF rfl rfl (v := .bool _) rfl) ?_
  refine dw_pure (i := 15) rfl (by decide +kernel) (pv_move (v := .bool _) rfl) ?_
  refine dw_loadG (i := 16) rfl (by decide +kernel) rfl rfl ?_
  refine op_loadPA 15 (vs := [.int .i64 _, .int .i64 _]) rfl rfl rfl rfl rfl ?_
  refine dw_effG (i := 17) rfl (by decide +kernel) rfl rfl ?_
  refine op_fn (caps := []) (vs := [.int .i64 _, .int .i64 _]) rfl rfl rfl (to_ok _ _ h48) ?_
  rintro _ h49 E49 rfl
  refine ⟨ext_wlm E49 _, ?_⟩
  refine dw_pureG (i := 18) rfl (by decide +kernel) rfl rfl (pv_neA rfl rfl (by kernel_rfl) (rgSelf ⟨0, 0⟩)) ?_
  refine dw_pure (i := 19) rfl (by decide +kernel) (pv_pickF rfl rfl (v := .bool _) rfl) ?_
  refine dw_pure (i := 20) rfl (by decide +kernel) (pv_move (v := .bool _) rfl) ?_
  refine dw_pureG (i := 21) rfl (by decide +kernel) rfl rfl (pv_move (v := .slice _ _ _) rfl) ?_
  refine dw_lastG (i := 22) rfl (by decide +kernel) (by decide +kernel) rfl rfl ?_
  refine op_buildSlice (zc := [_]) (vs := [(0, .int .i64 _), (1, .int .i64 _)]) (cs := [_, _]) rfl rfl rfl rfl rfl rfl rfl fun b221 hb221 => ?_
  refine dw_norm [_, _, _, _, _, _, _, _, _, _, _, _, _, _, _, _, _] rfl ?_
  refine dw_pub 16 rfl ?_
  intro g24 G24 P24
  refine dw_norm [_, _, _, _, _, _, _, _, _, _, _, _, _, _, _, _, _] rfl ?_
  refine dw_norm [_, _, _, _, _, _, _, _, _, _, _, _, _, _, _, _, _] rfl ?_
  refine dw_lastG (i := 23) rfl (by decide +kernel) (by decide +kernel) rfl rfl ?_
  refine op_fn (caps := []) (vs := [.slice _ _ _, .slice _ _ _]) rfl rfl rfl (sameI_k [3, 3] (by decide) _ _ _ _ g24 (S43.ext (Ext.trans (Ext.trans (Ext.trans (Ext.trans (Ext.trans (Ext.trans E44 E45) E46) E47) E48) E49) G24)) (rowIk [3, 3] ((Ext.refl _) _ _ P24))) ?_
  rintro _ h50 E50 rfl
  refine dw_pureG (i := 24) rfl (by decide +kernel) rfl rfl (pv_of (v := .bool _) rfl) ?_
  refine dw_pure (i := 25) rfl (by decide +kernel) (pv_pickF rfl rfl (v := .bool _) rfl) ?_
  refine dw_end rfl ?_
  refine xp_condF rfl (rfl) ?_
  refine xp_skip ?_
  refine xp_seq ?_
  refine xp_region rfl ?_
  refine op_fn (caps := []) (vs := []) rfl rfl rfl (season0_ok h50) ?_
  rintro _ h51 E51 ⟨A510, A511, A512, A513, c510, c511, c512, c513, rfl, R51⟩
  refine op_fn (caps := []) (vs := [.agg #[.slice _ _ _, .slice _ _ _, .slice _ _ _, .slice _ _ _], .int .i64 _]) rfl rfl rfl (kInspect small0 _ _ _ _ _ _ _ _ h51 1 [1] 0 (by decide +kernel) (by decide +kernel) R51) ?_
  rintro _ h52 E52 ⟨_, rfl, B52, d52, rfl, S52⟩
  refine op_pure (pv_move (v := .tuple #[.slice _ _ _, .int .i64 _]) rfl) ?_
  refine op_pure (pv_of (v := .slice _ _ _) rfl) ?_
  refine op_pure (pv_of (v := .int .i64 _) rfl) ?_
  refine op_pure (pv_assign (v := .slice _ _ _) rfl) ?_
  refine op_pure (pv_assign (v := .int .i64 _) rfl) ?_
  refine xp_seq ?_
  refine xp_region rfl ?_
  refine op_fn (caps := []) (vs := []) rfl rfl rfl (season0_ok h52) ?_
  rintro _ h53 E53 ⟨A530, A531, A532, A533, c530, c531, c532, c533, rfl, R53⟩
  refine op_fn (caps := []) (vs := [.agg #[.slice _ _ _, .slice _ _ _, .slice _ _ _, .slice _ _ _], .int .i64 _]) rfl rfl rfl (kInspect small0 _ _ _ _ _ _ _ _ h53 2 [] 0 (by decide +kernel) (by decide +kernel) R53) ?_
  rintro _ h54 E54 ⟨_, rfl, B54, d54, rfl, S54⟩
  refine op_pure (pv_move (v := .tuple #[.slice _ _ _, .int .i64 _]) rfl) ?_
  refine op_pure (pv_of (v := .slice _ _ _) rfl) ?_
  refine op_pure (pv_of (v := .int .i64 _) rfl) ?_
  refine op_pure (pv_assign (v := .slice _ _ _) rfl) ?_
  refine op_pure (pv_assign (v := .int .i64 _) rfl) ?_
  refine xp_seq ?_
  refine xp_region rfl ?_
  refine op_fn (caps := []) (vs := []) rfl rfl rfl (season0_ok h54) ?_
  rintro _ h55 E55 ⟨A550, A551, A552, A553, c550, c551, c552, c553, rfl, R55⟩
  refine op_buildSlice (zc := [_]) (vs := [(0, .int .i64 _)]) (cs := [_]) rfl rfl rfl rfl rfl rfl rfl fun b237 hb237 => ?_
  refine wp_norm [_, _, _, _, _, _, _, _, _, _, _, _, _, _, _, _, _, _] rfl ?_
  refine wp_pub 17 rfl rfl ?_
  intro g25 G25 P25
  refine wp_norm [_, _, _, _, _, _, _, _, _, _, _, _, _, _, _, _, _, _] rfl ?_
  refine wp_norm [_, _, _, _, _, _, _, _, _, _, _, _, _, _, _, _, _, _] rfl ?_
  refine op_fn (caps := []) (vs := [.agg #[.slice _ _ _, .slice _ _ _, .slice _ _ _, .slice _ _ _], .slice _ _ _]) rfl rfl rfl (kUnseen small0 _ _ _ _ _ _ _ _ g25 [2] (by decide) 1 0 (by decide +kernel) (by decide +kernel) _ _ (R55.ext G25) (rowIk [2] ((Ext.refl _) _ _ P25))) ?_
  rintro _ h56 E56 rfl
  refine op_pure (pv_move (v := .tuple #[.int .i64 _, .int .i64 _]) rfl) ?_
  refine op_pure (pv_of (v := .int .i64 _) rfl) ?_
  refine op_pure (pv_of (v := .int .i64 _) rfl) ?_
  refine op_pure (pv_assign (v := .int .i64 _) rfl) ?_
  refine op_pure (pv_assign (v := .int .i64 _) rfl) ?_
  refine xp_seq ?_
  refine xp_region rfl ?_
  refine op_fn (caps := []) (vs := []) rfl rfl rfl (season0_ok h56) ?_
  rintro _ h57 E57 ⟨A570, A571, A572, A573, c570, c571, c572, c573, rfl, R57⟩
  refine op_buildSlice (zc := [_]) (vs := [(0, .int .i64 _)]) (cs := [_]) rfl rfl rfl rfl rfl rfl rfl fun b243 hb243 => ?_
  refine wp_norm [_, _, _, _, _, _, _, _, _, _, _, _, _, _, _, _, _, _, _] rfl ?_
  refine wp_pub 18 rfl rfl ?_
  intro g26 G26 P26
  refine wp_norm [_, _, _, _, _, _, _, _, _, _, _, _, _, _, _, _, _, _, _] rfl ?_
  refine wp_norm [_, _, _, _, _, _, _, _, _, _, _, _, _, _, _, _, _, _, _] rfl ?_
  refine op_fn (caps := []) (vs := [.agg #[.slice _ _ _, .slice _ _ _, .slice _ _ _, .slice _ _ _], .slice _ _ _]) rfl rfl rfl (kUnseen small0 _ _ _ _ _ _ _ _ g26 [1] (by decide) 1 0 (by decide +kernel) (by decide +kernel) _ _ (R57.ext G26) (rowIk [1] ((Ext.refl _) _ _ P26))) ?_
  rintro _ h58 E58 rfl
  refine op_pure (pv_move (v := .tuple #[.int .i64 _, .int .i64 _]) rfl) ?_
  refine op_pure (pv_of (v := .int .i64 _) rfl) ?_
  refine op_pure (pv_of (v := .int .i64 _) rfl) ?_
  refine op_pure (pv_assign (v := .int .i64 _) rfl) ?_
  refine op_pure (pv_assign (v := .int .i64 _) rfl) ?_
  refine xp_seq ?_
  refine xp_region rfl ?_
  refine op_fn (caps := []) (vs := []) rfl rfl rfl (season0_ok h58) ?_
  rintro _ h59 E59 ⟨A590, A591, A592, A593, c590, c591, c592, c593, rfl, R59⟩
  refine op_fn (caps := []) (vs := [.agg #[.slice _ _ _, .slice _ _ _, .slice _ _ _, .slice _ _ _], .slice _ _ _]) rfl rfl rfl (kUnseen small0 _ _ _ _ _ _ _ _ h59 [] (by decide) 2 0 (by decide +kernel) (by decide +kernel) _ _ R59 (rowI0 _)) ?_
  rintro _ h60 E60 rfl
  refine op_pure (pv_move (v := .tuple #[.int .i64 _, .int .i64 _]) rfl) ?_
  refine op_pure (pv_of (v := .int .i64 _) rfl) ?_
  refine op_pure (pv_of (v := .int .i64 _) rfl) ?_
  refine op_pure (pv_assign (v := .int .i64 _) rfl) ?_
  refine op_pure (pv_assign (v := .int .i64 _) rfl) ?_
  refine xp_seq ?_
  refine xp_seq ?_
  refine xp_region rfl ?_
  refine op_pure (pv_move (v := .int .i64 _) rfl) ?_
  refine op_pure (pv_of (v := .bool _) rfl) ?_
  refine op_pure (pv_move (v := .bool _) rfl) ?_
  refine guard_yes rfl rfl ?_
  refine op_pure (pv_move (v := .int .i64 _) rfl) ?_
  refine guard_yes rfl rfl ?_
  refine op_pure (pv_of (v := .bool _) rfl) ?_
  refine op_pure (pv_pickF rfl rfl (v := .bool _) rfl) ?_
  refine op_pure (pv_move (v := .bool _) rfl) ?_
  refine guard_yes rfl rfl ?_
  refine op_pure (pv_move (v := .int .i64 _) rfl) ?_
  refine guard_yes rfl rfl ?_
  refine op_pure (pv_of (v := .bool _) rfl) ?_
  refine op_pure (pv_pickF rfl rfl (v := .bool _) rfl) ?_
  refine op_pure (pv_move (v := .bool _) rfl) ?_
  refine guard_yes rfl rfl ?_
  refine op_pure (pv_move (v := .int .i64 _) rfl) ?_
  refine guard_yes rfl rfl ?_
  refine op_pure (pv_of (v := .bool _) rfl) ?_
  refine op_pure (pv_pickF rfl rfl (v := .bool _) rfl) ?_
  refine op_pure (pv_move (v := .bool _) rfl) ?_
  refine guard_yes rfl rfl ?_
  refine op_pure (pv_move (v := .int .i64 _) rfl) ?_
  refine guard_yes rfl rfl ?_
  refine op_pure (pv_of (v := .bool _) rfl) ?_
  refine op_pure (pv_pickF rfl rfl (v := .bool _) rfl) ?_
  refine op_pure (pv_move (v := .bool _) rfl) ?_
  refine guard_yes rfl rfl ?_
  refine op_pure (pv_move (v := .int .i64 _) rfl) ?_
  refine guard_yes rfl rfl ?_
  refine op_pure (pv_of (v := .bool _) rfl) ?_
  refine op_pure (pv_pickF rfl rfl (v := .bool _) rfl) ?_
  refine op_pure (pv_move (v := .bool _) rfl) ?_
  refine guard_yes rfl rfl ?_
  refine op_pure (pv_move (v := .int .i64 _) rfl) ?_
  refine guard_yes rfl rfl ?_
  refine op_pure (pv_of (v := .bool _) rfl) ?_
  refine op_pure (pv_pickF rfl rfl (v := .bool _) rfl) ?_
  refine op_pure (pv_move (v := .bool _) rfl) ?_
  refine guard_yes rfl rfl ?_
  refine op_pure (pv_move (v := .int .i64 _) rfl) ?_
  refine guard_yes rfl rfl ?_
  refine op_pure (pv_of (v := .bool _) rfl) ?_
  refine op_pure (pv_pickF rfl rfl (v := .bool _) rfl) ?_
  refine op_pure (pv_move (v := .bool _) rfl) ?_
  refine guard_yes rfl rfl ?_
  refine op_pure (pv_move (v := .slice _ _ _) rfl) ?_
  refine guard_yes rfl rfl ?_
  refine op_pure (pv_len rfl rfl) ?_
  refine guard_yes rfl rfl ?_
  refine op_pure (pv_of (v := .bool _) rfl) ?_
  refine op_pure (pv_pickF rfl rfl (v := .bool _) rfl) ?_
  refine op_pure (pv_move (v := .bool _) rfl) ?_
  refine guard_yes rfl rfl ?_
  refine op_pure (pv_move (v := .slice _ _ _) rfl) ?_
  refine guard_yes rfl rfl ?_
  refine op_buildSlice (zc := [_]) (vs := [(0, .int .i64 _)]) (cs := [_]) rfl rfl rfl rfl rfl rfl rfl fun b289 hb289 => ?_
  refine wp_norm [_, _, _, _, _, _, _, _, _, _, _, _, _, _, _, _, _, _, _, _] rfl ?_
  refine guard_yes rfl rfl ?_
  refine wp_pub 19 rfl rfl ?_
  intro g27 G27 P27
  refine wp_norm [_, _, _, _, _, _, _, _, _, _, _, _, _, _, _, _, _, _, _, _] rfl ?_
  refine wp_norm [_, _, _, _, _, _, _, _, _, _, _, _, _, _, _, _, _, _, _, _] rfl ?_
  refine op_fn (caps := []) (vs := [.slice _ _ _, .slice _ _ _]) rfl rfl rfl (sameI_k [1] (by decide) _ _ _ _ g27 (S52.ext (Ext.trans (Ext.trans (Ext.trans (Ext.trans (Ext.trans (Ext.trans (Ext.trans (Ext.trans (Ext.trans (Ext.trans E53 E54) E55) G25) E56) E57) G26) E58) E59) E60) G27)) (rowIk [1] ((Ext.refl _) _ _ P27))) ?_
  rintro _ h61 E61 rfl
  refine guard_yes rfl rfl ?_
  refine op_pure (pv_of (v := .bool _) rfl) ?_
  refine op_pure (pv_pickF rfl rfl (v := .bool _) rfl) ?_
  refine xp_condF rfl (rfl) ?_
  refine xp_skip ?_
  refine xp_seq ?_
  refine xp_region rfl ?_
  refine op_fnMM [_, _, _, _, _, _, _, _, _, _, _, _, _, _, _, _, _, _, _, _] [] [] rfl rfl rfl (told0_okM h61) ?_
  rintro _ hA _ EA ⟨ap, aq, al, aR, rfl, RA, rfl⟩
  refine wp_norm [_, _, _, _, _, _, _, _, _, _, _, _, _, _, _, _, _, _, _, _, _] rfl ?_
  refine op_alloc (cs := [_, _, _, _]) rfl rfl fun b20 hb20 => ?_
  refine wp_norm [_, _, _, _, _, _, _, _, _, _, _, _, _, _, _, _, _, _, _, _, _, _] rfl ?_
  refine op_storeP 21 (v := .agg #[.slice _ _ _, .slice _ _ _, .slice _ _ _, .slice _ _ _]) (vs := [_, _, _, _]) (c' := [_, _, _, _]) rfl rfl rfl rfl rfl rfl rfl rfl rfl ?_
  refine wp_norm [_, _, _, _, _, _, _, _, _, _, _, _, _, _, _, _, _, _, _, _, _, _] rfl ?_
  refine xp_seq ?_
  refine xp_region rfl ?_
  refine op_pure (pv_fieldAddr rfl rfl rfl rfl 3 rfl) ?_
  refine op_loadP 21 (v := .slice _ _ _) rfl rfl rfl rfl ?_
  refine op_pure (pv_build (zc := [_, _, _]) (vs := [(1, .int .i64 _)]) (cs := [_, _, _]) rfl rfl rfl rfl rfl rfl) ?_
  refine op_buildSlice (zc := [_, _, _]) (vs := [(0, .agg #[.int .i64 _, .int .i64 _, .bool _])]) (cs := [_, _, _]) rfl rfl rfl rfl rfl rfl rfl fun b297 hb297 => ?_
  refine wp_norm [_, _, _, _, _, _, _, _, _, _, _, _, _, _, _, _, _, _, _, _, _, _, _] rfl ?_
  have ha : AccR 50 3 (told0.reports.flatMap seenC) ⟨some (aR, .cells (told0.reports.flatMap seenC).toArray 50 (0, 0)), some ⟨aR, 0, none⟩, 1, 1⟩ := accB rfl rfl
  refine op_appendR 20 ha rfl rfl rfl (fun V => rdP V (i := 22) rfl) rfl rfl rfl rfl rfl rfl rfl rfl rfl (by omega) rfl (by decide) fun a2 h1a E1a ha2 => ?_
  refine wp_norm [_, _, _, _, _, _, _, _, _, _, _, _, _, _, _, _, _, _, _, _, _, _, _] rfl ?_
  refine op_pure (pv_fieldAddr rfl rfl rfl rfl 3 rfl) ?_
  refine op_storeP 21 (v := .slice _ _ _) (vs := [_]) (c' := [_, _, _, _]) rfl rfl rfl rfl rfl rfl rfl rfl rfl ?_
  refine wp_norm [_, _, _, _, _, _, _, _, _, _, _, _, _, _, _, _, _, _, _, _, _, _, _] rfl ?_
  refine goes_pubO 20 rfl ?_
  intro gR GR PR
  refine goes_norm [_, _, _, _, _, _, _, _, _, _, _, _, _, _, _, _, _, _, _, _, _, _, _] rfl ?_
  obtain ⟨xp2, xA, xn, xc⟩ := a2
  have hxn : xn = 2 := by have := ha2.len; simp [told0, seenC] at this; omega
  subst hxn
  dsimp only
  have RR : Row gR 3 seenC xA against0.reports := ⟨fun _ _ => rfl, ha2.rd PR⟩
  refine goes_norm [_, _, _, _, _, _, _, _, _, _, _, _, _, _, _, _, _, _, _, _, _, _, _] rfl ?_
  refine xp_seq ?_
  refine xp_region rfl ?_
  refine op_fn (caps := []) (vs := []) rfl rfl rfl (told0_ok gR) ?_
  rintro _ h62 E62 ⟨A620, A621, A622, A623, c620, c621, c622, c623, rfl, R62⟩
  refine op_fn (caps := []) (vs := [.agg #[.slice _ _ _, .slice _ _ _, .slice _ _ _, .slice _ _ _]]) rfl rfl rfl (kWrong smallT _ _ _ _ _ _ _ _ h62 [] 0 (by decide +kernel) (by decide +kernel) R62) ?_
  rintro _ h63 E63 ⟨_, rfl, B63, d63, rfl, S63⟩
  refine op_pure (pv_move (v := .tuple #[.slice _ _ _, .int .i64 _]) rfl) ?_
  refine op_pure (pv_of (v := .slice _ _ _) rfl) ?_
  refine op_pure (pv_of (v := .int .i64 _) rfl) ?_
  refine op_pure (pv_assign (v := .slice _ _ _) rfl) ?_
  refine op_pure (pv_assign (v := .int .i64 _) rfl) ?_
  refine xp_seq ?_
  refine xp_region rfl ?_
  refine op_loadPA 21 (vs := [.slice _ _ _, .slice _ _ _, .slice _ _ _, .slice _ _ _]) rfl rfl rfl rfl rfl ?_
  refine op_fn (caps := []) (vs := [.agg #[.slice _ _ _, .slice _ _ _, .slice _ _ _, .slice _ _ _]]) rfl rfl rfl (kWrong smallA _ _ _ _ _ _ _ _ h63 [0] 0 (by decide +kernel) (by decide +kernel) ⟨(RA.ext (Ext.trans (Ext.trans (Ext.trans E1a GR) E62) E63)).heats, (RA.ext (Ext.trans (Ext.trans (Ext.trans E1a GR) E62) E63)).damps, (RA.ext (Ext.trans (Ext.trans (Ext.trans E1a GR) E62) E63)).joints, RR.ext (Ext.trans E62 E63)⟩) ?_
  rintro _ h64 E64 ⟨_, rfl, B64, d64, rfl, S64⟩
  refine op_pure (pv_move (v := .tuple #[.slice _ _ _, .int .i64 _]) rfl) ?_
  refine op_pure (pv_of (v := .slice _ _ _) rfl) ?_
  refine op_pure (pv_of (v := .int .i64 _) rfl) ?_
  refine op_pure (pv_assign (v := .slice _ _ _) rfl) ?_
  refine op_pure (pv_assign (v := .int .i64 _) rfl) ?_
  refine xp_seq ?_
  refine xp_region rfl ?_
  refine op_fn (caps := []) (vs := []) rfl rfl rfl (season0_ok h64) ?_
  rintro _ h65 E65 ⟨A650, A651, A652, A653, c650, c651, c652, c653, rfl, R65⟩
  refine op_fn (caps := []) (vs := [.agg #[.slice _ _ _, .slice _ _ _, .slice _ _ _, .slice _ _ _], .int .i64 _, .int .i64 _]) rfl rfl rfl (kMargin small0 _ _ _ _ _ _ _ _ h65 0 1 0 11 (by decide +kernel) (by decide +kernel) R65) ?_
  rintro _ h66 E66 rfl
  refine op_pure (pv_move (v := .tuple #[.int .i64 _, .int .i64 _]) rfl) ?_
  refine op_pure (pv_of (v := .int .i64 _) rfl) ?_
  refine op_pure (pv_of (v := .int .i64 _) rfl) ?_
  refine op_pure (pv_assign (v := .int .i64 _) rfl) ?_
  refine xp_seq ?_
  refine xp_region rfl ?_
  refine op_fn (caps := []) (vs := []) rfl rfl rfl (season0_ok h66) ?_
  rintro _ h67 E67 ⟨A670, A671, A672, A673, c670, c671, c672, c673, rfl, R67⟩
  refine op_fn (caps := []) (vs := [.agg #[.slice _ _ _, .slice _ _ _, .slice _ _ _, .slice _ _ _], .int .i64 _, .int .i64 _, .int .i64 _, .int .i64 _]) rfl rfl rfl (kHarder small0 _ _ _ _ _ _ _ _ h67 1 1 1 (-1) 0 (by decide +kernel) R67) ?_
  rintro _ h68 E68 ⟨C0, C1, C2, C3, k0, k1, k2, k3, rfl, RC⟩
  refine op_pure (pv_move (v := .tuple #[.agg #[.slice _ _ _, .slice _ _ _, .slice _ _ _, .slice _ _ _], .int .i64 _]) rfl) ?_
  refine op_pure (pv_of (v := .agg #[.slice _ _ _, .slice _ _ _, .slice _ _ _, .slice _ _ _]) rfl) ?_
  refine op_pure (pv_of (v := .int .i64 _) rfl) ?_
  refine op_alloc (cs := [_, _, _, _]) rfl rfl fun b21 hb21 => ?_
  refine wp_norm [_, _, _, _, _, _, _, _, _, _, _, _, _, _, _, _, _, _, _, _, _, _, _, _] rfl ?_
  refine op_storeP 23 (v := .agg #[.slice _ _ _, .slice _ _ _, .slice _ _ _, .slice _ _ _]) (vs := [_, _, _, _]) (c' := [_, _, _, _]) rfl rfl rfl rfl rfl rfl rfl rfl rfl ?_
  refine wp_norm [_, _, _, _, _, _, _, _, _, _, _, _, _, _, _, _, _, _, _, _, _, _, _, _] rfl ?_
  refine op_pure (pv_assign (v := .int .i64 _) rfl) ?_
  refine xp_seq ?_
  refine xp_region rfl ?_
  refine op_loadPA 23 (vs := [.slice _ _ _, .slice _ _ _, .slice _ _ _, .slice _ _ _]) rfl rfl rfl rfl rfl ?_
  refine op_fn (caps := []) (vs := [.agg #[.slice _ _ _, .slice _ _ _, .slice _ _ _, .slice _ _ _], .int .i64 _]) rfl rfl rfl (kFails smallC _ _ _ _ _ _ _ _ h68 0 [2, 3] 0 (by decide +kernel) (by decide +kernel) (RC.ext (Ext.refl _))) ?_
  rintro _ h69 E69 ⟨_, rfl, B69, d69, rfl, S69⟩
  refine op_pure (pv_move (v := .tuple #[.slice _ _ _, .int .i64 _]) rfl) ?_
  refine op_pure (pv_of (v := .slice _ _ _) rfl) ?_
  refine op_pure (pv_of (v := .int .i64 _) rfl) ?_
  refine op_pure (pv_assign (v := .slice _ _ _) rfl) ?_
  refine op_pure (pv_assign (v := .int .i64 _) rfl) ?_
  refine xp_seq ?_
  refine xp_region rfl ?_
  refine op_fnMM [_, _, _, _, _, _, _, _, _, _, _, _, _, _, _, _, _, _, _, _, _, _, _, _] [] [] rfl rfl rfl (told0_okM h69) ?_
  rintro _ hS _ ES ⟨sp, sq, sl, sR, rfl, RS, rfl⟩
  refine wp_norm [_, _, _, _, _, _, _, _, _, _, _, _, _, _, _, _, _, _, _, _, _, _, _, _, _] rfl ?_
  refine op_alloc (cs := [_, _, _, _]) rfl rfl fun b22 hb22 => ?_
  refine wp_norm [_, _, _, _, _, _, _, _, _, _, _, _, _, _, _, _, _, _, _, _, _, _, _, _, _, _] rfl ?_
  refine op_storeP 25 (v := .agg #[.slice _ _ _, .slice _ _ _, .slice _ _ _, .slice _ _ _]) (vs := [_, _, _, _]) (c' := [_, _, _, _]) rfl rfl rfl rfl rfl rfl rfl rfl rfl ?_
  refine wp_norm [_, _, _, _, _, _, _, _, _, _, _, _, _, _, _, _, _, _, _, _, _, _, _, _, _, _] rfl ?_
  refine xp_seq ?_
  refine xp_dw2 rfl rfl rfl ?_
  refine dw2_pure (i := 0) rfl (by decide +kernel) (pv_fieldAddr rfl rfl rfl rfl 3 rfl) ?_
  refine dw2_load (i := 1) (v := .slice _ _ _) rfl (by decide +kernel) rfl rfl (fun V => cell_priv V (j := 25) rfl rfl) ?_
  refine dw2_pure (i := 8) rfl (by decide +kernel) (pv_fieldAddr rfl rfl rfl rfl 2 rfl) ?_
  refine dw2_load (i := 9) (v := .slice _ _ _) rfl (by decide +kernel) rfl rfl (fun V => cell_priv V (j := 25) rfl rfl) ?_
  refine dw2_pure (i := 5) rfl (by decide +kernel) (pv_fieldAddr rfl rfl rfl rfl 1 rfl) ?_
  refine dw2_load (i := 6) (v := .slice _ _ _) rfl (by decide +kernel) rfl rfl (fun V => cell_priv V (j := 25) rfl rfl) ?_
  refine dw2_pure (i := 2) rfl (by decide +kernel) (pv_fieldAddr rfl rfl rfl rfl 0 rfl) ?_
  refine dw2_load (i := 3) (v := .slice _ _ _) rfl (by decide +kernel) rfl rfl (fun V => cell_priv V (j := 25) rfl rfl) ?_
  refine dw2_pure (i := 4) rfl (by decide +kernel) (pv_sliceHi (m := 2) 1 rfl rfl rfl rfl rfl (by decide)) ?_
  refine dw2_pure (i := 7) rfl (by decide +kernel) (pv_sliceHi (m := 2) 1 rfl rfl rfl rfl rfl (by decide)) ?_
  refine dw2_pure (i := 10) rfl (by decide +kernel) (pv_sliceHi (m := 9) 1 rfl rfl rfl rfl rfl (by decide)) ?_
  refine dw2_pure (i := 11) rfl (by decide +kernel) (pv_fieldAddr rfl rfl rfl rfl 0 rfl) ?_
  refine dw2_eff (i := 12) (C' := _) rfl (by decide +kernel) (fun c hc => List.mem_cons_of_mem _ hc) (fun c hc => ?_) ?_
  · rcases List.mem_cons.1 hc with rfl | hc
    · exact .inr (by show el 12 (blk _ 3) = true; decide +kernel)
    · exact .inl hc
  refine op_storeP 25 (v := .slice _ _ _) (vs := [_]) (c' := [_, _, _, _]) rfl rfl rfl rfl rfl rfl rfl rfl rfl ?_
  refine ⟨fun V c hc => ?_, ?_⟩
  · simp only [List.mem_cons, List.not_mem_nil, or_false] at hc
    rcases hc with rfl | rfl | rfl
    · exact cell_priv V (j := 25) rfl rfl
    · exact cell_priv V (j := 25) rfl rfl
    · exact cell_priv V (j := 25) rfl rfl
  refine dw2_pure (i := 13) rfl (by decide +kernel) (pv_fieldAddr rfl rfl rfl rfl 1 rfl) ?_
  refine dw2_eff (i := 14) (C' := _) rfl (by decide +kernel) (fun c hc => List.mem_cons_of_mem _ hc) (fun c hc => ?_) ?_
  · rcases List.mem_cons.1 hc with rfl | hc
    · exact .inr (by show el 14 (blk _ 6) = true; decide +kernel)
    · exact .inl hc
  refine op_storeP 25 (v := .slice _ _ _) (vs := [_]) (c' := [_, _, _, _]) rfl rfl rfl rfl rfl rfl rfl rfl rfl ?_
  refine ⟨fun V c hc => ?_, ?_⟩
  · simp only [List.mem_cons, List.not_mem_nil, or_false] at hc
    rcases hc with rfl | rfl
    · exact cell_priv V (j := 25) rfl rfl
    · exact cell_priv V (j := 25) rfl rfl
  refine dw2_pure (i := 15) rfl (by decide +kernel) (pv_fieldAddr rfl rfl rfl rfl 2 rfl) ?_
  refine dw2_eff (i := 16) (C' := _) rfl (by decide +kernel) (fun c hc => List.mem_cons_of_mem _ hc) (fun c hc => ?_) ?_
  · rcases List.mem_cons.1 hc with rfl | hc
    · exact .inr (by show el 16 (blk _ 9) = true; decide +kernel)
    · exact .inl hc
  refine op_storeP 25 (v := .slice _ _ _) (vs := [_]) (c' := [_, _, _, _]) rfl rfl rfl rfl rfl rfl rfl rfl rfl ?_
  refine ⟨fun V c hc => ?_, ?_⟩
  · simp only [List.mem_cons, List.not_mem_nil, or_false] at hc
    subst hc; exact cell_priv V (j := 25) rfl rfl
  refine dw2_pure (i := 17) rfl (by decide +kernel) (pv_index (m := 3) rfl rfl rfl rfl (by decide) (by decide)) ?_
  refine dw2_pure (i := 18) rfl (by decide +kernel) (pv_fieldAddr rfl rfl rfl rfl 1 rfl) ?_
  refine dw2_eff (i := 19) (C' := _) rfl (by decide +kernel) (fun c hc => hc) (fun c hc => .inl hc) ?_
  refine op_storeP 24 (v := .int .i64 _) (vs := [_]) (c' := [_, _, _]) rfl rfl rfl rfl rfl rfl rfl rfl rfl ?_
  refine ⟨fun V c hc => ?_, ?_⟩
  · simp only [List.mem_cons, List.not_mem_nil, or_false] at hc
    subst hc; exact cell_priv V (j := 25) rfl rfl
  refine dw2_end rfl ?_
  refine goes_norm [_, _, _, _, _, _, _, _, _, _, _, _, _, _, _, _, _, _, _, _, _, _, _, _, _, _] rfl ?_
  refine goes_pub 24 rfl ?_
  intro gS GS PS
  have RT : SeasonR gS (some ⟨sp, 0, none⟩) (some ⟨sq, 0, none⟩) (some ⟨sl, 0, none⟩) (some ⟨sR, 0, none⟩) short0 := ⟨row_takeW (RS.ext GS).heats 1, row_takeW (RS.ext GS).damps 1, row_takeW (RS.ext GS).joints 1, rowSk short0.reports PS⟩
  refine goes_norm [_, _, _, _, _, _, _, _, _, _, _, _, _, _, _, _, _, _, _, _, _, _, _, _, _, _] rfl ?_
  refine xp_seq ?_
  refine xp_region rfl ?_
  refine op_loadPA 25 (vs := [.slice _ _ _, .slice _ _ _, .slice _ _ _, .slice _ _ _]) rfl rfl rfl rfl rfl ?_
  refine op_fn (caps := []) (vs := [.agg #[.slice _ _ _, .slice _ _ _, .slice _ _ _, .slice _ _ _]]) rfl rfl rfl (kWrite gS (hP.ext (Ext.trans (Ext.trans (Ext.trans (Ext.trans (Ext.trans (Ext.trans (Ext.trans (Ext.trans (Ext.trans (Ext.trans (Ext.trans (Ext.trans (Ext.trans (Ext.trans (Ext.trans (Ext.trans (Ext.trans (Ext.trans (Ext.trans (Ext.trans (Ext.trans (Ext.trans (Ext.trans (Ext.trans (Ext.trans (Ext.trans (Ext.trans (Ext.trans (Ext.trans (Ext.trans (Ext.trans (Ext.trans (Ext.trans (Ext.trans (Ext.trans (Ext.trans (Ext.trans (Ext.trans (Ext.trans (Ext.trans (Ext.trans (Ext.trans (Ext.trans (Ext.trans (Ext.trans (Ext.trans (Ext.trans (Ext.trans (Ext.trans (Ext.trans (Ext.trans (Ext.trans (Ext.trans (Ext.trans (Ext.trans (Ext.trans (Ext.trans (Ext.trans (Ext.trans (Ext.trans (Ext.trans (Ext.trans (Ext.trans (Ext.trans (Ext.trans (Ext.trans (Ext.trans (Ext.trans (Ext.trans (Ext.trans (Ext.trans (Ext.trans (Ext.trans (Ext.trans (Ext.trans (Ext.trans (Ext.trans (Ext.trans (Ext.trans (Ext.trans (Ext.trans (Ext.trans (Ext.trans (Ext.trans E1 E2) E3) E4) Fe1) Fe2) G1) G2) G3) G4) G5) G6) E7) E11) E12) E13) E14) E15) E16) E17) E18) E19) E20) E21) E22) E23) E24) G20) E25) G21) E26) E27) E28) E29) E30) E31) G22) E32) E33) E34) E35) E36) E37) E38) E39) E40) G23) E41) E42) E43) E44) E45) E46) E47) E48) E49) G24) E50) E51) E52) E53) E54) E55) G25) E56) E57) G26) E58) E59) E60) G27) E61) EA) E1a) GR) E62) E63) E64) E65) E66) E67) E68) E69) ES) GS)) _ _ _ _ _ _ _ _ (RT.ext (Ext.refl _))) ?_
  rintro _ h70 E70 rfl
  refine op_pure (pv_move (v := .tuple #[.string _, .int .i64 _]) rfl) ?_
  refine op_pure (pv_of (v := .string _) rfl) ?_
  refine op_pure (pv_of (v := .int .i64 _) rfl) ?_
  refine op_pure (pv_assign (v := .string _) rfl) ?_
  refine op_pure (pv_assign (v := .int .i64 _) rfl) ?_
  refine xp_seq ?_
  refine xp_region rfl ?_
  refine op_pure (pv_move (v := .int .i64 _) rfl) ?_
  refine op_pure (pv_of (v := .bool _) rfl) ?_
  refine op_pure (pv_move (v := .bool _) rfl) ?_
  refine guard_yes rfl rfl ?_
  refine op_pure (pv_move (v := .int .i64 _) rfl) ?_
  refine guard_yes rfl rfl ?_
  refine op_pure (pv_of (v := .bool _) rfl) ?_
  refine op_pure (pv_pickT rfl rfl (v := .bool _) rfl) ?_
  refine op_pure (pv_move (v := .bool _) rfl) ?_
  refine guard_yes rfl rfl ?_
  refine op_pure (pv_move (v := .int .i64 _) rfl) ?_
  refine guard_yes rfl rfl ?_
  refine op_pure (pv_of (v := .bool _) rfl) ?_
  refine op_pure (pv_pickT rfl rfl (v := .bool _) rfl) ?_
  refine op_pure (pv_move (v := .bool _) rfl) ?_
  refine guard_yes rfl rfl ?_
  refine op_pure (pv_move (v := .int .i64 _) rfl) ?_
  refine guard_yes rfl rfl ?_
  refine op_pure (pv_of (v := .bool _) rfl) ?_
  refine op_pure (pv_pickT rfl rfl (v := .bool _) rfl) ?_
  refine op_pure (pv_move (v := .bool _) rfl) ?_
  refine guard_yes rfl rfl ?_
  refine op_pure (pv_move (v := .int .i64 _) rfl) ?_
  refine guard_yes rfl rfl ?_
  refine op_pure (pv_of (v := .bool _) rfl) ?_
  refine op_pure (pv_pickT rfl rfl (v := .bool _) rfl) ?_
  refine op_pure (pv_move (v := .bool _) rfl) ?_
  refine guard_yes rfl rfl ?_
  refine op_pure (pv_move (v := .int .i64 _) rfl) ?_
  refine guard_yes rfl rfl ?_
  refine op_pure (pv_of (v := .bool _) rfl) ?_
  refine op_pure (pv_pickT rfl rfl (v := .bool _) rfl) ?_
  refine op_pure (pv_move (v := .bool _) rfl) ?_
  refine guard_yes rfl rfl ?_
  refine op_pure (pv_move (v := .slice _ _ _) rfl) ?_
  refine guard_yes rfl rfl ?_
  refine op_pure (pv_len rfl rfl) ?_
  refine guard_yes rfl rfl ?_
  refine op_pure (pv_of (v := .bool _) rfl) ?_
  refine op_pure (pv_pickT rfl rfl (v := .bool _) rfl) ?_
  refine op_pure (pv_move (v := .bool _) rfl) ?_
  refine guard_yes rfl rfl ?_
  refine op_pure (pv_move (v := .slice _ _ _) rfl) ?_
  refine guard_yes rfl rfl ?_
  refine op_buildSlice (zc := [_]) (vs := [(0, .int .i64 _)]) (cs := [_]) rfl rfl rfl rfl rfl rfl rfl fun b376 hb376 => ?_
  refine wp_norm [_, _, _, _, _, _, _, _, _, _, _, _, _, _, _, _, _, _, _, _, _, _, _, _, _, _, _] rfl ?_
  refine guard_yes rfl rfl ?_
  refine wp_pub 26 rfl rfl ?_
  intro g28 G28 P28
  refine wp_norm [_, _, _, _, _, _, _, _, _, _, _, _, _, _, _, _, _, _, _, _, _, _, _, _, _, _, _] rfl ?_
  refine wp_norm [_, _, _, _, _, _, _, _, _, _, _, _, _, _, _, _, _, _, _, _, _, _, _, _, _, _, _] rfl ?_
  refine op_fn (caps := []) (vs := [.slice _ _ _, .slice _ _ _]) rfl rfl rfl (sameI_k [0] (by decide) _ _ _ _ g28 (S64.ext (Ext.trans (Ext.trans (Ext.trans (Ext.trans (Ext.trans (Ext.trans (Ext.trans (Ext.trans E65 E66) E67) E68) E69) ES) GS) E70) G28)) (rowIk [0] ((Ext.refl _) _ _ P28))) ?_
  rintro _ h71 E71 rfl
  refine op_pure (pv_pickT rfl rfl (v := .bool _) rfl) ?_
  refine op_pure (pv_move (v := .bool _) rfl) ?_
  refine guard_yes rfl rfl ?_
  refine op_pure (pv_move (v := .slice _ _ _) rfl) ?_
  refine guard_yes rfl rfl ?_
  refine op_buildSlice (zc := [_]) (vs := [(0, .int .i64 _), (1, .int .i64 _)]) (cs := [_, _]) rfl rfl rfl rfl rfl rfl rfl fun b381 hb381 => ?_
  refine wp_norm [_, _, _, _, _, _, _, _, _, _, _, _, _, _, _, _, _, _, _, _, _, _, _, _, _, _, _, _] rfl ?_
  refine guard_yes rfl rfl ?_
  refine wp_pub 27 rfl rfl ?_
  intro g29 G29 P29
  refine wp_norm [_, _, _, _, _, _, _, _, _, _, _, _, _, _, _, _, _, _, _, _, _, _, _, _, _, _, _, _] rfl ?_
  refine wp_norm [_, _, _, _, _, _, _, _, _, _, _, _, _, _, _, _, _, _, _, _, _, _, _, _, _, _, _, _] rfl ?_
  refine op_fn (caps := []) (vs := [.slice _ _ _, .slice _ _ _]) rfl rfl rfl (sameI_k [2, 3] (by decide) _ _ _ _ g29 (S69.ext (Ext.trans (Ext.trans (Ext.trans (Ext.trans (Ext.trans ES GS) E70) G28) E71) G29)) (rowIk [2, 3] ((Ext.refl _) _ _ P29))) ?_
  rintro _ h72 E72 rfl
  refine op_pure (pv_pickT rfl rfl (v := .bool _) rfl) ?_
  refine op_pure (pv_move (v := .bool _) rfl) ?_
  refine guard_yes rfl rfl ?_
  refine op_pure (pv_move (v := .string _) rfl) ?_
  refine guard_yes rfl rfl ?_
  refine op_pure (pv_streq rfl rfl) ?_
  refine op_pure (pv_pickT rfl rfl (v := .bool _) rfl) ?_
  refine op_pure (pv_assign (v := .bool _) rfl) ?_
  refine xp_ret ?_
  exact ⟨rfl, fun V => (Ext.trans (Ext.trans (Ext.trans (Ext.trans (Ext.trans (Ext.trans (Ext.trans (Ext.trans (Ext.trans (Ext.trans (Ext.trans (Ext.trans (Ext.trans (Ext.trans (Ext.trans (Ext.trans (Ext.trans (Ext.trans (Ext.trans (Ext.trans (Ext.trans (Ext.trans (Ext.trans (Ext.trans (Ext.trans (Ext.trans (Ext.trans (Ext.trans (Ext.trans (Ext.trans (Ext.trans (Ext.trans (Ext.trans (Ext.trans (Ext.trans (Ext.trans (Ext.trans (Ext.trans (Ext.trans (Ext.trans (Ext.trans (Ext.trans (Ext.trans (Ext.trans (Ext.trans (Ext.trans (Ext.trans (Ext.trans (Ext.trans (Ext.trans (Ext.trans (Ext.trans (Ext.trans (Ext.trans (Ext.trans (Ext.trans (Ext.trans (Ext.trans (Ext.trans (Ext.trans (Ext.trans (Ext.trans (Ext.trans (Ext.trans (Ext.trans (Ext.trans (Ext.trans (Ext.trans (Ext.trans (Ext.trans (Ext.trans (Ext.trans (Ext.trans (Ext.trans (Ext.trans (Ext.trans (Ext.trans (Ext.trans (Ext.trans (Ext.trans (Ext.trans (Ext.trans (Ext.trans (Ext.trans (Ext.trans (Ext.trans (Ext.trans (Ext.trans (Ext.trans (Ext.trans E1 E2) E3) E4) Fe1) Fe2) G1) G2) G3) G4) G5) G6) E7) E11) E12) E13) E14) E15) E16) E17) E18) E19) E20) E21) E22) E23) E24) G20) E25) G21) E26) E27) E28) E29) E30) E31) G22) E32) E33) E34) E35) E36) E37) E38) E39) E40) G23) E41) E42) E43) E44) E45) E46) E47) E48) E49) G24) E50) E51) E52) E53) E54) E55) G25) E56) E57) G26) E58) E59) E60) G27) E61) EA) E1a) GR) E62) E63) E64) E65) E66) E67) E68) E69) ES) GS) E70) G28) E71) G29) E72) (ext_wl V)), rfl⟩
end Go.Proofs.YtboigjfgpppeaaaDoor
