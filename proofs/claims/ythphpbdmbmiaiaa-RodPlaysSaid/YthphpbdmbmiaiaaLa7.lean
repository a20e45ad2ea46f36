/- An own logic over the model, its walks and its plain laws, joined of parts R76. Conditions: as each theorem states. -/
import Derived.Test.YthphpbdmbmiaiaaLa6
import Derived.Test.YthphpbdmbmiaiaaLa5
set_option linter.all false
namespace Go.Proofs.Ythphpbdmbmiaiaa
open Go Go.HL Go.Proofs Go.Wx Go.Rd
section
variable [Lvl]
set_option maxRecDepth 100000
theorem acc_some {e : TypeId} {m : Nat} {cs : List Value} {a : Acc} (r : AccR e m cs a) (hc : cs ≠ []) : ∃ b len cap junk, cs.length = len * m ∧ (cs ++ junk).length = cap * m ∧ a = ⟨some (b, .cells (cs ++ junk).toArray e (0, 0)), some ⟨b, 0, none⟩, len, cap⟩ := by
 obtain ⟨p, A, n, c⟩ := a
 rcases r with ⟨_, h, _⟩ | ⟨b, len, cap, junk, hl, ev, hpp, hj⟩
 ·exact absurd h hc
 ·injection ev with h1 h2 h3
  dsimp only at h1 h2 h3 hpp
  exact ⟨b, len, cap, junk, hl, hj, by rw [h1, h2, h3, hpp]⟩
theorem evM (x : EvP) : (evC x).length = 2 := rfl
theorem evPl (x : EvP) : (evC x).all plainB = true := rfl
theorem evL (l : List EvP) : (l.flatMap evC).length = l.length * 2 := wU fun _ _ => rfl
def TE (h : AH) (es : List EvP) (c : List Value) : Prop := ∃ A cap, c = [.slice A es.length cap] ∧ Row h 2 evC A es
theorem TE.mono : Mono TE := fun h h' l c e ⟨A, cap, hc, r⟩ => ⟨A, cap, hc, r.ext e⟩
theorem sameListsT_ok (a : List (List Int)) (A B : Option Addr) (ca cb : Nat) (cs ds : List (List Value)) (h : AH) (Ra : Row h 1 id A cs) (Ea : Els h TL a cs) (Rb : Row h 1 id B ds) (Eb : Els h TL a ds) (ha : a.length < 2 ^ 40 ∧ ∀ x ∈ a, x.length < 2 ^ 40) :
  FnT Try.prog 60 #[.slice A a.length ca, .slice B a.length cb] h (fun v _ => v = .bool true) :=
 (sameLists_ok a a A B ca cb cs ds h Ra Ea Rb Eb ha.1 ha.2).mono (fun v _ e => ⟨e.1, e.2.trans (boolE (decide_eq_true rfl))⟩) fun _ _ e => e
theorem evSelf (a : EvP) : pev Try.prog (Op.equalIn Op.maxDepth 90 (.agg (evC a).toArray) (.agg (evC a).toArray)) = some true := by
 have h1 := eq_struct (P := Try.prog) (t := 90) (d := 9999) (fs := [_, _]) (xs := (evC a).toArray) (ys := (evC a).toArray) (rs := [a.kind == a.kind, a.which == a.which]) rfl (by kernel_rfl) rfl ?_
 ·refine h1.trans ?_
  simp
 ·intro i f r hf hr
  match i, hf, hr with
  | 0, hf, hr => cases hf; cases hr; exact ⟨by decide, _, _, rfl, rfl, eq_int rfl _ _⟩
  | 1, hf, hr => cases hf; cases hr; exact ⟨by decide, _, _, rfl, rfl, eq_int rfl _ _⟩
  | i + 2, hf, hr => simp at hf
theorem goM_le (m : MachP) (l : List EvP) : ∀ x ∈ (goM m l).out, x.length ≤ 6 := by
 have : ∀ (l : List EvP) (s : PlP), (∀ x ∈ s.out, x.length ≤ 6) → ∀ x ∈ (l.foldl (playS m) s).out, x.length ≤ 6 := by
  intro l
  induction l with
  | nil => intro s h; exact h
  | cons y l ih =>
   intro s h
   rw [List.foldl_cons]
   refine ih _ ?_
   unfold playS
   split
   ·exact h
   ·split
    ·exact fun _ hx => absurd hx List.not_mem_nil
    ·intro x hx
     rcases List.mem_append.1 hx with hx | hx
     ·exact h x hx
     ·rw [List.mem_singleton] at hx
      rw [hx]
      exact listN_len _ 6
 exact this l _ (fun _ hx => absurd hx List.not_mem_nil)
theorem playM_le (m : MachP) (l : List EvP) (hl : l.length < 2 ^ 40) : (playM m l).2.length < 2 ^ 40 ∧ ∀ x ∈ (playM m l).2, x.length < 2 ^ 40 := by
 unfold playM
 split
 ·exact ⟨by simp, fun _ hx => absurd hx List.not_mem_nil⟩
 ·split
  ·exact ⟨by simp, fun _ hx => absurd hx List.not_mem_nil⟩
  ·exact ⟨Nat.lt_of_le_of_lt (goM_len m l) hl, fun x hx => Nat.lt_of_le_of_lt (goM_le m l x hx) (by decide)⟩
set_option maxHeartbeats 16000000 in
theorem plays_runs (w : World) (m0 : MachP) (AB0 AQ0 AL0 AW0 : Option Addr) (cB0 cQ0 cL0 cW0 : Nat) (RM0 : MachR (absH w.heap) AB0 AQ0 AL0 AW0 m0) (u1 : m0.pins.length ≤ cQ0) (u2 : m0.links.length ≤ cL0) (es0 : List EvP) (UA0 : Option Addr) (cU0 : Nat) (RU0 : Row (absH w.heap) 2 evC UA0 es0) (hn0 : es0.length < 2 ^ 63) (x0 : EvP) (z1 : Int) (l : List Int) (A : Option Addr) (c : Nat) (R : Row (absH w.heap) 1 intC A l) (hl : l.length < 2 ^ 63) :
  RunsTrue Try.prog 15 #[machV AB0 AQ0 AL0 AW0 cB0 cQ0 cL0 cW0 m0, .slice UA0 es0.length cU0, .agg #[.int .i64 x0.kind, .int .i64 x0.which], .int .i64 z1, .slice A l.length c] w := by
 letI : Lvl := ⟨true, none, none⟩
 refine runs_body Try.func15 rfl Try.ntmps15 rfl Try.results15 rfl (by kernel_rfl) fun h hh => ?_
 rw [← hh] at RM0 RU0 R
 refine qD ?_
 refine qB rfl ?_
 refine zE (v := .agg #[.int .i64 _, .int .i64 _, .int .i64 _, .int .i64 _, .int .i64 _, .slice _ _ _, .slice _ _ _, .slice _ _ _, .slice _ _ _]) (cs := [_, _, _, _, _, _, _, _, _]) rfl rfl fun b5 hb5 => ?_
 refine qK [_] rfl ?_
 refine zE (v := .agg #[.int .i64 _, .int .i64 _]) (cs := [_, _]) rfl rfl fun b7 hb7 => ?_
 refine qK [_, _] rfl ?_
 refine qA (qE (v := .bool _) rfl) ?_
 refine qD ?_
 refine qD ?_
 refine qB rfl ?_
 refine wE 0 (vs := [.int .i64 _, .int .i64 _, .int .i64 _, .int .i64 _, .int .i64 _, .slice _ _ _, .slice _ _ _, .slice _ _ _, .slice _ _ _]) rfl rfl rfl rfl rfl ?_
 refine qA (pv_build (zc := [_, _]) (vs := []) (cs := [_, _]) rfl rfl rfl rfl rfl rfl) ?_
 refine wK (caps := []) (vs := [.agg _, .agg _]) rfl rfl rfl (large_ok m0 ⟨[], []⟩ AB0 AQ0 AL0 AW0 none none cB0 cQ0 cL0 cW0 0 0 h) ?_
 rintro _ g0 G0 rfl
 rcases Bool.eq_false_or_eq_true (largeB m0 ⟨[], []⟩) with hL | hL
 ·skip
  refine qA (qC (v := .bool _) rfl) ?_
  refine qJ rfl hL ?_
  refine qJ rfl hL ?_
  refine qJ rfl hL ?_
  refine qA (wI rfl hL (v := .bool _) rfl) ?_
  refine xp_condT rfl (rfl) ?_
  refine qD ?_
  refine qB rfl ?_
  refine wK (caps := []) (vs := []) rfl rfl rfl (rod_sounding rfl g0) ?_
  rintro _ h26 E26 rfl
  refine qA (qE (v := .bool _) rfl) ?_
  refine qV ?_
  exact ⟨rfl, fun V => (zM (zM G0 E26) (qQ V)), rfl⟩
 ·skip
  refine qA (qC (v := .bool _) rfl) ?_
  refine qG rfl hL ?_
  refine qA (qC (v := .slice _ _ _) rfl) ?_
  refine qG rfl hL ?_
  refine qA (wP rfl rfl) ?_
  refine qG rfl hL ?_
  refine qA (qL (v := .bool _) rfl) ?_
  refine qA (wN rfl hL (v := .bool _) rfl) ?_
  refine qR rfl (fun hS => ?_) (fun hS => ?_)
  ·skip
   refine qD ?_
   refine qB rfl ?_
   refine wK (caps := []) (vs := []) rfl rfl rfl (rod_sounding rfl g0) ?_
   rintro _ h26 E26 rfl
   refine qA (qE (v := .bool _) rfl) ?_
   refine qV ?_
   exact ⟨rfl, fun V => (zM (zM G0 E26) (qQ V)), rfl⟩
  ·skip
   obtain ⟨S0, _⟩ := large_sml hL
   have hn20 : es0.length ≤ 20 := by have := of_decide_eq_false hS; omega
   refine qO ?_
   refine qD ?_
   refine qB rfl ?_
   refine qA (qC (v := .slice _ _ _) rfl) ?_
   refine op_fnMM [_, _] [] [] rfl rfl rfl ((NewPot_ok l hl A c g0 (R.ext G0))) ?_
   rintro _ h1 _ E1 ⟨b, x, rfl, rfl⟩
   refine qK [_, _, _] rfl ?_
   refine qA (qE (v := .pointer _) rfl) ?_
   refine qD ?_
   refine qB rfl ?_
   refine qA (qC (v := .pointer _) rfl) ?_
   refine op_fnMM [_, _] [_] [] (vs := _) rfl rfl rfl ((MachineOf_okC b x 5 8 4 (by omega) (by omega) (by omega) h1)) ?_
   rintro _ h2 _ E2 ⟨x2, m, rfl, VM, Md, hCap⟩
   refine qK [_, _, _] rfl ?_
   obtain ⟨AB, AQ, AL, AW, cB, cQ, cL, cW, rfl, RM⟩ := VM.open
   obtain ⟨hcQ, hcL⟩ := hCap _ _ _ _ _ _ _ _ _ rfl
   have M := Md.ok
   refine zA (cs := [_, _, _, _, _, _, _, _, _]) rfl rfl fun b12 hb12 => ?_
   refine qK [_, _, _, _] rfl ?_
   refine qW 3 (v := .agg #[.int .i64 _, .int .i64 _, .int .i64 _, .int .i64 _, .int .i64 _, .slice _ _ _, .slice _ _ _, .slice _ _ _, .slice _ _ _]) (vs := [_, _, _, _, _, _, _, _, _]) (c' := [_, _, _, _, _, _, _, _, _]) rfl rfl rfl rfl rfl rfl rfl rfl rfl ?_
   refine qK [_, _, _, _] rfl ?_
   refine qD ?_
   refine qB rfl ?_
   refine qA (qC (v := .pointer _) rfl) ?_
   refine wE 3 (vs := [.int .i64 _, .int .i64 _, .int .i64 _, .int .i64 _, .int .i64 _, .slice _ _ _, .slice _ _ _, .slice _ _ _, .slice _ _ _]) rfl rfl rfl rfl rfl ?_
   refine op_fnMM [_, _] [_] [_] (vs := [.pointer _, .agg _, .int .i64 _]) rfl rfl rfl ((eventsOf_ok b x2 m M 12 (by omega) AB AQ AL AW cB cQ cL cW h2 (RM.ext (Ext.refl _)))) ?_
   rintro _ h5 _ E5 ⟨x5, es, rfl, ⟨A5, c5, rfl, R5⟩, hes⟩
   refine qK [_, _, _, _] rfl ?_
   refine qA (qE (v := .slice _ _ _) rfl) ?_
   refine qD ?_
   refine qB rfl ?_
   refine wD (zc := [_, _]) (vs := []) (cs := []) rfl rfl rfl rfl rfl rfl rfl fun b41 hb41 => ?_
   refine qK [_, _, _, _, _] rfl ?_
   refine qA (qC (v := .slice _ _ _) rfl) ?_
   refine wZ 4 accR_new rfl rfl rfl (fun V => (R5.2.ext (Ext.refl _)).ext (qQ V)) (evL es) (flat_plain evPl es) rfl rfl rfl rfl rfl rfl rfl (by omega) rfl (by rw [evL, List.length_nil]; omega) fun a6 h1a E1a ha6 => ?_
   refine qK [_, _, _, _, _] rfl ?_
   have hn6 : a6.n = es.length := by have := AccR.len ha6; rw [List.nil_append, evL] at this; omega
   refine qA (qE (v := .slice _ _ _) rfl) ?_
   refine xp_cutB [44, 45, 46, 47, 48, 49, 50, 51, 52, 53] 5 (α := List EvP × Option (Nat × Obj)) (fun ⟨ho, pp⟩ => []) (fun ⟨ho, pp⟩ L => L.set 4 (pp)) (fun ⟨ho, pp⟩ h_ho => ho.length = es.length ∧ AccR 90 2 (ho.flatMap evC) ⟨pp, a6.A, a6.n, a6.c⟩) ?_ ?_
   ·skip
    refine qD ?_
    refine qB rfl ?_
    refine qA (qC (v := .slice _ _ _) rfl) ?_
    refine qA (wP rfl rfl) ?_
    refine qA (qL (v := .bool _) rfl) ?_
    refine qR rfl (fun hp => ?_) (fun hp => ?_)
    ·skip
     have hpos : 0 < es.length := by have := of_decide_eq_true hp; omega
     have hcne : es.flatMap evC ≠ [] := fun e => by
      have := evL es
      rw [e] at this
      simp at this
      omega
     obtain ⟨bq, len, cap, junk, hlen, hcap, rfl⟩ := acc_some ha6 hcne
     have hn6' : len = es.length := hn6
     subst hn6'
     have tb := turnI_bd z1 (es.length : Int)
     obtain ⟨ti, hti⟩ : ∃ ti : Nat, turnI z1 (es.length : Int) = ti := ⟨(turnI z1 es.length).toNat, by omega⟩
     have htl : ti < es.length := by have := tb.2 (by omega); omega
     have L0 := Turn_ok z1 (es.length : Int) (by omega)
     rw [hti] at L0
     have hW : wrL (es.flatMap evC ++ junk) (0 + (ti : Int).toNat * 2) [.int .i64 x0.kind, .int .i64 x0.which] = (es.set ti x0).flatMap evC ++ junk := by
      rw [show 0 + (ti : Int).toNat * 2 = ti * 2 + 0 from by omega]
      exact flat_wr evM htl (by simp) rfl junk
     have hle : 0 + (ti : Int).toNat * 2 + 2 ≤ (es.flatMap evC ++ junk).length := by rw [List.length_append, evL]; omega
     refine xp_dw [] rfl rfl rfl ?_
     refine qI (i := 0) rfl (by decide +kernel) (qC (v := .slice _ _ _) rfl) ?_
     refine qI (i := 1) rfl (by decide +kernel) (qC (v := .int .i64 _) rfl) ?_
     refine qI (i := 2) rfl (by decide +kernel) (qC (v := .slice _ _ _) rfl) ?_
     refine qI (i := 3) rfl (by decide +kernel) (wP rfl rfl) ?_
     refine qZ (i := 5) rfl (by decide +kernel) ?_
     refine wE 1 (vs := [.int .i64 _, .int .i64 _]) rfl rfl rfl rfl rfl ?_
     refine dw_eff (i := 4) rfl (by decide +kernel) ?_
     refine wK (caps := []) (vs := [.int .i64 _, .int .i64 _]) rfl rfl rfl (L0 h1a) ?_
     rintro _ h7 E7 rfl
     refine ⟨ext_wlm E7 _, ?_⟩
     refine qI (i := 6) rfl (by decide +kernel) (pv_index (m := 2) rfl rfl rfl rfl (by omega) (by omega)) ?_
     refine zF (i := 7) rfl (by decide +kernel) (by decide +kernel) ?_
     refine qW 4 (m := 2) (v := .agg #[_, _]) (vs := [_, _]) (c' := (es.set ti x0).flatMap evC ++ junk) rfl rfl rfl rfl rfl rfl (Nat.ble_eq_true_of_le hle) rfl hW ?_
     refine wS [_, _, _, _, _] rfl ?_
     refine zI rfl ?_
     refine ⟨(es.set ti x0, some (bq, .cells ((es.set ti x0).flatMap evC ++ junk).toArray 90 (0, 0))), trivial, rfl, rfl, E7, fun h3 E3 => ⟨List.length_set .., .inr ⟨bq, es.length, cap, junk, by rw [evL, List.length_set], rfl, rfl, by rw [List.length_append, evL, List.length_set]; rw [List.length_append, List.nil_append, evL] at hcap; exact hcap⟩⟩, ?_⟩
     repeat (first | exact wY _ _ | exact qY _ _ _ | refine wG (by decide) ?_ | refine qX rfl ?_ | refine wH rfl ?_)
    ·skip
     refine qO ?_
     refine ⟨(es, a6.p), trivial, rfl, rfl, (Ext.refl _), fun h3 E3 => ⟨rfl, ha6⟩, ?_⟩
     repeat (first | exact wY _ _ | exact qY _ _ _ | refine wG (by decide) ?_ | refine qX rfl ?_ | refine wH rfl ?_)
   ·rintro ⟨ho, pp⟩ T2 h_ho E_ho J_ho
    refine qS [_, _, _, _, _] rfl ?_
    obtain ⟨lo, Ao⟩ := J_ho
    refine goes_pubO 4 rfl ?_
    intro gO GO PO
    refine qS [_, _, _, _, _] rfl ?_
    have RO : Row gO 2 evC a6.A ho := ⟨fun _ _ => rfl, AccR.rd (a := ⟨pp, a6.A, a6.n, a6.c⟩) Ao PO⟩
    rw [hn6]
    refine qD ?_
    refine qB rfl ?_
    refine wE 0 (vs := [.int .i64 _, .int .i64 _, .int .i64 _, .int .i64 _, .int .i64 _, .slice _ _ _, .slice _ _ _, .slice _ _ _, .slice _ _ _]) rfl rfl rfl rfl rfl ?_
    refine wE 3 (vs := [.int .i64 _, .int .i64 _, .int .i64 _, .int .i64 _, .int .i64 _, .slice _ _ _, .slice _ _ _, .slice _ _ _, .slice _ _ _]) rfl rfl rfl rfl rfl ?_
    refine wE 3 (vs := [.int .i64 _, .int .i64 _, .int .i64 _, .int .i64 _, .int .i64 _, .slice _ _ _, .slice _ _ _, .slice _ _ _, .slice _ _ _]) rfl rfl rfl rfl rfl ?_
    refine wE 3 (vs := [.int .i64 _, .int .i64 _, .int .i64 _, .int .i64 _, .int .i64 _, .slice _ _ _, .slice _ _ _, .slice _ _ _, .slice _ _ _]) rfl rfl rfl rfl rfl ?_
    refine op_buildSliceR (zc := [_, _, _, _, _, _, _, _, _]) [[.int .i64 _, .int .i64 _, .int .i64 _, .int .i64 _, .int .i64 _, .slice _ _ _, .slice _ _ _, .slice _ _ _, .slice _ _ _], [.int .i64 _, .int .i64 _, .int .i64 _, .int .i64 _, .int .i64 _, .slice _ _ _, .slice _ _ _, .slice _ _ _, .slice _ _ _], [.int .i64 _, .int .i64 _, .int .i64 _, .int .i64 _, .int .i64 _, .slice _ _ _, .slice _ _ _, .slice _ _ _, .slice _ _ _], [.int .i64 _, .int .i64 _, .int .i64 _, .int .i64 _, .int .i64 _, .slice _ _ _, .slice _ _ _, .slice _ _ _, .slice _ _ _]] rfl rfl rfl rfl rfl rfl rfl rfl fun b58 hb58 => ?_
    refine qK [_, _, _, _, _, _] rfl ?_
    refine qA (qC (v := .slice _ _ _) rfl) ?_
    refine qA (qC (v := .slice _ _ _) rfl) ?_
    refine qA (qC (v := .slice _ _ _) rfl) ?_
    refine qA (qC (v := .slice _ _ _) rfl) ?_
    refine wD (zc := [_]) (vs := [(0, .slice _ _ _), (1, .slice _ _ _), (2, .slice _ _ _), (3, .slice _ _ _)]) (cs := [_, _, _, _]) rfl rfl rfl rfl rfl rfl rfl fun b63 hb63 => ?_
    refine qK [_, _, _, _, _, _, _] rfl ?_
    refine qA (qE (v := .slice _ _ _) rfl) ?_
    refine qA (qE (v := .slice _ _ _) rfl) ?_
    refine qD ?_
    refine qD ?_
    refine qB rfl ?_
    refine qA (qE (v := .int .i64 _) rfl) ?_
    refine qP ?_
    refine goes_pub 5 rfl ?_
    intro g7 G7 P7
    refine goes_pub 6 rfl ?_
    intro g8 G8 P8
    obtain ⟨ms, hms⟩ : ∃ x : List MachP, x = [m0, m, m, m] := ⟨_, rfl⟩
    obtain ⟨ls', hls'⟩ : ∃ x : List (List EvP), x = [es0, es, ho, es0] := ⟨_, rfl⟩
    have hml : ms.length = 4 := by rw [hms]; rfl
    have hll : ls'.length = 4 := by rw [hls']; rfl
    have hmS : ∀ x ∈ ms, Sml x := by rw [hms]; exact all4 S0 Md.sml Md.sml Md.sml
    have hlS : ∀ x ∈ ls', x.length ≤ 20 := by rw [hls']; exact all4 hn20 (by omega) (by omega) hn20
    have R6 := row_of_block (enc := id) (m := 9) (l := [machC AB0 AQ0 AL0 AW0 cB0 cQ0 cL0 cW0 m0, machC AB AQ AL AW cB cQ cL cW m, machC AB AQ AL AW cB cQ cL cW m, machC AB AQ AL AW cB cQ cL cW m]) (all4 rfl rfl rfl rfl) P7
    have R7 := row_of_block (enc := id) (m := 1) (l := [[.slice UA0 es0.length cU0], [.slice A5 es.length c5], [.slice a6.A es.length a6.c], [.slice UA0 es0.length cU0]]) (all4 rfl rfl rfl rfl) P8
    have EL6 : Els g8 TMa ms [machC AB0 AQ0 AL0 AW0 cB0 cQ0 cL0 cW0 m0, machC AB AQ AL AW cB cQ cL cW m, machC AB AQ AL AW cB cQ cL cW m, machC AB AQ AL AW cB cQ cL cW m] := by
     rw [hms]
     exact els4 ⟨_, _, _, _, _, _, _, _, rfl, RM0.ext (zM (zM (zM (zM (zM (zM (zM (zM G0 E1) E2) E5) E1a) E_ho) GO) G7) G8), u1, u2⟩ ⟨_, _, _, _, _, _, _, _, rfl, RM.ext (zM (zM (zM (zM (zM E5 E1a) E_ho) GO) G7) G8), hcQ, hcL⟩ ⟨_, _, _, _, _, _, _, _, rfl, RM.ext (zM (zM (zM (zM (zM E5 E1a) E_ho) GO) G7) G8), hcQ, hcL⟩ ⟨_, _, _, _, _, _, _, _, rfl, RM.ext (zM (zM (zM (zM (zM E5 E1a) E_ho) GO) G7) G8), hcQ, hcL⟩
    have EL7 : Els g8 TE ls' [[.slice UA0 es0.length cU0], [.slice A5 es.length c5], [.slice a6.A es.length a6.c], [.slice UA0 es0.length cU0]] := by
     rw [hls']
     exact els4 ⟨_, _, rfl, RU0.ext (zM (zM (zM (zM (zM (zM (zM (zM G0 E1) E2) E5) E1a) E_ho) GO) G7) G8)⟩ ⟨_, _, rfl, R5.ext (zM (zM (zM (zM E1a E_ho) GO) G7) G8)⟩ ⟨_, _, by rw [lo], RO.ext (zM G7 G8)⟩ ⟨_, _, rfl, RU0.ext (zM (zM (zM (zM (zM (zM (zM (zM G0 E1) E2) E5) E1a) E_ho) GO) G7) G8)⟩
    generalize [machC AB0 AQ0 AL0 AW0 cB0 cQ0 cL0 cW0 m0, machC AB AQ AL AW cB cQ cL cW m, machC AB AQ AL AW cB cQ cL cW m, machC AB AQ AL AW cB cQ cL cW m] = cs6 at R6 EL6
    generalize [[Value.slice UA0 es0.length cU0], [.slice A5 es.length c5], [.slice a6.A es.length a6.c], [.slice UA0 es0.length cU0]] = cs7 at R7 EL7
    refine xp_loopB [10, 17, 18, 19, 20, 21, 22, 23, 24, 64, 65, 66, 67, 68, 69, 70, 71, 72, 73, 74, 75, 76, 77, 78, 79, 80, 81, 82, 83, 84, 85, 86, 87, 88, 89, 90, 91, 92, 93, 94, 95, 96, 97, 98, 99, 100, 101, 102, 103, 104, 105, 106, 107, 108, 109, 110, 111, 112, 113, 114, 115, 116, 117, 118, 119, 120, 121, 122, 123, 124, 125, 126, 127, 128, 129, 130, 131, 132, 133, 134] 7 (α := Nat) (fun i => [(17, .int .i64 i)]) (fun i => _) (fun i h_i => i ≤ 4) (fun i => 4 - i) (0) ⟨rfl, trivial⟩ (rfl) (Nat.zero_le _) ?_
    rintro i T3 h_i E_i J_i
    refine qS [_, _, _, _, _, _, _] rfl ?_
    refine qD ?_
    refine qD ?_
    refine qB rfl ?_
    refine qA (qC (v := .int .i64 _) rfl) ?_
    refine qA (qC (v := .slice _ _ _) rfl) ?_
    refine qA (wP rfl rfl) ?_
    refine qA (qL (v := .bool _) rfl) ?_
    refine qR rfl (fun hi => ?_) (fun hi => ?_)
    ·skip
     have hil : i < 4 := by have := of_decide_eq_true hi; omega
     have him : i < ms.length := by omega
     have hiu : i < ls'.length := by omega
     have SM := hmS _ (List.getElem_mem him)
     have Su := hlS _ (List.getElem_mem hiu)
     have SMw := SM.w
     obtain ⟨hic, xB, xQ, xL, xW, yB, yQ, yL, yW, e6, RMi, hq1, hq2⟩ := (EL6.ext TMa.mono E_i).at him
     obtain ⟨hid, xU, yU, e7, RUi⟩ := (EL7.ext TE.mono E_i).at hiu
     obtain ⟨gM, oM, hA, hcM⟩ := (R6.ext (zM G8 E_i)).at (by omega) hic
     obtain ⟨gU, oU, hU, hcU⟩ := (R7.ext E_i).at (by omega) hid
     have hcM : Cells h_i gM (oM + i * 9) (machC xB xQ xL xW yB yQ yL yW ms[i]) := by rw [← e6]; exact hcM
     have hcU : Cells h_i gU (oU + i * 1) [.slice xU ls'[i].length yU] := by rw [← e7]; exact hcU
     generalize ms[i] = mi at *
     generalize ls'[i] = li at *
     refine qO ?_
     refine qD ?_
     refine qP ?_
     refine qD ?_
     refine xp_dw [false, false, false, false, false, false, false, true] rfl rfl rfl ?_
     refine qI (i := 0) rfl (by decide +kernel) (qC (v := .slice _ _ _) rfl) ?_
     refine qI (i := 1) rfl (by decide +kernel) (qC (v := .int .i64 _) rfl) ?_
     refine qI (i := 2) rfl (by decide +kernel) (wO (m := 9) rfl hA rfl rfl rfl (by omega) (by omega)) ?_
     refine qZ (i := 3) rfl (by decide +kernel) ?_
     refine op_loadA rfl rfl rfl rfl (hcM.ext (Ext.refl _)) ?_
     refine qI (i := 6) rfl (by decide +kernel) (qC (v := .slice _ _ _) rfl) ?_
     refine qI (i := 7) rfl (by decide +kernel) (qC (v := .int .i64 _) rfl) ?_
     refine qI (i := 8) rfl (by decide +kernel) (wO (m := 1) rfl hU rfl rfl rfl (by omega) (by omega)) ?_
     refine qZ (i := 9) rfl (by decide +kernel) ?_
     refine wT (v := .slice _ _ _) rfl rfl (((hcU.ext (Ext.refl _))) 0 _ rfl) ?_
     refine dw_eff (i := 4) rfl (by decide +kernel) ?_
     refine wK (caps := []) (vs := [.agg _]) rfl rfl rfl (CopyMachine_ok mi SM xB xQ xL xW yB yQ yL yW h_i (RMi.ext (Ext.refl _))) ?_
     rintro _ k1 F1 ⟨zB, zQ, zL, zW, wB, wQ, wL, wW, rfl, RMo⟩
     refine ⟨ext_wlm F1 _, ?_⟩
     refine dw_eff (i := 5) rfl (by decide +kernel) ?_
     refine wD (zc := [_, _]) (vs := []) (cs := []) rfl rfl rfl rfl rfl rfl rfl fun b75 hb75 => ?_
     refine ⟨ext_newM hb75 _, ?_⟩
     refine wS [_, _, _, _, _, _, _, _] rfl ?_
     refine zF (i := 10) rfl (by decide +kernel) (by decide +kernel) ?_
     refine wZ 7 accR_new rfl rfl rfl (fun V => (RUi.2.ext F1).ext (qQ V)) (evL li) (flat_plain evPl li) rfl rfl rfl rfl rfl rfl rfl (by omega) rfl (by rw [evL, List.length_nil]; omega) fun a7 h4a E4a ha7 => ?_
     refine wS [_, _, _, _, _, _, _, _] rfl ?_
     have hn7 : a7.n = li.length := by have := AccR.len ha7; rw [List.nil_append, evL] at this; omega
     refine dw_eff (i := 11) rfl (by decide +kernel) ?_
     refine zA (cs := [_, _, _, _, _, _, _, _, _]) rfl rfl fun b18 hb18 => ?_
     refine ⟨ext_newM hb18 _, ?_⟩
     refine wS [_, _, _, _, _, _, _, _, _] rfl ?_
     refine zF (i := 12) rfl (by decide +kernel) (by decide +kernel) ?_
     refine qW 8 (v := .agg #[.int .i64 _, .int .i64 _, .int .i64 _, .int .i64 _, .int .i64 _, .slice _ _ _, .slice _ _ _, .slice _ _ _, .slice _ _ _]) (vs := [_, _, _, _, _, _, _, _, _]) (c' := [_, _, _, _, _, _, _, _, _]) rfl rfl rfl rfl rfl rfl rfl rfl rfl ?_
     refine wS [_, _, _, _, _, _, _, _, _] rfl ?_
     refine qI (i := 13) rfl (by decide +kernel) (qE (v := .slice _ _ _) rfl) ?_
     refine zI rfl ?_
     refine goes_pubO 7 rfl ?_
     intro g9 G9 P9
     refine qS [_, _, _, _, _, _, _, _, _] rfl ?_
     have RUo : Row g9 2 evC a7.A li := ⟨fun _ _ => rfl, AccR.rd ha7 P9⟩
     rw [hn7]
     refine qD ?_
     refine qB rfl ?_
     refine wE 8 (vs := [.int .i64 _, .int .i64 _, .int .i64 _, .int .i64 _, .int .i64 _, .slice _ _ _, .slice _ _ _, .slice _ _ _, .slice _ _ _]) rfl rfl rfl rfl rfl ?_
     refine qA (qC (v := .slice _ _ _) rfl) ?_
     refine wK (caps := []) (vs := [.agg _, .slice _ _ _]) rfl rfl rfl (Play_ok rfl mi li zB zQ zL zW a7.A wB wQ wL wW a7.c g9 (RMo.ext (zM E4a G9)) (RUo.ext (Ext.refl _)) (by omega) (by omega)) ?_
     rintro _ k3 F3 ⟨_, rfl, SX3⟩
     obtain ⟨c3, A3, d3, rfl, R3, EL3⟩ := SlX.els SX3
     refine qA (qC (v := .tuple #[.slice _ _ _, .int .i64 _]) rfl) ?_
     refine qA (qL (v := .slice _ _ _) rfl) ?_
     refine qA (qL (v := .int .i64 _) rfl) ?_
     refine qA (qE (v := .slice _ _ _) rfl) ?_
     refine qA (qE (v := .int .i64 _) rfl) ?_
     refine qD ?_
     refine xp_dw [] rfl rfl rfl ?_
     refine qI (i := 0) rfl (by decide +kernel) (qC (v := .slice _ _ _) rfl) ?_
     refine qI (i := 1) rfl (by decide +kernel) (qC (v := .int .i64 _) rfl) ?_
     refine qI (i := 2) rfl (by decide +kernel) (wO (m := 9) rfl hA rfl rfl rfl (by omega) (by omega)) ?_
     refine qZ (i := 3) rfl (by decide +kernel) ?_
     refine op_loadA rfl rfl rfl rfl (hcM.ext (zM (zM (zM F1 E4a) G9) F3)) ?_
     refine qI (i := 4) rfl (by decide +kernel) (qC (v := .slice _ _ _) rfl) ?_
     refine qI (i := 5) rfl (by decide +kernel) (qC (v := .int .i64 _) rfl) ?_
     refine qI (i := 6) rfl (by decide +kernel) (wO (m := 1) rfl hU rfl rfl rfl (by omega) (by omega)) ?_
     refine qZ (i := 7) rfl (by decide +kernel) ?_
     refine wT (v := .slice _ _ _) rfl rfl (((hcU.ext (zM (zM (zM F1 E4a) G9) F3))) 0 _ rfl) ?_
     refine zF (i := 8) rfl (by decide +kernel) (by decide +kernel) ?_
     refine wK (caps := []) (vs := [.agg _, .slice _ _ _]) rfl rfl rfl (PlayR_ok mi SM li xB xQ xL xW xU yB yQ yL yW yU k3 (RMi.ext (zM (zM (zM F1 E4a) G9) F3)) (RUi.ext (zM (zM (zM F1 E4a) G9) F3)) (by omega)) ?_
     rintro _ k4 F4 ⟨_, rfl, SX4⟩
     obtain ⟨c4, A4, d4, rfl, R4, EL4⟩ := SlX.els SX4
     have n1 : ((playM mi li).1 != (playM mi li).1) = false := by simp
     refine qI (i := 9) rfl (by decide +kernel) (qC (v := .tuple #[.slice _ _ _, .int .i64 _]) rfl) ?_
     refine qI (i := 10) rfl (by decide +kernel) (qL (v := .slice _ _ _) rfl) ?_
     refine qI (i := 11) rfl (by decide +kernel) (qL (v := .int .i64 _) rfl) ?_
     refine qI (i := 12) rfl (by decide +kernel) (qE (v := .slice _ _ _) rfl) ?_
     refine qI (i := 13) rfl (by decide +kernel) (qE (v := .int .i64 _) rfl) ?_
     refine zI rfl ?_
     refine qD ?_
     refine qD ?_
     refine xp_dw [] rfl rfl rfl ?_
     refine qI (i := 0) rfl (by decide +kernel) (qC (v := .int .i64 _) rfl) ?_
     refine qI (i := 1) rfl (by decide +kernel) (qC (v := .int .i64 _) rfl) ?_
     refine qI (i := 2) rfl (by decide +kernel) (qL (v := .bool _) rfl) ?_
     refine qI (i := 3) rfl (by decide +kernel) (qC (v := .bool _) rfl) ?_
     refine dw_pureG (i := 4) rfl (by decide +kernel) rfl n1 (qC (v := .slice _ _ _) rfl) ?_
     refine dw_pureG (i := 5) rfl (by decide +kernel) rfl n1 (qC (v := .slice _ _ _) rfl) ?_
     refine dw_lastG (i := 6) rfl (by decide +kernel) (by decide +kernel) rfl n1 ?_
     refine wK (caps := []) (vs := [.slice _ _ _, .slice _ _ _]) rfl rfl rfl (sameListsT_ok (playM mi li).2 A3 A4 d3 d4 c3 c4 k4 (R3.ext F4) (EL3.ext TL.mono F4) (R4.ext (Ext.refl _)) (EL4.ext TL.mono (Ext.refl _)) (playM_le mi li (by omega))) ?_
     rintro _ k5 F5 rfl
     refine dw_pureG (i := 7) rfl (by decide +kernel) rfl n1 (qL (v := .bool _) rfl) ?_
     refine qI (i := 8) rfl (by decide +kernel) (wN rfl n1 (v := .bool _) rfl) ?_
     refine qI (i := 9) rfl (by decide +kernel) (qC (v := .bool _) rfl) ?_
     refine dw_loadG (i := 10) rfl (by decide +kernel) rfl rfl ?_
     refine wE 8 (vs := [.int .i64 _, .int .i64 _, .int .i64 _, .int .i64 _, .int .i64 _, .slice _ _ _, .slice _ _ _, .slice _ _ _, .slice _ _ _]) rfl rfl rfl rfl rfl ?_
     refine dw_pureG (i := 11) rfl (by decide +kernel) rfl rfl (qC (v := .slice _ _ _) rfl) ?_
     refine dw_pureG (i := 12) rfl (by decide +kernel) rfl rfl (qC (v := .int .i64 _) rfl) ?_
     refine dw_pureG (i := 13) rfl (by decide +kernel) rfl rfl (wO (m := 9) rfl hA rfl rfl rfl (by omega) (by omega)) ?_
     refine dw_loadG (i := 14) rfl (by decide +kernel) rfl rfl ?_
     refine op_loadA rfl rfl rfl rfl (hcM.ext (zM (zM (zM (zM (zM F1 E4a) G9) F3) F4) F5)) ?_
     refine dw_lastG (i := 15) rfl (by decide +kernel) (by decide +kernel) rfl rfl ?_
     refine wK (caps := []) (vs := [.agg _, .agg _]) rfl rfl rfl (SameMachines_ok mi SM zB zQ zL zW wB wQ wL wW xB xQ xL xW yB yQ yL yW k5 (RMo.ext (zM (zM (zM (zM E4a G9) F3) F4) F5)) (RMi.ext (zM (zM (zM (zM (zM F1 E4a) G9) F3) F4) F5))) ?_
     rintro _ k6 F6 rfl
     refine dw_pureG (i := 16) rfl (by decide +kernel) rfl rfl (qL (v := .bool _) rfl) ?_
     refine qI (i := 17) rfl (by decide +kernel) (wN rfl rfl (v := .bool _) rfl) ?_
     refine zI rfl ?_
     refine zC rfl (rfl) ?_
     refine qO ?_
     refine qD ?_
     refine qB rfl ?_
     refine qA (qE (v := .int .i64 _) rfl) ?_
     refine qP ?_
     refine xp_loopB [10, 24, 117, 118, 119, 120, 121, 122, 123, 124, 125, 126, 127, 128, 129, 130, 131, 132, 133, 134] 9 (α := Nat) (fun k => [(24, .int .i64 k)]) (fun k => _) (fun k h_k => k ≤ li.length) (fun k => li.length - k) (0) ⟨rfl, trivial⟩ (rfl) (Nat.zero_le _) ?_
     rintro k T5 h_k E_k J_k
     refine qS [_, _, _, _, _, _, _, _, _] rfl ?_
     refine qD ?_
     refine qD ?_
     refine qB rfl ?_
     refine qA (qC (v := .int .i64 _) rfl) ?_
     refine qA (qC (v := .slice _ _ _) rfl) ?_
     refine qA (wP rfl rfl) ?_
     refine qA (qL (v := .bool _) rfl) ?_
     refine qR rfl (fun hk => ?_) (fun hk => ?_)
     ·skip
      have hkl : k < li.length := ltI hk
      obtain ⟨gx, ox, hX, hcX⟩ := (RUo.ext (zM (zM (zM (zM F3 F4) F5) F6) E_k)).at (by omega) hkl
      obtain ⟨gy, oy, hY, hcY⟩ := (RUi.ext (zM (zM (zM (zM (zM (zM (zM F1 E4a) G9) F3) F4) F5) F6) E_k)).at (by omega) hkl
      refine qO ?_
      refine qD ?_
      refine qP ?_
      refine qD ?_
      refine xp_dw [] rfl rfl rfl ?_
      refine qI (i := 0) rfl (by decide +kernel) (qC (v := .slice _ _ _) rfl) ?_
      refine qI (i := 1) rfl (by decide +kernel) (qC (v := .int .i64 _) rfl) ?_
      refine qI (i := 2) rfl (by decide +kernel) (wO rfl hX rfl rfl rfl (by omega) (by omega)) ?_
      refine qZ (i := 3) rfl (by decide +kernel) ?_
      refine op_loadA rfl rfl rfl rfl (hcX) ?_
      refine qI (i := 4) rfl (by decide +kernel) (qC (v := .slice _ _ _) rfl) ?_
      refine qI (i := 5) rfl (by decide +kernel) (qC (v := .int .i64 _) rfl) ?_
      refine qI (i := 6) rfl (by decide +kernel) (wO (m := 1) rfl hU rfl rfl rfl (by omega) (by omega)) ?_
      refine qZ (i := 7) rfl (by decide +kernel) ?_
      refine wT (v := .slice _ _ _) rfl rfl ((hcU.ext (zM (zM (zM (zM (zM (zM (zM F1 E4a) G9) F3) F4) F5) F6) E_k)) 0 _ rfl) ?_
      refine qI (i := 8) rfl (by decide +kernel) (qC (v := .int .i64 _) rfl) ?_
      refine qI (i := 9) rfl (by decide +kernel) (wO rfl hY rfl rfl rfl (by omega) (by omega)) ?_
      refine qZ (i := 10) rfl (by decide +kernel) ?_
      refine op_loadA rfl rfl rfl rfl (hcY) ?_
      refine qI (i := 11) rfl (by decide +kernel) (pv_neA rfl rfl (by kernel_rfl) (evSelf _)) ?_
      refine zI rfl ?_
      refine zC rfl (rfl) ?_
      refine qO ?_
      refine qB rfl ?_
      refine qA (qC (v := .int .i64 _) rfl) ?_
      refine qA (qT rfl (by omega)) ?_
      refine qA (qE (v := .int .i64 _) rfl) ?_
      refine ⟨k + 1, ⟨rfl, trivial⟩, rfl, rfl, E_k, fun h3 E3 => hkl, by first | omega | (dsimp only; omega), ?_⟩
      repeat (first | exact qY _ _ _ | refine wG (by decide) ?_ | refine qX rfl ?_ | refine wH rfl ?_)
     ·skip
      refine wV ?_
      refine qB rfl ?_
      refine qA (qC (v := .int .i64 _) rfl) ?_
      refine qA (qT rfl (by omega)) ?_
      refine qA (qE (v := .int .i64 _) rfl) ?_
      refine ⟨i + 1, ⟨rfl, trivial⟩, rfl, rfl, (zM (zM (zM (zM (zM (zM (zM (zM E_i F1) E4a) G9) F3) F4) F5) F6) E_k), fun h3 E3 => by omega, by first | omega | (dsimp only; omega), ?_⟩
      repeat (first | exact qY _ _ _ | refine wG (by decide) ?_ | refine qX rfl ?_ | refine wH rfl ?_)
    ·skip
     refine wV ?_
     refine qD ?_
     refine qB rfl ?_
     refine wK (caps := []) (vs := []) rfl rfl rfl (rod_sounding rfl h_i) ?_
     rintro _ h26 E26 rfl
     refine qA (qE (v := .bool _) rfl) ?_
     refine qV ?_
     exact ⟨rfl, fun V => (zM (zM (zM (zM (zM (zM (zM (zM (zM (zM (zM G0 E1) E2) E5) E1a) E_ho) GO) G7) G8) E_i) E26) (qQ V)), rfl⟩
end
end Go.Proofs.Ythphpbdmbmiaiaa
