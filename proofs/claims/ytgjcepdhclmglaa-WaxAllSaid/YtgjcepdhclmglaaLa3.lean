/- An own logic over the model, its walks and its plain laws, joined of parts W8 W9 Y Sv W10 W11 Z W12 W13 Sw W14 W15 Sx. Conditions: as each theorem states. -/
import Derived.Test.YtgjcepdhclmglaaLa2
set_option linter.all false
namespace Go.Proofs.Ytgjcepdhclmglaa
open Go Go.HL Go.Proofs Go.Wx
variable [Lvl]
set_option maxRecDepth 100000
structure NextB (h : AH) (l : List Rg) (A : Option Addr) (c : Nat) (y : Value) (b1 b2 b3 : Nat) : Prop where
 r : Row h 2 rgC A l
 c1 : h b1 = some (.cells #[.slice A l.length c] 25 (0, 0))
 c2 : ∃ t, h b2 = some (.cells #[y] t (0, 0))
 c3 : ∃ t, h b3 = some (.cells #[.func (.func 74) #[] #[.pointer (some ⟨b1, 0, none⟩), .pointer (some ⟨b2, 0, none⟩), .pointer (some ⟨b3, 0, none⟩)]] t (0, 0))
theorem NextB.ext {h h' : AH} {l : List Rg} {A : Option Addr} {c : Nat} {y : Value} {b1 b2 b3 : Nat} (B : NextB h l A c y b1 b2 b3) (E : Ext h h') : NextB h' l A c y b1 b2 b3 :=
 ⟨B.r.ext E, E _ _ B.c1, B.c2.imp fun _ e => E _ _ e, B.c3.imp fun _ e => E _ _ e⟩
theorem next_ok (all : List Sky) (y : Value) (I : Nat → AH → Pv → Prop) (hI : ∀ k h h' M, Ext h h' → I k h M → I k h' M) (Y : Yields Try.prog y all skyV I) (l : List Rg) (hl6 : l.length ≤ 6) (hr : ∀ r ∈ l, -1000 ≤ r.mn ∧ r.mn ≤ r.mx ∧ r.mx ≤ 1000) (A : Option Addr) (c b1 b2 b3 : Nat) :
  ∀ (r : List Rg) (k : Nat), l.drop k = r → k ≤ l.length → ∀ (x : Sky) (i : Nat) (h : AH) (M : Pv), NextB h l A c y b1 b2 b3 → I i h M → (∀ j s, (skiesM r k x)[j]? = some s → all[i + j]? = some s) →
   FnM Try.prog (.func (.func 74) #[] [.pointer (some ⟨b1, 0, none⟩), .pointer (some ⟨b2, 0, none⟩), .pointer (some ⟨b3, 0, none⟩)].toArray) [skyV x, .int .i64 k] h M (fun v h' M' => v = .bool true ∧ I (i + (skiesM r k x).length) h' M') := by
 intro r
 induction r with
 | nil =>
  intro k hd hk x i h M B hi ha
  have hkl : k = l.length := by
   have := congrArg List.length hd
   simp at this
   omega
  obtain ⟨t2, c2⟩ := B.c2
  refine fnM_body rfl rfl Try.func74 rfl Try.ntmps74 rfl ?_
  refine goes_front ?_
  refine qF ?_
  refine qC rfl ?_
  refine op_boxF 0 (v := .agg #[.int .i64 _, .int .i64 _, .int .i64 _, .int .i64 _, .int .i64 _, .int .i64 _]) (cs := [_, _, _, _, _, _]) rfl rfl rfl fun b5 hb5 => ?_
  refine qH (_ :: _) rfl ?_
  refine qA (qE (v := .bool _) rfl) ?_
  refine qF ?_
  refine qF ?_
  refine qC rfl ?_
  refine qA (qB (v := .int .i64 _) rfl) ?_
  refine qV (v := .slice _ _ _) rfl rfl (by simp only [cellA, B.c1]; rfl) ?_
  refine qA (wV rfl rfl) ?_
  refine qA (qK (v := .bool _) rfl) ?_
  refine xp_condT rfl (by rw [hkl]; simp) ?_
  refine qF ?_
  refine qC rfl ?_
  refine qV (v := y) rfl rfl (by simp only [cellA, c2]; rfl) ?_
  refine qX 0 (vs := [.int .i64 _, .int .i64 _, .int .i64 _, .int .i64 _, .int .i64 _, .int .i64 _]) rfl rfl rfl rfl rfl ?_
  refine op_fnM [_] _ (vs := _) rfl rfl rfl (Y i x h M (by have := ha 0 x rfl; simpa using this) hi) ?_
  rintro _ h1 M1 E1 ⟨rfl, i1⟩
  refine qA (qE (v := .bool _) rfl) ?_
  refine wK ?_
  refine qW (vs := [_]) Try.results74 ⟨qR rfl rfl, trivial⟩ fun V => ?_
  obtain ⟨h9, E9, e9, V9⟩ := wl_shed [_] _ V
  exact ⟨h9, _, e9, V9, zP E1 E9, rfl, hI _ _ _ _ E9 i1⟩
 | cons r rs ih =>
  intro k hd hk x i h M B hi ha
  have hkl : k < l.length := by
   have := congrArg List.length hd
   simp at this
   omega
  have hlk : l[k] = r := by
   have := List.drop_eq_getElem_cons hkl
   rw [hd] at this
   exact (List.cons.inj this).1.symm
  have hds : l.drop (k + 1) = rs := by
   have := List.drop_eq_getElem_cons hkl
   rw [hd] at this
   exact (List.cons.inj this).2.symm
  have hb := hr r (hlk ▸ List.getElem_mem hkl)
  obtain ⟨t3, c3⟩ := B.c3
  obtain ⟨g, off, rfl, hc⟩ := B.r.at (by omega) hkl
  rw [hlk] at hc
  refine fnM_body rfl rfl Try.func74 rfl Try.ntmps74 rfl ?_
  refine goes_front ?_
  refine qF ?_
  refine qC rfl ?_
  refine op_boxF 0 (v := .agg #[.int .i64 _, .int .i64 _, .int .i64 _, .int .i64 _, .int .i64 _, .int .i64 _]) (cs := [_, _, _, _, _, _]) rfl rfl rfl fun b5 hb5 => ?_
  refine qH (_ :: _) rfl ?_
  refine qA (qE (v := .bool _) rfl) ?_
  refine qF ?_
  refine qF ?_
  refine qC rfl ?_
  refine qA (qB (v := .int .i64 _) rfl) ?_
  refine qV (v := .slice _ _ _) rfl rfl (by simp only [cellA, B.c1]; rfl) ?_
  refine qA (wV rfl rfl) ?_
  refine qA (qK (v := .bool _) rfl) ?_
  refine zI rfl (by simp; omega) ?_
  refine qT ?_
  refine qF ?_
  refine qF ?_
  refine qC rfl ?_
  refine qV (v := .slice _ _ _) rfl rfl (by simp only [cellA, B.c1]; rfl) ?_
  refine qA (qB (v := .int .i64 _) rfl) ?_
  refine qA (qM rfl rfl rfl rfl (by omega) (by omega)) ?_
  refine qA (qG rfl rfl rfl rfl _ rfl) ?_
  refine qV (v := .int .i64 _) rfl rfl (hc 0 (.int .i64 r.mn) rfl) ?_
  refine qA (qE (v := .int .i64 _) rfl) ?_
  refine qN ?_
  refine xp_loopN [7, 8, 21, 22, 23, 24, 25, 26, 27, 28, 29, 30, 31, 32, 33, 34, 35, 36, 37, 38] (α := Int × Sky × Pv) (fun ⟨n, x', M'⟩ => [(8, .int .i64 n)]) (fun ⟨n, x', M'⟩ => some (b5, .cells (skyC x').toArray 89 (0, 0)) :: M') (fun ⟨n, x', M'⟩ h_n => ((r.mn ≤ n ∧ n ≤ r.mx + 1) ∧ (x' = x ∨ ∃ m, x' = x.set k m)) ∧ I (i + (skiesP r rs k x n).length) h_n M') (fun ⟨n, x', M'⟩ => (r.mx + 1 - n).toNat) ((r.mn, x, M)) ⟨rfl, trivial⟩ (rfl) (⟨⟨⟨by omega, by omega⟩, .inl rfl⟩, by unfold skiesP; rw [rangeI_nil (by omega)]; exact hi⟩) ?_
  rintro ⟨n, x', M'⟩ T1 h_n E_n J_n
  refine qP (_ :: _) rfl ?_
  have B' := B.ext E_n
  refine qF ?_
  refine qF ?_
  refine qC rfl ?_
  refine qA (qB (v := .int .i64 _) rfl) ?_
  refine qV (v := .slice _ _ _) rfl rfl (by simp only [cellA, B'.c1]; rfl) ?_
  refine qA (qB (v := .int .i64 _) rfl) ?_
  refine qA (qM rfl rfl rfl rfl (by omega) (by omega)) ?_
  refine qA (qG rfl rfl rfl rfl _ rfl) ?_
  refine qV (v := .int .i64 _) rfl rfl ((hc.ext E_n) 1 (.int .i64 r.mx) rfl) ?_
  refine qA (qK (v := .bool _) rfl) ?_
  refine wA rfl (fun hn => ?_) (fun hn => ?_)
  ·skip
   have hle : n ≤ r.mx := of_decide_eq_true hn
   have hxs : x'.set k n = x.set k n := by
    rcases J_n.1.2 with rfl | ⟨m, rfl⟩
    ·rfl
    ·exact Sky.set_set x m n k
   refine qT ?_
   refine qF ?_
   refine qN ?_
   refine qF ?_
   refine qC rfl ?_
   refine qA (qB (v := .int .i64 _) rfl) ?_
   refine qA (qB (v := .int .i64 _) rfl) ?_
   refine qA (pv_indexA rfl rfl rfl rfl (by omega) (by omega)) ?_
   refine qJ 0 (v := .int .i64 _) (vs := [_]) rfl rfl rfl rfl rfl rfl (Nat.ble_eq_true_of_le (show 0 + (k : Int).toNat * 1 + 1 ≤ 6 by omega)) rfl (sky_wr x' k n (by omega)) ?_
   refine qH (_ :: _) rfl ?_
   rw [hxs]
   refine qF ?_
   refine qC rfl ?_
   refine qV (v := .func _ _ _) rfl rfl (by simp only [cellA, E_n _ _ c3]; rfl) ?_
   refine qX 0 (vs := [.int .i64 _, .int .i64 _, .int .i64 _, .int .i64 _, .int .i64 _, .int .i64 _]) rfl rfl rfl rfl rfl ?_
   refine qA (qB (v := .int .i64 _) rfl) ?_
   refine qA (qO rfl (by omega)) ?_
   refine op_fnM [_] _ (vs := _) rfl rfl rfl (ih (k + 1) hds hkl (x.set k n) (i + (skiesP r rs k x n).length) h_n M' B' J_n.2 (fun j s hj => by rw [Nat.add_assoc]; exact ha _ s (skiesP_at J_n.1.1.1 hle hj))) ?_
   rintro _ h1 M1 E1 ⟨rfl, i1⟩
   refine qA (qK (v := .bool _) rfl) ?_
   refine zI rfl (by decide) ?_
   refine qT ?_
   refine qC rfl ?_
   refine qA (qB (v := .int .i64 _) rfl) ?_
   refine qA (qO rfl (by omega)) ?_
   refine qA (qE (v := .int .i64 _) rfl) ?_
   refine ⟨(n + 1, x.set k n, M1), ⟨rfl, trivial⟩, rfl, rfl, (zP E_n E1), ⟨⟨⟨by omega, by omega⟩, .inr ⟨n, rfl⟩⟩, by rw [skiesP_succ J_n.1.1.1, List.length_append, ← Nat.add_assoc]; exact i1⟩, by first | omega | (dsimp only; omega), ?_⟩
   repeat (first | exact qU _ _ _ | refine wB (by decide) ?_ | refine qS rfl ?_ | refine wN rfl ?_)
  ·skip
   have hnn : n = r.mx + 1 := by have := of_decide_eq_false hn; omega
   refine wU ?_
   refine qF ?_
   refine qC rfl ?_
   refine qA (qE (v := .bool _) rfl) ?_
   refine wK ?_
   refine qW (vs := [_]) Try.results74 ⟨qR rfl rfl, trivial⟩ fun V => ?_
   obtain ⟨h9, E9, e9, V9⟩ := wl_shed [_] _ V
   exact ⟨h9, _, e9, V9, zP E_n E9, rfl, hI _ _ _ _ E9 (by have := J_n.2; rw [hnn] at this; exact this)⟩
theorem skies1_ok (l : List Rg) (hl6 : l.length ≤ 6) (hr : ∀ r ∈ l, -1000 ≤ r.mn ∧ r.mn ≤ r.mx ∧ r.mx ≤ 1000) (A : Option Addr) (c b1 : Nat) (h0 : AH) (R : Row h0 2 rgC A l) (c1 : h0 b1 = some (.cells #[.slice A l.length c] 25 (0, 0))) :
  Iter Try.prog (.func (.func 73) #[] #[.pointer (some ⟨b1, 0, none⟩)]) h0 (skiesM l 0 sky0) skyV := by
 intro fn fs cs I hI Y h M E0 hi
 refine fnM_body (caps := [.pointer (some ⟨b1, 0, none⟩)]) rfl rfl Try.func73 rfl Try.ntmps73 rfl ?_
 refine goes_front ?_
 refine goes_front ?_
 refine qF ?_
 refine qC rfl ?_
 refine op_boxF 0 (v := _) (cs := [_]) rfl rfl rfl fun b2 hb2 => ?_
 refine qH (_ :: _ :: _) rfl ?_
 refine qF ?_
 refine qC rfl ?_
 refine op_allocF 1 (cs := [_]) rfl rfl rfl fun b3 hb3 => ?_
 refine qH (_ :: _ :: _) rfl ?_
 refine qF ?_
 refine qC rfl ?_
 refine qA (pv_makeFunc (vs := []) (ws := [_, _, _]) rfl rfl) ?_
 refine qJ 1 (v := _) (vs := [_]) (c' := [_]) rfl rfl rfl rfl rfl rfl rfl rfl rfl ?_
 refine qH (_ :: _ :: _) rfl ?_
 refine qC rfl ?_
 refine qI 1 (v := _) rfl rfl rfl rfl ?_
 refine qA (pv_buildA (zc := [_, _, _, _, _, _]) (vs := []) (cs := [_, _, _, _, _, _]) rfl rfl rfl rfl rfl rfl) ?_
 refine wp_pub 0 rfl rfl ?_
 intro h2 E2 p2
 refine qH (_ :: _ :: _) rfl ?_
 refine wp_pub 1 rfl rfl ?_
 intro h3 E3 p3
 refine qH (_ :: _ :: _) rfl ?_
 refine op_fnM [_, _] _ (vs := _) rfl rfl rfl (next_ok _ (.func fn fs cs) I hI Y l hl6 hr A c b1 b2 b3 l 0 rfl (Nat.zero_le _) sky0 0 h3 M ⟨R.ext (zP E0 (zP E2 E3)), E3 _ _ (E2 _ _ (E0 _ _ c1)), ⟨_, E3 _ _ p2⟩, ⟨_, p3⟩⟩ (hI _ _ _ _ (zP E2 E3) hi) (fun j s hj => by rw [Nat.zero_add]; exact hj)) ?_
 rintro _ h4 M4 E4 ⟨rfl, i4⟩
 refine qW (vs := []) Try.results73 trivial fun V => ?_
 obtain ⟨h9, E9, e9, V9⟩ := wl_shed [_, _] _ V
 exact ⟨h9, _, e9, V9, zP (zP (zP E2 E3) E4) E9, hI _ _ _ _ E9 (by rw [Nat.zero_add] at i4; exact i4)⟩
theorem skies_ok (l : List Rg) (hl6 : l.length ≤ 6) (hr : ∀ r ∈ l, -1000 ≤ r.mn ∧ r.mn ≤ r.mx ∧ r.mx ≤ 1000) (A : Option Addr) (c : Nat) (h : AH) (R : Row h 2 rgC A l) :
  FnT Try.prog 70 #[.slice A l.length c] h (fun v h' => Iter Try.prog v h' (skiesM l 0 sky0) skyV) := by
 refine wL Try.func70 rfl Try.ntmps70 rfl ?_
 refine qF ?_
 refine qC rfl ?_
 refine zF (v := .slice _ _ _) (cs := [_]) rfl rfl fun b1 hb1 => ?_
 refine qH [_] rfl ?_
 refine qA (qE (v := _) rfl) ?_
 refine qF ?_
 refine qC rfl ?_
 refine qA (pv_makeFunc (vs := []) (ws := [_]) rfl rfl) ?_
 refine qA (qE (v := _) rfl) ?_
 refine wK ?_
 refine qW (vs := [_]) Try.results70 ⟨qR rfl rfl, trivial⟩ fun V => ?_
 exact ⟨(wE V), skies1_ok l hl6 hr A c b1 _ (R.ext (wE V)) (wl_get V (i := 0) rfl)⟩
end Go.Proofs.Ytgjcepdhclmglaa
namespace Go.Proofs.Ytgjcepdhclmglaa
open Go Go.HL Go.Proofs Go.Wx
variable [Lvl]
set_option maxRecDepth 100000
def kindV (n : Int) : Value := if n = 1 then .iface 131 (.agg #[]) else .iface 132 (.agg #[])
theorem kindOf_ok (n : Int) (h : AH) : FnT Try.prog 54 #[.int .i64 n] h (fun v _ => v = kindV n) := by
 refine wL Try.func54 rfl Try.ntmps54 rfl ?_
 refine qF ?_
 refine qC rfl ?_
 refine qA (qE (v := _) rfl) ?_
 refine qF ?_
 refine qF ?_
 refine qC rfl ?_
 refine qA (qB (v := .int .i64 _) rfl) ?_
 refine qA (qK (v := .bool _) rfl) ?_
 refine wA rfl (fun hc => ?_) (fun hc => ?_)
 ·skip
  refine qF ?_
  refine qC rfl ?_
  refine qA (pv_build (zc := []) (vs := []) (cs := []) rfl rfl rfl rfl rfl rfl) ?_
  refine qA (qK (v := _) rfl) ?_
  refine qA (qE (v := _) rfl) ?_
  refine wK ?_
  refine qW (vs := [_]) Try.results54 ⟨qR rfl rfl, trivial⟩ fun V => ?_
  exact ⟨(wE V), by rw [kindV, if_pos (by simpa using hc)]; rfl⟩
 ·skip
  refine qT ?_
  refine qF ?_
  refine qC rfl ?_
  refine qA (pv_build (zc := []) (vs := []) (cs := []) rfl rfl rfl rfl rfl rfl) ?_
  refine qA (qK (v := _) rfl) ?_
  refine qA (qE (v := _) rfl) ?_
  refine wK ?_
  refine qW (vs := [_]) Try.results54 ⟨qR rfl rfl, trivial⟩ fun V => ?_
  exact ⟨(wE V), by rw [kindV, if_neg (by simpa using hc)]; rfl⟩
theorem waxWeather_ok (s : Season) (A0 A1 A2 A3 : Option Addr) (c0 c1 c2 c3 : Nat) (h : AH) : FnT Try.prog 93 #[.agg #[], seasonV A0 A1 A2 A3 c0 c1 c2 c3 s] h (fun v _ => v = .slice A0 s.heats.length c0) := by
 refine wL Try.func93 rfl Try.ntmps93 rfl ?_
 refine qF ?_
 refine qC rfl ?_
 refine zF (v := .agg #[]) (cs := []) rfl rfl fun b2 hb2 => ?_
 refine qH [_] rfl ?_
 refine zF (v := .agg #[.slice _ _ _, .slice _ _ _, .slice _ _ _, .slice _ _ _]) (cs := [_, _, _, _]) rfl rfl fun b3 hb3 => ?_
 refine qH [_, _] rfl ?_
 refine qA (qE (v := .slice _ _ _) rfl) ?_
 refine qF ?_
 refine qC rfl ?_
 refine qA (qG rfl rfl rfl rfl 0 rfl) ?_
 refine qI 1 (v := .slice _ _ _) rfl rfl rfl rfl ?_
 refine qA (qE (v := .slice _ _ _) rfl) ?_
 refine wK ?_
 refine qW (vs := [_]) Try.results93 ⟨qR rfl rfl, trivial⟩ fun V => ?_
 exact ⟨(wE V), rfl⟩
theorem leatherWeather_ok (s : Season) (A0 A1 A2 A3 : Option Addr) (c0 c1 c2 c3 : Nat) (h : AH) : FnT Try.prog 95 #[.agg #[], seasonV A0 A1 A2 A3 c0 c1 c2 c3 s] h (fun v _ => v = .slice A1 s.damps.length c1) := by
 refine wL Try.func95 rfl Try.ntmps95 rfl ?_
 refine qF ?_
 refine qC rfl ?_
 refine zF (v := .agg #[]) (cs := []) rfl rfl fun b2 hb2 => ?_
 refine qH [_] rfl ?_
 refine zF (v := .agg #[.slice _ _ _, .slice _ _ _, .slice _ _ _, .slice _ _ _]) (cs := [_, _, _, _]) rfl rfl fun b3 hb3 => ?_
 refine qH [_, _] rfl ?_
 refine qA (qE (v := .slice _ _ _) rfl) ?_
 refine qF ?_
 refine qC rfl ?_
 refine qA (qG rfl rfl rfl rfl 1 rfl) ?_
 refine qI 1 (v := .slice _ _ _) rfl rfl rfl rfl ?_
 refine qA (qE (v := .slice _ _ _) rfl) ?_
 refine wK ?_
 refine qW (vs := [_]) Try.results95 ⟨qR rfl rfl, trivial⟩ fun V => ?_
 exact ⟨(wE V), rfl⟩
theorem waxUnder_ok (s : Season) (A0 A1 A2 A3 B : Option Addr) (c0 c1 c2 c3 n c : Nat) (h : AH) : FnT Try.prog 92 #[.agg #[], seasonV A0 A1 A2 A3 c0 c1 c2 c3 s, .slice B n c] h (fun v _ => v = .agg #[.slice B n c, .slice A1 s.damps.length c1, .slice A2 s.joints.length c2, .slice A3 s.reports.length c3]) := by
 refine wL Try.func92 rfl Try.ntmps92 rfl ?_
 refine qF ?_
 refine qC rfl ?_
 refine zF (v := .agg #[]) (cs := []) rfl rfl fun b3 hb3 => ?_
 refine qH [_] rfl ?_
 refine zF (v := .agg #[.slice _ _ _, .slice _ _ _, .slice _ _ _, .slice _ _ _]) (cs := [_, _, _, _]) rfl rfl fun b4 hb4 => ?_
 refine qH [_, _] rfl ?_
 refine wO (cs := [_, _, _, _]) rfl rfl fun b6 hb6 => ?_
 refine qH [_, _, _] rfl ?_
 refine qF ?_
 refine qC rfl ?_
 refine qA (qB (v := .slice _ _ _) rfl) ?_
 refine qA (qG rfl rfl rfl rfl 0 rfl) ?_
 refine qJ 1 (v := .slice _ _ _) (vs := [_]) (c' := [_, _, _, _]) rfl rfl rfl rfl rfl rfl rfl rfl rfl ?_
 refine qH [_, _, _] rfl ?_
 refine qF ?_
 refine qC rfl ?_
 refine qX 1 (vs := [.slice _ _ _, .slice _ _ _, .slice _ _ _, .slice _ _ _]) rfl rfl rfl rfl rfl ?_
 refine qJ 2 (v := .agg #[.slice _ _ _, .slice _ _ _, .slice _ _ _, .slice _ _ _]) (vs := [_, _, _, _]) (c' := [_, _, _, _]) rfl rfl rfl rfl rfl rfl rfl rfl rfl ?_
 refine qH [_, _, _] rfl ?_
 refine wK ?_
 refine qW (vs := [_]) Try.results92 ⟨resV_agg 2 rfl rfl rfl rfl rfl (vs := [.slice _ _ _, .slice _ _ _, .slice _ _ _, .slice _ _ _]) rfl, trivial⟩ fun V => ?_
 exact ⟨(wE V), rfl⟩
theorem leatherUnder_ok (s : Season) (A0 A1 A2 A3 B : Option Addr) (c0 c1 c2 c3 n c : Nat) (h : AH) : FnT Try.prog 94 #[.agg #[], seasonV A0 A1 A2 A3 c0 c1 c2 c3 s, .slice B n c] h (fun v _ => v = .agg #[.slice A0 s.heats.length c0, .slice B n c, .slice A2 s.joints.length c2, .slice A3 s.reports.length c3]) := by
 refine wL Try.func94 rfl Try.ntmps94 rfl ?_
 refine qF ?_
 refine qC rfl ?_
 refine zF (v := .agg #[]) (cs := []) rfl rfl fun b3 hb3 => ?_
 refine qH [_] rfl ?_
 refine zF (v := .agg #[.slice _ _ _, .slice _ _ _, .slice _ _ _, .slice _ _ _]) (cs := [_, _, _, _]) rfl rfl fun b4 hb4 => ?_
 refine qH [_, _] rfl ?_
 refine wO (cs := [_, _, _, _]) rfl rfl fun b6 hb6 => ?_
 refine qH [_, _, _] rfl ?_
 refine qF ?_
 refine qC rfl ?_
 refine qA (qB (v := .slice _ _ _) rfl) ?_
 refine qA (qG rfl rfl rfl rfl 1 rfl) ?_
 refine qJ 1 (v := .slice _ _ _) (vs := [_]) (c' := [_, _, _, _]) rfl rfl rfl rfl rfl rfl rfl rfl rfl ?_
 refine qH [_, _, _] rfl ?_
 refine qF ?_
 refine qC rfl ?_
 refine qX 1 (vs := [.slice _ _ _, .slice _ _ _, .slice _ _ _, .slice _ _ _]) rfl rfl rfl rfl rfl ?_
 refine qJ 2 (v := .agg #[.slice _ _ _, .slice _ _ _, .slice _ _ _, .slice _ _ _]) (vs := [_, _, _, _]) (c' := [_, _, _, _]) rfl rfl rfl rfl rfl rfl rfl rfl rfl ?_
 refine qH [_, _, _] rfl ?_
 refine wK ?_
 refine qW (vs := [_]) Try.results94 ⟨resV_agg 2 rfl rfl rfl rfl rfl (vs := [.slice _ _ _, .slice _ _ _, .slice _ _ _, .slice _ _ _]) rfl, trivial⟩ fun V => ?_
 exact ⟨(wE V), rfl⟩
theorem fateK : KeyT Try.prog 95 fateV := by
 refine ⟨fun e a => ?_, fun a b => ?_, fun td ht a b => ?_, ⟨_, rfl⟩, fun a => by simp [Instr.sameBits, fateV]⟩
 ·refine chk_array (len := 3) rfl rfl ?_
  intro i hi
  match i, hi with
  | 0, _ => exact ⟨_, rfl, chk_int rfl⟩
  | 1, _ => exact ⟨_, rfl, chk_int rfl⟩
  | 2, _ => exact ⟨_, rfl, chk_int rfl⟩
 ·have h1 := eq_array (P := Try.prog) (t := 95) (d := 9999) (len := 3) (xs := #[.int .u64 a.a, .int .u64 a.b, .int .u64 a.c]) (ys := #[.int .u64 b.a, .int .u64 b.b, .int .u64 b.c]) (rs := [(a.a : Int) == b.a, (a.b : Int) == b.b, (a.c : Int) == b.c]) rfl rfl rfl ?_
  ·refine h1.trans ?_
   simp
   obtain ⟨a1, a2, a3⟩ := a
   obtain ⟨b1, b2, b3⟩ := b
   simp [natBeq]
  ·intro i r hr
   match i, hr with
   | 0, hr => cases hr; exact ⟨_, _, rfl, rfl, eq_int rfl _ _⟩
   | 1, hr => cases hr; exact ⟨_, _, rfl, rfl, eq_int rfl _ _⟩
   | 2, hr => cases hr; exact ⟨_, _, rfl, rfl, eq_int rfl _ _⟩
   | i + 3, hr => simp at hr
 ·left
  cases ht
  rfl
theorem skyEq (a b : Sky) : pev Try.prog (Op.equalIn Op.maxDepth 89 (.agg (skyC a).toArray) (.agg (skyC b).toArray)) = some (decide (a = b)) := by
 have h1 := eq_array (P := Try.prog) (t := 89) (d := 9999) (len := 6) (xs := (skyC a).toArray) (ys := (skyC b).toArray) (rs := [a.x0 == b.x0, a.x1 == b.x1, a.x2 == b.x2, a.x3 == b.x3, a.x4 == b.x4, a.x5 == b.x5]) rfl rfl rfl ?_
 ·refine h1.trans ?_
  obtain ⟨a0, a1, a2, a3, a4, a5⟩ := a
  obtain ⟨b0, b1, b2, b3, b4, b5⟩ := b
  simp only [List.all_cons, List.all_nil, id, Bool.and_true, Option.some.injEq]
  rw [Bool.eq_iff_iff]
  simp
 ·intro i r hr
  match i, hr with
  | 0, hr => cases hr; exact ⟨_, _, rfl, rfl, eq_int rfl _ _⟩
  | 1, hr => cases hr; exact ⟨_, _, rfl, rfl, eq_int rfl _ _⟩
  | 2, hr => cases hr; exact ⟨_, _, rfl, rfl, eq_int rfl _ _⟩
  | 3, hr => cases hr; exact ⟨_, _, rfl, rfl, eq_int rfl _ _⟩
  | 4, hr => cases hr; exact ⟨_, _, rfl, rfl, eq_int rfl _ _⟩
  | 5, hr => cases hr; exact ⟨_, _, rfl, rfl, eq_int rfl _ _⟩
  | i + 6, hr => simp at hr
end Go.Proofs.Ytgjcepdhclmglaa
namespace Go.HL
open Go Go.Wx
variable [Lvl]
section
variable {P : Program} {n : Nat} {ops : Array Oper} {d : Option Tmp} {op : Op} {ty : TypeId} {ps : String} {af : Array Edge} {os : List Oper} {K : Sl → Pv → AH → Prop} {E : Value → Sl → Pv → AH → Prop} {S : Sl} {L : Pv} {h : AH}
theorem op_loadW {t : TypeId} {x : Operand} {g off m : Nat} {cs : List Value} (hx : ev n S x = .pointer (some ⟨g, off, none⟩)) (ha : pev P (isAgg t) = some true) (hs : pev P (sizeOf t) = some m)
  (hm : cs.length = m) (hc : Valid h L → Cells (wl h L) g off cs) (k : wpL P n ops os K E (put S d (.agg cs.toArray)) L h) : wpL P n ops (⟨d, .load t x, ty, ps, af, none⟩ :: os) K E S L h := by
 refine op_of fun V => ?_
 unfold opW
 simp only [execOp, hx, Instr.loadAt, Instr.sureAddr]
 refine wJ (wH (a := ⟨g, off, none⟩) rfl (wH ha ?_))
 exact wH hs (wJ (dem_loadCells hm (hc V) ⟨L, h, rfl, V, k⟩))
end
theorem AccR.at {α : Type} {e : TypeId} {m : Nat} {enc : α → List Value} {l : List α} {a : Acc} (r : AccR e m (l.flatMap enc) a) (hl : ∀ x ∈ l, (enc x).length = m) (hm : 0 < m) {i : Nat} (hi : i < l.length) :
  ∃ g, a.A = some ⟨g, 0, none⟩ ∧ ∀ (h : AH) (L : Pv) (j : Nat), L[j]? = some a.p → Valid h L → Cells (wl h L) g (0 + i * m) (enc l[i]) := by
 have hx : l[i]? = some l[i] := List.getElem?_eq_getElem hi
 have hfl := wS hl
 rcases r with ⟨_, e0, A, ev⟩ | ⟨b, len, cap, junk, hlen, ev, hpp, _⟩
 ·exfalso
  rw [e0] at hfl
  have : 0 < l.length * m := Nat.mul_pos (by omega) hm
  simp at hfl
  omega
 ·injection ev with h1 _ _
  refine ⟨b, h1, fun h L j hj V => ?_⟩
  rw [hpp] at hj
  intro q u hu
  have h2 := flat_get enc m l hl i l[i] hx q u hu
  have h3 : (l.flatMap enc ++ junk)[i * m + q]? = some u := by rw [List.getElem?_append_left (List.getElem?_eq_some_iff.1 h2).1]; exact h2
  simp only [cellA, wl_get V hj]
  rw [show 0 + i * m + q = i * m + q from by omega]
  simpa using h3
theorem encs_get {α : Type} {enc : α → Value} {l : List (α × Value)} {j : Nat} {p : Value × Value} (h : (encs enc l)[j]? = some p) : ∃ y v, l[j]? = some (y, v) ∧ p = (enc y, v) := by
 unfold encs at h
 rw [List.getElem?_map] at h
 cases hl : l[j]? with
 | none => rw [hl] at h; cases h
 | some q => rw [hl] at h; simp at h; exact ⟨q.1, q.2, rfl, h.symm⟩
theorem insAll_get {α : Type} [DecidableEq α] {l : List α} (y : α) : (∃ (j : Nat) (v : Value), (insAll l)[j]? = some (y, v)) ↔ y ∈ l := by
 rw [← insAll_keys l y]
 constructor
 ·rintro ⟨j, v, h⟩
  exact List.mem_map.2 ⟨(y, v), List.mem_of_getElem? h, rfl⟩
 ·intro h
  obtain ⟨p, hp, rfl⟩ := List.mem_map.1 h
  obtain ⟨j, hj⟩ := List.getElem?_of_mem hp
  exact ⟨j, p.2, hj⟩
theorem setAcc (L : Pv) (k : Nat) (AC : Nat → Acc) (i : Nat) (hi : i < 3) (a a2 : Acc) (h0 : L[k]? = some (fset AC i a 0).p) (h1 : L[k + 1]? = some (fset AC i a 1).p) (h2 : L[k + 2]? = some (fset AC i a 2).p) :
  L.set (k + i) a2.p = ((L.set k (fset AC i a2 0).p).set (k + 1) (fset AC i a2 1).p).set (k + 2) (fset AC i a2 2).p := by
 have l2 : k + 2 < L.length := (List.getElem?_eq_some_iff.1 h2).1
 apply List.ext_getElem?
 intro j
 simp only [List.getElem?_set, List.length_set]
 match i, hi with
 | 0, _ =>
  by_cases j0 : k = j
  ·subst j0; simp [fset]
  ·by_cases j1 : k + 1 = j
   ·subst j1; simp; rw [if_pos (by omega)]; exact h1
   ·by_cases j2 : k + 2 = j
    ·subst j2; simp; rw [if_pos (by omega)]; exact h2
    ·simp [j0, j1, j2]
 | 1, _ =>
  by_cases j0 : k = j
  ·subst j0; simp; rw [if_pos (by omega)]; exact h0
  ·by_cases j1 : k + 1 = j
   ·subst j1; simp [fset]
   ·by_cases j2 : k + 2 = j
    ·subst j2; simp; rw [if_pos (by omega)]; exact h2
    ·simp [j0, j1, j2]
 | 2, _ =>
  by_cases j0 : k = j
  ·subst j0; simp; rw [if_pos (by omega)]; exact h0
  ·by_cases j1 : k + 1 = j
   ·subst j1; simp; rw [if_pos (by omega)]; exact h1
   ·by_cases j2 : k + 2 = j
    ·subst j2; simp [fset]
    ·simp [j0, j1, j2]
theorem setG (L : Pv) (k : Nat) (f g : Nat → Option (Nat × Obj)) (i : Nat) (hi : i < 3) (h0 : L[k]? = some (f 0)) (h1 : L[k + 1]? = some (f 1)) (h2 : L[k + 2]? = some (f 2)) (hg : ∀ j, j ≠ i → g j = f j) :
  L.set (k + i) (g i) = ((L.set k (g 0)).set (k + 1) (g 1)).set (k + 2) (g 2) := by
 have l2 : k + 2 < L.length := (List.getElem?_eq_some_iff.1 h2).1
 apply List.ext_getElem?
 intro j
 simp only [List.getElem?_set, List.length_set]
 match i, hi, hg with
 | 0, _, hg =>
  by_cases j0 : k = j
  ·subst j0; simp
  ·by_cases j1 : k + 1 = j
   ·subst j1; simp; rw [if_pos (by omega), hg 1 (by omega)]; exact h1
   ·by_cases j2 : k + 2 = j
    ·subst j2; simp; rw [if_pos (by omega), hg 2 (by omega)]; exact h2
    ·simp [j0, j1, j2]
 | 1, _, hg =>
  by_cases j0 : k = j
  ·subst j0; simp; rw [if_pos (by omega), hg 0 (by omega)]; exact h0
  ·by_cases j1 : k + 1 = j
   ·subst j1; simp
   ·by_cases j2 : k + 2 = j
    ·subst j2; simp; rw [if_pos (by omega), hg 2 (by omega)]; exact h2
    ·simp [j0, j1, j2]
 | 2, _, hg =>
  by_cases j0 : k = j
  ·subst j0; simp; rw [if_pos (by omega), hg 0 (by omega)]; exact h0
  ·by_cases j1 : k + 1 = j
   ·subst j1; simp; rw [if_pos (by omega), hg 1 (by omega)]; exact h1
   ·by_cases j2 : k + 2 = j
    ·subst j2; simp
    ·simp [j0, j1, j2]
theorem a3idx (AC : Nat → Acc) : ∀ q : Nat, q < 3 → [(AC 0).v, (AC 1).v, (AC 2).v][(q : Int).toNat]? = some (.slice (AC q).A (AC q).n (AC q).c)
 | 0, _ => rfl
 | 1, _ => rfl
 | 2, _ => rfl
 | q + 3, h => by omega
theorem f3arr (F : Nat → Nat) (m : Nat) : ∀ i : Nat, i < 3 → #[Value.int .u64 (fset F i m 0 : Nat), .int .u64 (fset F i m 1 : Nat), .int .u64 (fset F i m 2 : Nat)][0 + (i : Int).toNat * 1]? = some (.int .u64 (m : Nat))
 | 0, _ => rfl
 | 1, _ => rfl
 | 2, _ => rfl
 | i + 3, h => by omega
theorem f3wr (F : Nat → Nat) (m m' : Nat) : ∀ i : Nat, i < 3 → wrL [Value.int .u64 (fset F i m 0 : Nat), .int .u64 (fset F i m 1 : Nat), .int .u64 (fset F i m 2 : Nat)] (0 + (i : Int).toNat * 1) [.int .u64 (m' : Nat)] = [Value.int .u64 (fset F i m' 0 : Nat), .int .u64 (fset F i m' 1 : Nat), .int .u64 (fset F i m' 2 : Nat)]
 | 0, _ => rfl
 | 1, _ => rfl
 | 2, _ => rfl
 | i + 3, h => by omega
theorem a3arr (AC : Nat → Acc) (a : Acc) : ∀ i : Nat, i < 3 → #[(fset AC i a 0).v, (fset AC i a 1).v, (fset AC i a 2).v][0 + (i : Int).toNat * 1]? = some (.slice a.A a.n a.c)
 | 0, _ => rfl
 | 1, _ => rfl
 | 2, _ => rfl
 | i + 3, h => by omega
theorem a3wr (AC : Nat → Acc) (a a' : Acc) : ∀ i : Nat, i < 3 → wrL [(fset AC i a 0).v, (fset AC i a 1).v, (fset AC i a 2).v] (0 + (i : Int).toNat * 1) [.slice a'.A a'.n a'.c] = [(fset AC i a' 0).v, (fset AC i a' 1).v, (fset AC i a' 2).v]
 | 0, _ => rfl
 | 1, _ => rfl
 | 2, _ => rfl
 | i + 3, h => by omega
structure InnerJ (T : TypeId) (s : Season) (i : Nat) (kv : List (Fl × Value)) (sn : List Nat) (m : Nat) (a : Acc) (la : List Fl) : Prop where
 nd : sn.Nodup
 lt : ∀ j ∈ sn, j < kv.length
 mask : ∀ w, m.testBit w = true ↔ ∃ j ∈ sn, ∃ y v, kv[j]? = some (y, v) ∧ (toldW s i).testBit y.week = true ∧ y.week = w
 mem : ∀ y, y ∈ la ↔ ∃ j ∈ sn, ∃ v, kv[j]? = some (y, v) ∧ (toldW s i).testBit y.week = true
 acc : AccR T 2 (la.flatMap flC) a
 len : la.length ≤ sn.length
 small : m < 2 ^ 62
theorem InnerJ.snlen {T : TypeId} {s : Season} {i : Nat} {kv : List (Fl × Value)} {sn : List Nat} {m : Nat} {a : Acc} {la : List Fl} (J : InnerJ T s i kv sn m a la) : sn.length ≤ kv.length := nodup_len _ _ J.nd J.lt
theorem snoc_nodup {sn : List Nat} {j : Nat} (h : sn.Nodup) (hj : j ∉ sn) : (sn ++ [j]).Nodup := by
 rw [List.nodup_append]
 exact ⟨h, by simp, fun a ha b hb e => by simp at hb; subst hb; subst e; exact hj ha⟩
theorem InnerJ.no {T : TypeId} {s : Season} {i : Nat} {kv : List (Fl × Value)} {sn : List Nat} {m : Nat} {a : Acc} {la : List Fl} (J : InnerJ T s i kv sn m a la) {j : Nat} {y : Fl} {v : Value} (hj : kv[j]? = some (y, v)) (hn : j ∉ sn) (ht : (toldW s i).testBit y.week = false) : InnerJ T s i kv (sn ++ [j]) m a la := by
 refine ⟨snoc_nodup J.nd hn, ?_, fun w => ?_, fun z => ?_, J.acc, by rw [List.length_append]; have := J.len; omega, J.small⟩
 ·intro k hk
  rcases List.mem_append.1 hk with h | h
  ·exact J.lt k h
  ·simp at h; subst h; exact (List.getElem?_eq_some_iff.1 hj).1
 ·rw [J.mask w]
  constructor
  ·rintro ⟨k, hk, r⟩; exact ⟨k, List.mem_append_left _ hk, r⟩
  ·rintro ⟨k, hk, y', v', h1, h2, h3⟩
   rcases List.mem_append.1 hk with h | h
   ·exact ⟨k, h, y', v', h1, h2, h3⟩
   ·simp at h; subst h; rw [hj] at h1; cases h1; rw [ht] at h2; cases h2
 ·rw [J.mem z]
  constructor
  ·rintro ⟨k, hk, r⟩; exact ⟨k, List.mem_append_left _ hk, r⟩
  ·rintro ⟨k, hk, v', h1, h2⟩
   rcases List.mem_append.1 hk with h | h
   ·exact ⟨k, h, v', h1, h2⟩
   ·simp at h; subst h; rw [hj] at h1; cases h1; rw [ht] at h2; cases h2
theorem InnerJ.yes {T : TypeId} {s : Season} {i : Nat} {kv : List (Fl × Value)} {sn : List Nat} {m : Nat} {a : Acc} {la : List Fl} (J : InnerJ T s i kv sn m a la) {j : Nat} {y : Fl} {v : Value} (hj : kv[j]? = some (y, v)) (hn : j ∉ sn) (ht : (toldW s i).testBit y.week = true) (hw : y.week < 62) {a' : Acc} (ha : AccR T 2 (la.flatMap flC ++ flC y) a') : InnerJ T s i kv (sn ++ [j]) (withM m y.week) a' (la ++ [y]) := by
 refine ⟨snoc_nodup J.nd hn, ?_, fun w => ?_, fun z => ?_, by rw [List.flatMap_append]; simpa using ha, by rw [List.length_append, List.length_append]; have := J.len; simp; omega, withM_lt J.small hw⟩
 ·intro k hk
  rcases List.mem_append.1 hk with h | h
  ·exact J.lt k h
  ·simp at h; subst h; exact (List.getElem?_eq_some_iff.1 hj).1
 ·rw [withM, Nat.testBit_or, Nat.testBit_two_pow, Bool.or_eq_true, J.mask w]
  simp only [decide_eq_true_eq]
  constructor
  ·rintro (⟨k, hk, r⟩ | e)
   ·exact ⟨k, List.mem_append_left _ hk, r⟩
   ·exact ⟨j, by simp, y, v, hj, ht, e⟩
  ·rintro ⟨k, hk, y', v', h1, h2, h3⟩
   rcases List.mem_append.1 hk with h | h
   ·exact .inl ⟨k, h, y', v', h1, h2, h3⟩
   ·simp at h; subst h; rw [hj] at h1; cases h1; exact .inr h3
 ·rw [List.mem_append, J.mem z]
  constructor
  ·rintro (⟨k, hk, r⟩ | e)
   ·exact ⟨k, List.mem_append_left _ hk, r⟩
   ·simp at e; subst e; exact ⟨j, by simp, v, hj, ht⟩
  ·rintro ⟨k, hk, v', h1, h2⟩
   rcases List.mem_append.1 hk with h | h
   ·exact .inl ⟨k, h, v', h1, h2⟩
   ·simp at h; subst h; rw [hj] at h1; cases h1; exact .inr (by simp)
theorem InnerJ.all {T : TypeId} {s : Season} {n : Int} {x : Sky} {i : Nat} {j : Joint} (hj : s.joints[i]? = some j) (hk : j.kind = n) {sn : List Nat} {m : Nat} {a : Acc} {la : List Fl} (J : InnerJ T s i (insAll (failuresM j x s.heats.length)) sn m a la) (ha : ∀ k, k < (insAll (failuresM j x s.heats.length)).length → k ∈ sn) : m = fateM s n x i ∧ ∀ y, y ∈ la ↔ y ∈ surv s n x i := by
 have hs : surv s n x i = (failuresM j x s.heats.length).filter (fun y => (toldW s i).testBit y.week) := by unfold surv; rw [hj]; simp [hk]
 have key : ∀ y, y ∈ surv s n x i ↔ ∃ k ∈ sn, ∃ v, (insAll (failuresM j x s.heats.length))[k]? = some (y, v) ∧ (toldW s i).testBit y.week = true := by
  intro y
  rw [hs, List.mem_filter, ← insAll_get y]
  constructor
  ·rintro ⟨⟨k, v, h1⟩, h2⟩; exact ⟨k, ha k (List.getElem?_eq_some_iff.1 h1).1, v, h1, h2⟩
  ·rintro ⟨k, _, v, h1, h2⟩; exact ⟨⟨k, v, h1⟩, h2⟩
 refine ⟨mask_unique fun w => ?_, fun y => (J.mem y).trans (key y).symm⟩
 rw [J.mask w]
 constructor
 ·rintro ⟨k, hk, y, v, h1, h2, h3⟩; exact ⟨y, (key y).2 ⟨k, hk, v, h1, h2⟩, h3⟩
 ·rintro ⟨y, hy, h3⟩
  obtain ⟨k, hk, v, h1, h2⟩ := (key y).1 hy
  exact ⟨k, hk, y, v, h1, h2, h3⟩
end Go.HL
namespace Go.Wx
open Go Go.HL
variable [Lvl]
abbrev skM (s : Season) (n : Int) : List Sky := skK s n (allSkies s n).length
abbrev fatesM (s : Season) (n : Int) : List Fate := fatesK s n (allSkies s n).length
abbrev flsM (s : Season) (n : Int) (i : Nat) : List Fl := flsK s n i (allSkies s n).length
def mayM (s : Season) : Bool := decide (0 < (skM s 1).length) && decide (0 < (skM s 2).length)
def knownM (s : Season) (es : List Int) : Int := if checkM s ≠ 0 then checkM s else if firstErr id es ≠ 0 then firstErr id es else if mayM s then 0 else 9
def isJointM (s : Season) (j : Int) : Int := if inM j 0 (s.joints.length - 1) then 0 else 3
def isWeekM (s : Season) (w : Int) : Int := if inM w 0 (s.heats.length - 1) then 0 else 1
theorem checkWeatherM_zero {r : Rg} (h : checkWeatherM r = 0) : RangeB r ∧ -50 ≤ r.mn ∧ r.mx ≤ 100 := by
 unfold checkWeatherM at h
 split at h
 ·rename_i h1; exact absurd h h1
 ·rename_i h1
  have h2 := checkRangeM_zero (by simpa using h1)
  split at h
  ·cases h
  ·exact ⟨⟨by omega, by omega, by omega, by omega⟩, by omega, by omega⟩
theorem checkJointM_zero {j : Joint} (h : checkJointM j = 0) : JointB j ∧ (j.kind = 1 ∨ j.kind = 2) := by
 unfold checkJointM at h
 split at h
 ·cases h
 ·rename_i h0
  split at h
  ·rename_i h1; exact absurd h h1
  ·rename_i h1
   split at h
   ·rename_i h2; exact absurd h h2
   ·rename_i h2
    split at h
    ·rename_i h3; exact absurd h h3
    ·rename_i h3
     obtain ⟨a, _, _⟩ := checkWeatherM_zero (r := j.high) (by simpa using h1)
     obtain ⟨b, _, _⟩ := checkWeatherM_zero (r := j.low) (by simpa using h2)
     have c := checkRangeM_zero (x := j.weeks) (by simpa using h3)
     have d := checkRangeM_zero (x := j.life) h
     simp only [inM, Bool.not_eq_true, Bool.not_eq_false', Bool.and_eq_true, decide_eq_true_eq] at h0
     refine ⟨⟨a.lo, a.le, a.hi, b.lo, b.le, b.hi, by omega, by omega, by omega, by omega, by omega, by omega, a.wide, b.wide⟩, by omega⟩
structure SeasonV (s : Season) : Prop where
 b : SeasonB s
 kinds : ∀ j ∈ s.joints, j.kind = 1 ∨ j.kind = 2
 seen : ∀ r ∈ s.reports, 0 ≤ r.joint ∧ r.joint < s.joints.length ∧ 0 ≤ r.week ∧ r.week < s.heats.length
 hr : ∀ r ∈ s.heats, -50 ≤ r.mn ∧ r.mx ≤ 100
 dr : ∀ r ∈ s.damps, -50 ≤ r.mn ∧ r.mx ≤ 100
theorem checkM_zero {s : Season} (h : checkM s = 0) : SeasonV s := by
 unfold checkM at h
 split at h
 ·cases h
 ·split at h
  ·cases h
  ·split at h
   ·cases h
   ·split at h
    ·cases h
    ·split at h
     ·rename_i h1; exact absurd h h1
     ·rename_i h1
      split at h
      ·cases h
      ·split at h
       ·rename_i h2; exact absurd h h2
       ·rename_i h2
        split at h
        ·cases h
        ·have w := firstErr_zero (by simpa using h1)
         have jj := firstErr_zero (by simpa using h2)
         have rr := firstErr_zero h
         have wh : ∀ r ∈ s.heats, RangeB r ∧ -50 ≤ r.mn ∧ r.mx ≤ 100 := fun r hr => checkWeatherM_zero (w r (List.mem_append_left _ hr))
         have wd : ∀ r ∈ s.damps, RangeB r ∧ -50 ≤ r.mn ∧ r.mx ≤ 100 := fun r hr => checkWeatherM_zero (w r (List.mem_append_right _ hr))
         have rs : ∀ r ∈ s.reports, 0 ≤ r.joint ∧ r.joint < s.joints.length ∧ 0 ≤ r.week ∧ r.week < s.heats.length := by
          intro r hr
          have := rr r hr
          unfold checkSeenM inM at this
          split at this
          ·cases this
          ·rename_i q1
           split at this
           ·cases this
           ·rename_i q2
            simp only [Bool.not_eq_true, Bool.not_eq_false', Bool.and_eq_true, decide_eq_true_eq] at q1 q2
            omega
         refine ⟨⟨by omega, by omega, by omega, fun r hr => (wh r hr).1, fun r hr => (wd r hr).1, by omega, fun j hj => (checkJointM_zero (jj j hj)).1, by omega, fun r hr => ?_⟩, fun j hj => (checkJointM_zero (jj j hj)).2, rs, fun r hr => (wh r hr).2, fun r hr => (wd r hr).2⟩
         have := rs r hr
         omega
theorem knownM_zero {s : Season} {es : List Int} (h : knownM s es = 0) : checkM s = 0 ∧ firstErr id es = 0 ∧ mayM s = true := by
 unfold knownM at h
 split at h
 ·rename_i h1; exact absurd h h1
 ·rename_i h1
  split at h
  ·rename_i h2; exact absurd h h2
  ·rename_i h2
   split at h
   ·rename_i h3; exact ⟨by simpa using h1, by simpa using h2, h3⟩
   ·cases h
def failsM (s : Season) (i : Nat) : Nat := maskM (flsM s (kindAt s i) i)
theorem surv_week {s : Season} {n : Int} {x : Sky} {i : Nat} {y : Fl} (h : y ∈ surv s n x i) : y.week ≤ s.heats.length := by
 unfold surv at h
 split at h
 ·split at h
  ·exact failuresM_week (List.mem_filter.1 h).1
  ·cases h
 ·cases h
theorem flsK_week {s : Season} {n : Int} {i k : Nat} {y : Fl} (h : y ∈ flsK s n i k) : y.week ≤ s.heats.length := by
 unfold flsK at h
 obtain ⟨x, _, hy⟩ := List.mem_flatMap.1 h
 exact surv_week hy
theorem maskM_lt {l : List Fl} (h : ∀ y ∈ l, y.week ≤ 6) : maskM l < 2 ^ 7 := by
 induction l with
 | nil => simp [maskM]
 | cons y l ih =>
  rw [maskM]
  exact Nat.or_lt_two_pow (ih fun z hz => h z (List.mem_cons_of_mem _ hz)) (Nat.pow_lt_pow_right (by omega) (by have := h y (List.mem_cons_self ..); omega))
theorem failsM_lt {s : Season} (h6 : s.heats.length ≤ 6) (i : Nat) : failsM s i < 2 ^ 7 := maskM_lt fun y hy => by have := flsK_week hy; omega
def verdictM (is no : Bool) : Int := if !no then 1 else if !is then 2 else 3
def failedM (s : Season) (i : Nat) (w : Nat) : Int := verdictM (decide (uptoM (failsM s i) w ≠ 0)) (decide (failsM s i ≠ uptoM (failsM s i) w))
def causeM (s : Season) (i : Nat) (k : Nat) : Int := verdictM ((flsM s (kindAt s i) i).any fun y => y.causes.testBit k) ((flsM s (kindAt s i) i).any fun y => !y.causes.testBit k)
theorem causes_lt {j : Joint} {x : Sky} {n : Nat} {y : Fl} (h : y ∈ failuresM j x n) : y.causes < 8 := by
 unfold failuresM fails1 fails2 fails3 fails4 at h
 simp only [List.mem_flatMap, List.mem_map] at h
 obtain ⟨_, _, _, _, _, _, _, _, rfl⟩ := h
 exact causesP_lt _ _ _ _ _ 3 (by omega)
theorem surv_causes {s : Season} {n : Int} {x : Sky} {i : Nat} {y : Fl} (h : y ∈ surv s n x i) : y.causes < 8 := by
 unfold surv at h
 split at h
 ·split at h
  ·exact causes_lt (List.mem_filter.1 h).1
  ·cases h
 ·cases h
theorem flsK_causes {s : Season} {n : Int} {i k : Nat} {y : Fl} (h : y ∈ flsK s n i k) : y.causes < 8 := by
 unfold flsK at h
 obtain ⟨x, _, hy⟩ := List.mem_flatMap.1 h
 exact surv_causes hy
end Go.Wx
namespace Go.Proofs.Ytgjcepdhclmglaa
open Go Go.HL Go.Proofs Go.Wx
variable [Lvl]
set_option maxRecDepth 100000
abbrev mvk (k : Nat) (fm : Nat → Nat) (i : Nat) : Value := .map (if i < k then some (fm i) else none)
def mpk (k : Nat) (fm : Nat → Nat) (fl : Nat → List Fl) (i : Nat) : Option (Nat × Obj) := if i < k then some (fm i, mapO (encs flV (insAll (fl i)))) else none
abbrev halfC (s : Season) (n : Int) (A : Option Addr) (c mf : Nat) (fm : Nat → Nat) : List Value := [.slice A (skM s n).length c, .map (some mf), mvk s.joints.length fm 0, mvk s.joints.length fm 1, mvk s.joints.length fm 2]
structure HalfX (h : AH) (s : Season) (n : Int) (A : Option Addr) (mf : Nat) (fm : Nat → Nat) (fl : Nat → List Fl) : Prop where
 sk : Row h 6 skyC A (skM s n)
 ft : h mf = some (mapO (encs fateV (insAll (fatesM s n))))
 fs : ∀ i, i < s.joints.length → h (fm i) = some (mapO (encs flV (insAll (fl i)))) ∧ ∀ y, y ∈ fl i ↔ y ∈ flsM s n i
theorem HalfX.ext {h h' : AH} {s : Season} {n : Int} {A : Option Addr} {mf : Nat} {fm : Nat → Nat} {fl : Nat → List Fl} (x : HalfX h s n A mf fm fl) (E : Ext h h') : HalfX h' s n A mf fm fl :=
 ⟨x.sk.ext E, E _ _ x.ft, fun i hi => ⟨E _ _ (x.fs i hi).1, (x.fs i hi).2⟩⟩
def HalfR (h : AH) (s : Season) (n : Int) (v : Value) : Prop := ∃ (A : Option Addr) (c mf : Nat) (fm : Nat → Nat) (fl : Nat → List Fl), v = .agg (halfC s n A c mf fm).toArray ∧ HalfX h s n A mf fm fl
def HalfI (s : Season) (n : Int) (b2 b3 b4 b19 b5 b6 : Nat) (A0 A1 A2 A3 : Option Addr) (c0 c1 c2 c3 : Nat) (fm : Nat → Nat) (l : Nat) (r : Loop) (h0 : AH) (k : Nat) (h : AH) (M : Pv) : Prop :=
 Ext h0 h ∧ ∃ (a : Acc) (fl : Nat → List Fl), M = [some (b2, .cells #[.slice A0 s.heats.length c0, .slice A1 s.damps.length c1, .slice A2 s.joints.length c2, .slice A3 s.reports.length c3] 29 (0, 0)), some (b3, .cells #[.int .i64 n] 3 (0, 0)), some (b4, .cells #[.slice none 0 0, .map none, .map none, .map none, .map none] 80 (0, 0)),
  some (b19, mapO (encs fateV (insAll (fatesK s n k)))), some (b5, .cells #[.slice a.A a.n a.c, .map (some b19), mvk s.joints.length fm 0, mvk s.joints.length fm 1, mvk s.joints.length fm 2] 80 (0, 0)), some (b6, .cells #[.int .i64 (s.heats.length - 1)] 3 (0, 0)),
  mpk s.joints.length fm fl 0, mpk s.joints.length fm fl 1, mpk s.joints.length fm fl 2, a.p, some (l, obL r .ready none)] ∧
  AccR 89 6 ((skK s n k).flatMap skyC) a ∧ ∀ i, i < s.joints.length → ∀ y, y ∈ fl i ↔ y ∈ flsK s n i k
theorem HalfI.ext {s : Season} {n : Int} {b2 b3 b4 b19 b5 b6 : Nat} {A0 A1 A2 A3 : Option Addr} {c0 c1 c2 c3 : Nat} {fm : Nat → Nat} {l : Nat} {r : Loop} {h0 : AH} {k : Nat} {h h' : AH} {M : Pv} (I : HalfI s n b2 b3 b4 b19 b5 b6 A0 A1 A2 A3 c0 c1 c2 c3 fm l r h0 k h M) (E : Ext h h') : HalfI s n b2 b3 b4 b19 b5 b6 A0 A1 A2 A3 c0 c1 c2 c3 fm l r h0 k h' M :=
 ⟨I.1.trans E, I.2⟩
structure BodyJ (s : Season) (n : Int) (x : Sky) (i : Nat) (F : Nat → Nat) (AC : Nat → Acc) (Ls : Nat → List Fl) : Prop where
 le : i ≤ s.joints.length
 done : ∀ k, k < i → F k = fateM s n x k ∧ (kindAt s k = n → F k ≠ 0) ∧ ∀ y, y ∈ Ls k ↔ y ∈ surv s n x k
 rest : ∀ k, i ≤ k → F k = 0 ∧ Ls k = []
 acc : ∀ k, AccR 103 2 ((Ls k).flatMap flC) (AC k)
 len : ∀ k, (Ls k).length ≤ 540
theorem BodyJ.zero (s : Season) (n : Int) (x : Sky) : BodyJ s n x 0 (fun _ => 0) (fun _ => acc0) (fun _ => []) :=
 ⟨Nat.zero_le _, fun k hk => by omega, fun _ _ => ⟨rfl, rfl⟩, fun _ => accR0, fun _ => by simp⟩
theorem BodyJ.skip {s : Season} {n : Int} {x : Sky} {i : Nat} {F : Nat → Nat} {AC : Nat → Acc} {Ls : Nat → List Fl} (J : BodyJ s n x i F AC Ls) (hi : i < s.joints.length) (hk : kindAt s i ≠ n) : BodyJ s n x (i + 1) F AC Ls := by
 have hs : surv s n x i = [] := by
  unfold kindAt at hk
  unfold surv
  rw [List.getElem?_eq_getElem hi] at hk ⊢
  simp at hk ⊢
  intro e
  exact absurd e hk
 refine ⟨hi, fun k hk' => ?_, fun k hk' => J.rest k (by omega), J.acc, J.len⟩
 rcases Nat.lt_or_ge k i with h | h
 ·exact J.done k h
 ·have : k = i := by omega
  subst this
  obtain ⟨h1, h2⟩ := J.rest k (Nat.le_refl _)
  refine ⟨by rw [h1, fateM, hs]; rfl, fun e => absurd e hk, fun y => by rw [h2, hs]⟩
theorem BodyJ.inner {s : Season} {n : Int} {x : Sky} {i : Nat} {F : Nat → Nat} {AC : Nat → Acc} {Ls : Nat → List Fl} {kv : List (Fl × Value)} (J : BodyJ s n x i F AC Ls) : InnerJ 103 s i kv [] (F i) (AC i) (Ls i) := by
 obtain ⟨h1, h2⟩ := J.rest i (Nat.le_refl _)
 refine ⟨List.nodup_nil, fun _ h => (by cases h), fun w => by simp [h1], fun y => by simp [h2], J.acc i, by simp [h2], by simp [h1]⟩
theorem BodyJ.step {s : Season} {n : Int} {x : Sky} {i : Nat} {F : Nat → Nat} {AC : Nat → Acc} {Ls : Nat → List Fl} (J : BodyJ s n x i F AC Ls) (hi : i < s.joints.length) {m : Nat} {a : Acc} {la : List Fl} (h1 : m = fateM s n x i) (h2 : m ≠ 0) (h3 : ∀ y, y ∈ la ↔ y ∈ surv s n x i) (h4 : AccR 103 2 (la.flatMap flC) a) (h5 : la.length ≤ 540) :
  BodyJ s n x (i + 1) (fset F i m) (fset AC i a) (fset Ls i la) := by
 refine ⟨hi, fun k hk => ?_, fun k hk => ?_, fun k => ?_, fun k => ?_⟩
 ·rcases Nat.lt_or_ge k i with h | h
  ·rw [fset_ne _ (by omega), fset_ne _ (by omega)]; exact J.done k h
  ·have : k = i := by omega
   subst this
   rw [fset_at, fset_at]
   exact ⟨h1, fun _ => h2, h3⟩
 ·rw [fset_ne _ (by omega), fset_ne _ (by omega)]; exact J.rest k (by omega)
 ·by_cases h : k = i
  ·subst h; rw [fset_at, fset_at]; exact h4
  ·rw [fset_ne _ h, fset_ne _ h]; exact J.acc k
 ·by_cases h : k = i
  ·subst h; rw [fset_at]; exact h5
  ·rw [fset_ne _ h]; exact J.len k
theorem BodyJ.ok {s : Season} {n : Int} {x : Sky} {F : Nat → Nat} {AC : Nat → Acc} {Ls : Nat → List Fl} (J : BodyJ s n x s.joints.length F AC Ls) : okM s n x = true := by
 unfold okM
 rw [List.all_eq_true]
 intro i hi
 rw [List.mem_range] at hi
 obtain ⟨h1, h2, _⟩ := J.done i hi
 by_cases hk : kindAt s i = n
 ·have := h2 hk
  rw [h1] at this
  simp [this]
 ·simp [hk]
theorem not_okM {s : Season} {n : Int} {x : Sky} {i : Nat} (hi : i < s.joints.length) (hk : kindAt s i = n) (hz : fateM s n x i = 0) : okM s n x = false := by
 rw [Bool.eq_false_iff]
 intro h
 unfold okM at h
 rw [List.all_eq_true] at h
 have := h i (by simpa using hi)
 simp [hk, hz] at this
theorem BodyJ.fate {s : Season} {n : Int} {x : Sky} {F : Nat → Nat} {AC : Nat → Acc} {Ls : Nat → List Fl} (J : BodyJ s n x s.joints.length F AC Ls) : Value.agg #[.int .u64 (F 0 : Nat), .int .u64 (F 1 : Nat), .int .u64 (F 2 : Nat)] = fateV (fateOf s n x) := by
 have hF : ∀ k, F k = fateM s n x k := by
  intro k
  rcases Nat.lt_or_ge k s.joints.length with h | h
  ·exact (J.done k h).1
  ·rw [(J.rest k h).1, fateM, surv, List.getElem?_eq_none h]
   rfl
 rw [hF 0, hF 1, hF 2]
 rfl
theorem mapsJ {N q : Nat} {fl fl' Ls : Nat → List Fl} {cur : List Fl} (h1 : ∀ i, i < N → ∀ y, y ∈ fl' i ↔ y ∈ fl i ∨ (i < q ∧ y ∈ Ls i)) (h2 : ∀ y, y ∈ cur ↔ y ∈ fl' q ∨ y ∈ Ls q) : ∀ i, i < N → ∀ y, y ∈ fset fl' q cur i ↔ y ∈ fl i ∨ (i < q + 1 ∧ y ∈ Ls i) := by
 intro i hi y
 by_cases h : i = q
 ·subst h
  rw [fset_at, h2 y, h1 i hi y]
  constructor
  ·rintro ((h | h) | h)
   ·exact .inl h
   ·exact .inr ⟨by omega, h.2⟩
   ·exact .inr ⟨by omega, h⟩
  ·rintro (h | h)
   ·exact .inl (.inl h)
   ·exact .inr h.2
 ·rw [fset_ne _ h, h1 i hi y]
  constructor
  ·rintro (h | h)
   ·exact .inl h
   ·exact .inr ⟨by omega, h.2⟩
  ·rintro (h1 | h1)
   ·exact .inl h1
   ·exact .inr ⟨by omega, h1.2⟩
theorem m3arr (x0 x1 : Value) {N : Nat} (fm : Nat → Nat) : ∀ q : Nat, q < 3 → q < N → #[x0, x1, mvk N fm 0, mvk N fm 1, mvk N fm 2][2 + (q : Int).toNat * 1]? = some (.map (some (fm q)))
 | 0, _, h => by simp [h]
 | 1, _, h => by simp [mvk, h]
 | 2, _, h => by simp [mvk, h]
 | q + 3, h, _ => by omega
theorem mpk_at {N : Nat} (fm : Nat → Nat) (fl : Nat → List Fl) (cur : List Fl) {q : Nat} (h : q < N) : mpk N fm (fset fl q cur) q = some (fm q, mapO (encs flV (insAll cur))) := by
 rw [mpk, if_pos h, fset_at]
set_option maxHeartbeats 4000000 in
theorem halfOf_ok (s : Season) (B : SeasonB s) (n : Int) (hn : n = 1 ∨ n = 2) (A0 A1 A2 A3 : Option Addr) (c0 c1 c2 c3 : Nat) (h : AH) (R : SeasonR h A0 A1 A2 A3 s) :
  FnT Try.prog 62 #[seasonV A0 A1 A2 A3 c0 c1 c2 c3 s, .int .i64 n] h (fun v h' => HalfR h' s n v) := by
 have hw1 := B.w1
 have hw6 := B.w6
 have bj := B.j3
 refine wL Try.func62 rfl Try.ntmps62 rfl ?_
 refine qF ?_
 refine qC rfl ?_
 refine zF (v := .agg #[.slice _ _ _, .slice _ _ _, .slice _ _ _, .slice _ _ _]) (cs := [_, _, _, _]) rfl rfl fun b2 hb2 => ?_
 refine qH [_] rfl ?_
 refine zF (v := .int .i64 _) (cs := [_]) rfl rfl fun b3 hb3 => ?_
 refine qH [_, _] rfl ?_
 refine wO (cs := [_, _, _, _, _]) rfl rfl fun b4 hb4 => ?_
 refine qH [_, _, _] rfl ?_
 refine xp_scope ?_
 refine qF ?_
 refine qC rfl ?_
 refine op_makeMap fun b19 hb19 => ?_
 refine qH [_, _, _, _] rfl ?_
 refine qA (pv_build (zc := [_, _, _, _, _]) (vs := [(1, .map _)]) (cs := [_, _, _, _, _]) rfl rfl rfl rfl rfl rfl) ?_
 refine wO (cs := [_, _, _, _, _]) rfl rfl fun b5 hb5 => ?_
 refine qH [_, _, _, _, _] rfl ?_
 refine qJ 4 (v := .agg #[.slice _ _ _, .map _, .map _, .map _, .map _]) (vs := [_, _, _, _, _]) (c' := [_, _, _, _, _]) rfl rfl rfl rfl rfl rfl rfl rfl rfl ?_
 refine qH [_, _, _, _, _] rfl ?_
 refine qF ?_
 refine qC rfl ?_
 refine qA (qG rfl rfl rfl rfl 0 rfl) ?_
 refine qI 0 (v := .slice _ _ _) rfl rfl rfl rfl ?_
 refine qA (wV rfl rfl) ?_
 refine qA (qO rfl (by omega)) ?_
 refine wO (cs := [_]) rfl rfl fun b6 hb6 => ?_
 refine qH [_, _, _, _, _, _] rfl ?_
 refine qJ 5 (v := .int .i64 _) (vs := [_]) (c' := [_]) rfl rfl rfl rfl rfl rfl rfl rfl rfl ?_
 refine qH [_, _, _, _, _, _] rfl ?_
 refine qF ?_
 refine qF ?_
 refine qC rfl ?_
 refine qA (qG rfl rfl rfl rfl 2 rfl) ?_
 refine qI 0 (v := .slice _ _ _) rfl rfl rfl rfl ?_
 refine qA (wV rfl rfl) ?_
 refine qA (qB (v := .int .i64 _) rfl) ?_
 refine qN ?_
 refine goes_more ?_
 refine qP [_, _, _, _, _, _, _] rfl ?_
 refine goes_more ?_
 refine qP [_, _, _, _, _, _, _, _] rfl ?_
 refine goes_more ?_
 refine qP [_, _, _, _, _, _, _, _, _] rfl ?_
 refine goes_more ?_
 refine qP [_, _, _, _, _, _, _, _, _, _] rfl ?_
 refine zN [7, 28, 29, 30, 31, 32, 33, 34, 35] 10 (α := Nat × (Nat → Nat)) (fun ⟨k, fm⟩ => [(28, .int .i64 k)]) (fun ⟨k, fm⟩ => [_, _, _, _, some (b5, .cells #[.slice none 0 0, .map (some b19), mvk k fm 0, mvk k fm 1, mvk k fm 2] 80 (0, 0)), _, mpk k fm (fun _ => []) 0, mpk k fm (fun _ => []) 1, mpk k fm (fun _ => []) 2, none]) (fun ⟨k, fm⟩ h_k => k ≤ s.joints.length) (fun ⟨k, fm⟩ => s.joints.length - k) ((0, fun _ => 0)) ⟨rfl, trivial⟩ (rfl) (Nat.zero_le _) ?_
 rintro ⟨k, fm⟩ T1 h_k E_k J_k
 refine qP [_, _, _, _, _, _, _, _, _, _] rfl ?_
 refine qF ?_
 refine qC rfl ?_
 refine qA (qK (v := .bool _) rfl) ?_
 refine qF ?_
 refine wA rfl (fun ht => ?_) (fun ht => ?_)
 ·skip
  have hlt := ltI ht
  refine qT ?_
  refine qF ?_
  refine qN ?_
  refine qF ?_
  refine qC rfl ?_
  refine qA (qB (v := .int .i64 _) rfl) ?_
  refine qA (qE (v := .int .i64 _) rfl) ?_
  refine qC rfl ?_
  refine qA (qB (v := .int .i64 _) rfl) ?_
  refine op_makeMapF (6 + k) (by match k, (show k < 3 by omega) with | 0, _ => rfl | 1, _ => rfl | 2, _ => rfl) fun b hb => ?_
  refine qA (qG rfl rfl rfl rfl 2 rfl) ?_
  refine qA (pv_indexA rfl rfl rfl rfl (by omega) (by omega)) ?_
  refine qJ 4 (v := .map _) (vs := [_]) (c := [.slice none 0 0, .map (some b19), mvk k fm 0, mvk k fm 1, mvk k fm 2]) (b := b5) (off := 2 + (k : Int).toNat * 1) (e := 80) (c' := [.slice none 0 0, .map (some b19), mvk (k + 1) (fset fm k b) 0, mvk (k + 1) (fset fm k b) 1, mvk (k + 1) (fset fm k b) 2]) rfl rfl (by match k, (show k < 3 by omega) with | 0, _ => rfl | 1, _ => rfl | 2, _ => rfl) rfl rfl rfl (Nat.ble_eq_true_of_le (show 2 + (k : Int).toNat * 1 + 1 ≤ 5 by omega)) rfl (by match k, (show k < 3 by omega) with | 0, _ => rfl | 1, _ => rfl | 2, _ => rfl) ?_
  refine qC rfl ?_
  refine qA (qO rfl (by omega)) ?_
  refine qA (qB (v := .int .i64 _) rfl) ?_
  refine ⟨(k + 1, fset fm k b), ⟨rfl, trivial⟩, rfl, by match k, (show k < 3 by omega) with | 0, _ => rfl | 1, _ => rfl | 2, _ => rfl, E_k, fun h3 E3 => by first | trivial | omega | (refine ⟨?_, ?_⟩ <;> omega), by first | omega | (dsimp only; omega), ?_⟩
  repeat (first | exact qU _ _ _ | refine wB (by decide) ?_ | refine qS rfl ?_ | refine wN rfl ?_)
 ·skip
  have hk : k = s.joints.length := by have := geI ht; omega
  subst hk
  refine wU ?_
  refine qF ?_
  refine xp_label ?_
  refine qF ?_
  refine xp_cutB [36, 37, 38, 39, 40] 10 (α := Value) (fun y => [(40, y)]) (fun y L => L) (fun y h_y => Iter Try.prog y h_y (allSkies s n) skyV) ?_ ?_
  ·skip
   refine zB [] rfl rfl rfl ?_
   refine qL (i := 0) rfl (by decide +kernel) ?_
   refine qI 1 (v := .int .i64 _) rfl rfl rfl rfl ?_
   refine qL (i := 2) rfl (by decide +kernel) ?_
   refine qX 0 (vs := [.slice _ _ _, .slice _ _ _, .slice _ _ _, .slice _ _ _]) rfl rfl rfl rfl rfl ?_
   refine zD (i := 1) rfl (by decide +kernel) ?_
   refine wP (caps := []) (vs := [.int .i64 _]) rfl rfl rfl (kindOf_ok n h_k) ?_
   rintro _ h1 E1 rfl
   refine ⟨ext_wlm E1 _, ?_⟩
   obtain ⟨wl1, wr1⟩ := B.wb n
   have wr2 : ∀ r ∈ weatherM s n, -1000 ≤ r.mn ∧ r.mn ≤ r.mx ∧ r.mx ≤ 1000 := fun r hr => ⟨(wr1 r hr).lo, (wr1 r hr).le, (wr1 r hr).hi⟩
   rcases hn with rfl | rfl
   ·skip
    refine wI (i := 3) rfl (by decide +kernel) (by decide +kernel) ?_
    refine op_invoke rfl (by kernel_rfl) rfl rfl (waxWeather_ok s A0 A1 A2 A3 c0 c1 c2 c3 h1) ?_
    rintro _ h2 E2 rfl
    refine wI (i := 4) rfl (by decide +kernel) (by decide +kernel) ?_
    refine wP (caps := []) (vs := [.slice _ _ _]) rfl rfl rfl (skies_ok s.heats B.w6 wr2 A0 c0 h2 (R.heats.ext (zP (zP E_k E1) E2))) ?_
    rintro y h3 E3 hy
    refine wW rfl ?_
    refine ⟨y, ⟨rfl, trivial⟩, rfl, rfl, (zP (zP E1 E2) E3), fun h3 E3 => hy.ext E3, ?_⟩
    repeat (first | exact zE _ _ | exact qU _ _ _ | refine wB (by decide) ?_ | refine qS rfl ?_ | refine wN rfl ?_)
   ·skip
    refine wI (i := 3) rfl (by decide +kernel) (by decide +kernel) ?_
    refine op_invoke rfl (by kernel_rfl) rfl rfl (leatherWeather_ok s A0 A1 A2 A3 c0 c1 c2 c3 h1) ?_
    rintro _ h2 E2 rfl
    refine wI (i := 4) rfl (by decide +kernel) (by decide +kernel) ?_
    refine wP (caps := []) (vs := [.slice _ _ _]) rfl rfl rfl (skies_ok s.damps (by rw [B.dl]; exact B.w6) wr2 A1 c1 h2 (R.damps.ext (zP (zP E_k E1) E2))) ?_
    rintro y h3 E3 hy
    refine wW rfl ?_
    refine ⟨y, ⟨rfl, trivial⟩, rfl, rfl, (zP (zP E1 E2) E3), fun h3 E3 => hy.ext E3, ?_⟩
    repeat (first | exact zE _ _ | exact qU _ _ _ | refine wB (by decide) ?_ | refine qS rfl ?_ | refine wN rfl ?_)
  rintro y T2 h_y E_y J_y
  refine qP [_, _, _, _, _, _, _, _, _, _] rfl ?_
  refine qN ?_
  refine xp_rangeFunc rfl ?_
  intro r l lp ht hp has hbd V0
  refine CallV.mono (J_y (.yield l) #[] #[] (HalfI s n b2 b3 b4 b19 b5 b6 A0 A1 A2 A3 c0 c1 c2 c3 fm l lp h_y) (fun k h1 h2 M E I => HalfI.ext I E) ?_ h_y _ (Ext.refl _) ⟨Ext.refl _, acc0, fun _ => [], rfl, accR0, fun i hi y => by simp [flsK, okK]⟩ V0) ?_ (fun _ _ y => y)
  ·intro k x hc M hx I
   obtain ⟨E0, a, fl, rfl, ha, hfl⟩ := I
   have Rc := R.ext (zP (zP E_k E_y) E0)
   intro V
   refine callV_yield (wl_get V (i := 10) rfl) hp rfl ht has hbd ?_
   refine round_enter (i := 10) (r := lp) ?_ V
   refine qC rfl ?_
   refine wO (cs := [_, _, _, _, _, _]) rfl rfl fun b8 hb8 => ?_
   refine qH [_, _, _, _, _, _, _, _, _, _, _, _] rfl ?_
   refine qJ 11 (v := .agg #[.int .i64 _, .int .i64 _, .int .i64 _, .int .i64 _, .int .i64 _, .int .i64 _]) (vs := [_, _, _, _, _, _]) (c' := [_, _, _, _, _, _]) rfl rfl rfl rfl rfl rfl rfl rfl rfl ?_
   refine qH [_, _, _, _, _, _, _, _, _, _, _, _] rfl ?_
   refine ⟨rfl, none, rfl, ?_⟩
   refine qP [_, _, _, _, _, _, _, _, _, _, _, _] rfl ?_
   refine qN ?_
   refine qF ?_
   refine qC rfl ?_
   refine wO (cs := [_, _, _]) rfl rfl fun b9 hb9 => ?_
   refine qH [_, _, _, _, _, _, _, _, _, _, _, _, _] rfl ?_
   refine qF ?_
   refine qC rfl ?_
   refine wO (cs := [_, _, _]) rfl rfl fun b10 hb10 => ?_
   refine qH [_, _, _, _, _, _, _, _, _, _, _, _, _, _] rfl ?_
   refine qF ?_
   refine qF ?_
   refine qC rfl ?_
   refine qA (qG rfl rfl rfl rfl 2 rfl) ?_
   refine qI 0 (v := .slice _ _ _) rfl rfl rfl rfl ?_
   refine qA (wV rfl rfl) ?_
   refine qA (qB (v := .int .i64 _) rfl) ?_
   refine qN ?_
   refine goes_more ?_
   refine qP [_, _, _, _, _, _, _, _, _, _, _, _, _, _, _] rfl ?_
   refine goes_more ?_
   refine qP [_, _, _, _, _, _, _, _, _, _, _, _, _, _, _, _] rfl ?_
   refine goes_more ?_
   refine qP [_, _, _, _, _, _, _, _, _, _, _, _, _, _, _, _, _] rfl ?_
   refine zN [11, 12, 13, 45, 46, 47, 48, 49, 50, 51, 52, 53, 54, 55, 56, 57, 58, 59, 60, 61, 62, 63, 64, 65, 66, 67, 68, 69, 70, 71, 72, 73, 74, 75, 76, 77, 78, 79, 80, 81, 82, 83, 84, 85, 86, 87, 88, 89] 17 (α := Nat × (Nat → Nat) × (Nat → Acc) × (Nat → List Fl)) (fun ⟨i, F, AC, Ls⟩ => [(45, .int .i64 i)]) (fun ⟨i, F, AC, Ls⟩ => [_, _, _, _, _, _, _, _, _, _, _, _, some (b9, .cells #[.int .u64 (F 0 : Nat), .int .u64 (F 1 : Nat), .int .u64 (F 2 : Nat)] 95 (0, 0)), some (b10, .cells #[(AC 0).v, (AC 1).v, (AC 2).v] 140 (0, 0)), (AC 0).p, (AC 1).p, (AC 2).p]) (fun ⟨i, F, AC, Ls⟩ h_i => BodyJ s n x i F AC Ls) (fun ⟨i, F, AC, Ls⟩ => s.joints.length - i) ((0, fun _ => 0, fun _ => acc0, fun _ => [])) ⟨rfl, trivial⟩ (rfl) (BodyJ.zero s n x) ?_
   rintro ⟨i, F, AC, Ls⟩ T3 h_i E_i J_i
   refine qP [_, _, _, _, _, _, _, _, _, _, _, _, _, _, _, _, _] rfl ?_
   refine qF ?_
   refine qC rfl ?_
   refine qA (qK (v := .bool _) rfl) ?_
   refine qF ?_
   refine wA rfl (fun hti => ?_) (fun hti => ?_)
   ·skip
    have hlt := ltI hti
    have hj3 : i < 3 := by omega
    have JB := B.jb s.joints[i] (List.getElem_mem hlt)
    have hji : s.joints[i]? = some s.joints[i] := List.getElem?_eq_getElem hlt
    have hka : kindAt s i = s.joints[i].kind := by simp [kindAt, hji]
    obtain ⟨g, off, hA2, hcj⟩ := (Rc.joints.ext E_i).at (by omega) hlt
    refine qT ?_
    refine qF ?_
    refine qN ?_
    refine qF ?_
    refine qC rfl ?_
    refine qA (qB (v := .int .i64 _) rfl) ?_
    refine qA (wM rfl hA2 rfl rfl rfl (by omega) (by omega)) ?_
    refine op_loadA rfl rfl rfl rfl (hcj) ?_
    refine wO (cs := [_, _, _, _, _, _, _, _, _]) rfl rfl fun b12 hb12 => ?_
    refine qH [_, _, _, _, _, _, _, _, _, _, _, _, _, _, _, _, _, _] rfl ?_
    refine qA (qE (v := .int .i64 _) rfl) ?_
    refine qJ 17 (v := .agg #[.int .i64 _, .int .i64 _, .int .i64 _, .int .i64 _, .int .i64 _, .int .i64 _, .int .i64 _, .int .i64 _, .int .i64 _]) (vs := [_, _, _, _, _, _, _, _, _]) (c' := [_, _, _, _, _, _, _, _, _]) rfl rfl rfl rfl rfl rfl rfl rfl rfl ?_
    refine qH [_, _, _, _, _, _, _, _, _, _, _, _, _, _, _, _, _, _] rfl ?_
    refine qF ?_
    refine qF ?_
    refine qC rfl ?_
    refine qA (qG rfl rfl rfl rfl 0 rfl) ?_
    refine qI 17 (v := .int .i64 _) rfl rfl rfl rfl ?_
    refine qI 1 (v := .int .i64 _) rfl rfl rfl rfl ?_
    refine qA (qK (v := .bool _) rfl) ?_
    refine wA rfl (fun hkn => ?_) (fun hkn => ?_)
    ·skip
     have hkn' : s.joints[i].kind ≠ n := by simpa using hkn
     refine wU ?_
     refine qC rfl ?_
     refine qA (qO rfl (by omega)) ?_
     refine qA (qB (v := .int .i64 _) rfl) ?_
     refine ⟨(i + 1, F, AC, Ls), ⟨rfl, trivial⟩, rfl, rfl, E_i, fun h3 E3 => BodyJ.skip J_i hlt (by rw [hka]; exact hkn'), by first | omega | (dsimp only; omega), ?_⟩
     repeat (first | exact qU _ _ _ | refine wB (by decide) ?_ | refine qS rfl ?_ | refine wN rfl ?_)
    ·skip
     have hkn' : s.joints[i].kind = n := by simpa using hkn
     refine qT ?_
     refine qF ?_
     refine qF ?_
     refine qC rfl ?_
     refine qX 17 (vs := [.int .i64 _, .int .i64 _, .int .i64 _, .int .i64 _, .int .i64 _, .int .i64 _, .int .i64 _, .int .i64 _, .int .i64 _]) rfl rfl rfl rfl rfl ?_
     refine qX 11 (vs := [.int .i64 _, .int .i64 _, .int .i64 _, .int .i64 _, .int .i64 _, .int .i64 _]) rfl rfl rfl rfl rfl ?_
     refine qI 5 (v := .int .i64 _) rfl rfl rfl rfl ?_
     refine wP (caps := []) (vs := [.agg #[.int .i64 _, .int .i64 _, .int .i64 _, .int .i64 _, .int .i64 _, .int .i64 _, .int .i64 _, .int .i64 _, .int .i64 _], .agg #[.int .i64 _, .int .i64 _, .int .i64 _, .int .i64 _, .int .i64 _, .int .i64 _], .int .i64 _]) rfl rfl rfl (failures_ok s.joints[i] x s.heats.length hw1 hw6 _ rfl JB h_i) ?_
     rintro _ h1 E1 ⟨mm, rfl, hmm⟩
     refine op_range rfl rfl (fun V => wE V _ _ hmm) fun it58 hit58 => ?_
     refine qH [_, _, _, _, _, _, _, _, _, _, _, _, _, _, _, _, _, _, _] rfl ?_
     refine qN ?_
     refine xp_loopL [13, 59, 60, 61, 62, 63, 64, 65, 66, 67, 68, 69, 70, 71, 72, 73, 74, 75, 76, 77, 78, 79, 80, 81, 82, 83, 84] 19 (α := List Nat × Nat × Acc × List Fl) (fun ⟨sn, m, a', la⟩ => []) (fun ⟨sn, m, a', la⟩ L => (((((L.set 12 (some (b9, .cells #[.int .u64 (fset F i m 0 : Nat), .int .u64 (fset F i m 1 : Nat), .int .u64 (fset F i m 2 : Nat)] 95 (0, 0)))).set 13 (some (b10, .cells #[(fset AC i a' 0).v, (fset AC i a' 1).v, (fset AC i a' 2).v] 140 (0, 0)))).set 14 ((fset AC i a' 0).p)).set 15 ((fset AC i a' 1).p)).set 16 ((fset AC i a' 2).p)).set 18 (some (it58, iterO mm (encs flV (insAll (failuresM s.joints[i] x s.heats.length))).length sn))) (fun ⟨sn, m, a', la⟩ h_sn => InnerJ 103 s i (insAll (failuresM s.joints[i] x s.heats.length)) sn m a' la) (fun ⟨sn, m, a', la⟩ => (insAll (failuresM s.joints[i] x s.heats.length)).length - sn.length) (([], F i, AC i, Ls i)) trivial (by dsimp only; rw [fset_self, fset_self]; rfl) (J_i.inner) ?_
     rintro ⟨sn, m, a', la⟩ T4 h_sn E_sn J_sn
     refine qP [_, _, _, _, _, _, _, _, _, _, _, _, _, _, _, _, _, _, _] rfl ?_
     have hmm2 := E_sn _ _ hmm
     refine qF ?_
     refine qC rfl ?_
     refine op_next 18 rfl rfl (fun V => wE V _ _ hmm2) ?_ ?_
     ·intro jx p hp hjn
      obtain ⟨y, v, hy, rfl⟩ := encs_get hp
      have hyw : y.week ≤ 6 := by
       have := failuresM_week ((insAll_get y).1 ⟨jx, v, hy⟩)
       omega
      have hsl := J_sn.snlen
      have hlen5 := failuresM_len JB x s.heats.length
      have hins := insAll_len (failuresM s.joints[i] x s.heats.length)
      have hsn2 : sn.length + 1 ≤ (insAll (failuresM s.joints[i] x s.heats.length)).length := by
       have := nodup_len (insAll (failuresM s.joints[i] x s.heats.length)).length _ (snoc_nodup J_sn.nd hjn) (fun k hk => by
        rcases List.mem_append.1 hk with h | h
        ·exact J_sn.lt k h
        ·simp at h; subst h; exact (List.getElem?_eq_some_iff.1 hy).1)
       simpa using this
      have hsl2 : (sn ++ [jx]).length = sn.length + 1 := by simp
      refine qA (qK (v := .bool _) rfl) ?_
      refine qF ?_
      refine xp_condT rfl (rfl) ?_
      refine qT ?_
      refine qN ?_
      refine qF ?_
      refine qC rfl ?_
      refine op_entry 18 rfl rfl (fun V => wE V _ _ hmm2) hp ?_
      refine qA (qK (v := .agg #[.int .i64 _, .int .i64 _]) rfl) ?_
      refine wO (cs := [_, _]) rfl rfl fun b13 hb13 => ?_
      refine qH [_, _, _, _, _, _, _, _, _, _, _, _, _, _, _, _, _, _, _, _] rfl ?_
      refine qJ 19 (v := .agg #[.int .i64 _, .int .i64 _]) (vs := [_, _]) (c' := [_, _]) rfl rfl rfl rfl rfl rfl rfl rfl rfl ?_
      refine qH [_, _, _, _, _, _, _, _, _, _, _, _, _, _, _, _, _, _, _, _] rfl ?_
      refine qF ?_
      refine zB [] rfl rfl rfl ?_
      refine qL (i := 0) rfl (by decide +kernel) ?_
      refine qX 0 (vs := [.slice _ _ _, .slice _ _ _, .slice _ _ _, .slice _ _ _]) rfl rfl rfl rfl rfl ?_
      refine qD (i := 1) rfl (by decide +kernel) (qB (v := .int .i64 _) rfl) ?_
      refine qD (i := 3) rfl (by decide +kernel) (qG rfl rfl rfl rfl 0 rfl) ?_
      refine qL (i := 4) rfl (by decide +kernel) ?_
      refine qI 19 (v := .int .i64 _) rfl rfl rfl rfl ?_
      refine zD (i := 2) rfl (by decide +kernel) ?_
      refine wP (caps := []) (vs := [.agg #[.slice _ _ _, .slice _ _ _, .slice _ _ _, .slice _ _ _], .int .i64 _]) rfl rfl rfl (told_ok s A0 A1 A2 A3 c0 c1 c2 c3 i h_sn (Rc.ext (zP (zP E_i E1) E_sn)) hw6 B.rw B.rl) ?_
      rintro _ h2 E2 rfl
      refine ⟨ext_wlm E2 _, ?_⟩
      refine wI (i := 5) rfl (by decide +kernel) (by decide +kernel) ?_
      refine wP (caps := []) (vs := [.int .u64 _, .int .i64 _]) rfl rfl rfl (has_ok (toldW s i) _ y.week rfl (toldW_lt s hw6 i) (by omega) h2) ?_
      rintro _ h3 E3 rfl
      refine wW rfl ?_
      refine wA rfl (fun hto => ?_) (fun hto => ?_)
      ·skip
       refine qF ?_
       refine zB [] rfl rfl rfl ?_
       refine qD (i := 0) rfl (by decide +kernel) (qB (v := .int .i64 _) rfl) ?_
       refine qD (i := 1) rfl (by decide +kernel) (qB (v := .int .i64 _) rfl) ?_
       refine qD (i := 2) rfl (by decide +kernel) (pv_indexA rfl rfl rfl rfl (by omega) (by omega)) ?_
       refine qL (i := 3) rfl (by decide +kernel) ?_
       refine qI 12 (v := .int .u64 (m : Nat)) rfl rfl rfl (f3arr F m i hj3) ?_
       refine qD (i := 4) rfl (by decide +kernel) (qG rfl rfl rfl rfl 0 rfl) ?_
       refine qL (i := 5) rfl (by decide +kernel) ?_
       refine qI 19 (v := .int .i64 _) rfl rfl rfl rfl ?_
       refine wI (i := 6) rfl (by decide +kernel) (by decide +kernel) ?_
       refine wP (caps := []) (vs := [.int .u64 _, .int .i64 _]) rfl rfl rfl (with_ok m _ y.week rfl J_sn.small (by omega) h3) ?_
       rintro _ h4 E4 rfl
       refine qD (i := 7) rfl (by decide +kernel) (pv_indexA rfl rfl rfl rfl (by omega) (by omega)) ?_
       refine wI (i := 8) rfl (by decide +kernel) (by decide +kernel) ?_
       refine qJ 12 (v := .int .u64 _) (vs := [_]) (b := b9) (off := 0 + (i : Int).toNat * 1) rfl rfl rfl rfl rfl rfl (Nat.ble_eq_true_of_le (show 0 + (i : Int).toNat * 1 + 1 ≤ 3 by omega)) rfl (f3wr F m (withM m y.week) i hj3) ?_
       refine qZ [_, _, _, _, _, _, _, _, _, _, _, _, _, _, _, _, _, _, _, _] rfl ?_
       refine wW rfl ?_
       refine zB [] rfl rfl rfl ?_
       refine qD (i := 0) rfl (by decide +kernel) (qB (v := .int .i64 _) rfl) ?_
       refine qD (i := 1) rfl (by decide +kernel) (qB (v := .int .i64 _) rfl) ?_
       refine qD (i := 2) rfl (by decide +kernel) (pv_indexA rfl rfl rfl rfl (by omega) (by omega)) ?_
       refine qL (i := 3) rfl (by decide +kernel) ?_
       refine qI 13 (v := .slice _ _ _) rfl rfl rfl (a3arr AC a' i hj3) ?_
       refine qL (i := 4) rfl (by decide +kernel) ?_
       refine qX 19 (vs := [.int .i64 _, .int .i64 _]) rfl rfl rfl rfl rfl ?_
       refine zD (i := 5) rfl (by decide +kernel) ?_
       refine wG (zc := [_, _]) (vs := [(0, .agg #[.int .i64 _, .int .i64 _])]) (cs := [_, _]) rfl rfl rfl rfl rfl rfl rfl fun b82 hb82 => ?_
       refine ⟨ext_new hb82 _, ?_⟩
       refine qZ [_, _, _, _, _, _, _, _, _, _, _, _, _, _, _, _, _, _, _, _, _] rfl ?_
       refine wI (i := 6) rfl (by decide +kernel) (by decide +kernel) ?_
       refine zK (14 + i) (a := a') J_sn.acc rfl (by match i, hj3 with | 0, _ => rfl | 1, _ => rfl | 2, _ => rfl) rfl (fun V => rdP V (i := 20) rfl) rfl rfl rfl rfl rfl rfl rfl rfl rfl (by omega) rfl (by have := J_sn.len; rw [wS (m := 2) (fun _ _ => rfl)]; simp; omega) fun a2 h5 E5 ha2 => ?_
       refine qZ _ (setAcc _ 14 AC i hj3 a' a2 rfl rfl rfl) ?_
       refine qZ [_, _, _, _, _, _, _, _, _, _, _, _, _, _, _, _, _, _, _, _, _] rfl ?_
       refine qD (i := 7) rfl (by decide +kernel) (pv_indexA rfl rfl rfl rfl (by omega) (by omega)) ?_
       refine wI (i := 8) rfl (by decide +kernel) (by decide +kernel) ?_
       refine qJ 13 (v := .slice _ _ _) (vs := [_]) (b := b10) (off := 0 + (i : Int).toNat * 1) rfl rfl rfl rfl rfl rfl (Nat.ble_eq_true_of_le (show 0 + (i : Int).toNat * 1 + 1 ≤ 3 by omega)) rfl (a3wr AC a' a2 i hj3) ?_
       refine qZ [_, _, _, _, _, _, _, _, _, _, _, _, _, _, _, _, _, _, _, _, _] rfl ?_
       refine wW rfl ?_
       refine ⟨(sn ++ [jx], withM m y.week, a2, la ++ [y]), trivial, rfl, rfl, (zP (zP (zP (zP E_sn E2) E3) E4) E5), fun h3 E3 => J_sn.yes hy hjn hto (by omega) ha2, by first | omega | (dsimp only; omega), ?_⟩
       repeat (first | exact qU _ _ _ | refine wB (by decide) ?_ | refine qS rfl ?_ | refine wN rfl ?_)
      ·skip
       refine qT ?_
       refine ⟨(sn ++ [jx], m, a', la), trivial, rfl, rfl, (zP (zP E_sn E2) E3), fun h3 E3 => J_sn.no hy hjn hto, by first | omega | (dsimp only; omega), ?_⟩
       repeat (first | exact qU _ _ _ | refine wB (by decide) ?_ | refine qS rfl ?_ | refine wN rfl ?_)
     ·intro hall
      obtain ⟨hm1, hm2⟩ := J_sn.all hji hkn' (fun k hk => hall k (by simpa [encs] using hk))
      have hsl := J_sn.snlen
      have hlen5 := failuresM_len JB x s.heats.length
      have hins := insAll_len (failuresM s.joints[i] x s.heats.length)
      refine qA (qK (v := .bool _) rfl) ?_
      refine qF ?_
      refine zI rfl (rfl) ?_
      refine wU ?_
      refine qF ?_
      refine qC rfl ?_
      refine qA (qB (v := .int .i64 _) rfl) ?_
      refine qA (pv_indexA rfl rfl rfl rfl (by omega) (by omega)) ?_
      refine qI 12 (v := .int .u64 (m : Nat)) rfl rfl rfl (f3arr F m i hj3) ?_
      refine qA (qK (v := .bool _) rfl) ?_
      refine wA rfl (fun hz => ?_) (fun hz => ?_)
      ·skip
       have hz0 : m = 0 := by simpa using hz
       have hno : okM s n x = false := not_okM hlt (by rw [hka]; exact hkn') (by rw [← hm1]; exact hz0)
       have okk := okK_succ hx
       rw [if_neg (by simp [hno])] at okk
       have e1 : fatesK s n (k + 1) = fatesK s n k := by unfold fatesK; rw [okk]
       have e2 : skK s n (k + 1) = skK s n k := by unfold skK; rw [okk]
       have e3 : ∀ i, flsK s n i (k + 1) = flsK s n i k := by intro i; unfold flsK; rw [okk]
       refine wU ?_
       intro V2
       refine ⟨rfl, ⟨_, _, rfl⟩, ?_⟩
       have V3 := valid_set (o' := obL lp .ready none) V2 (i := 10) rfl
       obtain ⟨h9, E9, e9, V9⟩ := wl_drop [_, _, _, _, _, _, _, _] [_, _, _, _, _, _, _, _, _, _, _] V3
       refine ⟨h9, _, e9, V9, zP (zP (zP E_i E1) E_sn) E9, rfl, zP (zP E0 (zP (zP E_i E1) E_sn)) E9, a, fl, by rw [e1], by rw [e2]; exact ha, fun i hi y => by rw [e3]; exact hfl i hi y⟩
      ·skip
       have hz0 : m ≠ 0 := by simpa using hz
       refine qT ?_
       refine qC rfl ?_
       refine qA (qO rfl (by omega)) ?_
       refine qA (qB (v := .int .i64 _) rfl) ?_
       refine ⟨(i + 1, fset F i m, fset AC i a', fset Ls i la), ⟨rfl, trivial⟩, rfl, rfl, (zP (zP E_i E1) E_sn), fun h3 E3 => J_i.step hlt hm1 hz0 hm2 J_sn.acc (by have := J_sn.len; omega), by first | omega | (dsimp only; omega), ?_⟩
       repeat (first | exact qU _ _ _ | refine wB (by decide) ?_ | refine qS rfl ?_ | refine wN rfl ?_)
   ·skip
    have hi : i = s.joints.length := by have := geI hti; have := J_i.le; omega
    subst hi
    have hok : okM s n x = true := J_i.ok
    have okk := okK_succ hx
    rw [if_pos hok] at okk
    have hn6 : (skK s n k).length = a.n := by have := ha.len; rw [wS (m := 6) (fun _ _ => rfl)] at this; omega
    have hn7 := skK_len B n k
    refine wU ?_
    refine xp_cutB [14, 90, 91, 92, 93, 94, 95, 96, 97, 98, 99, 100, 101, 102, 103, 104, 105, 106, 107, 108, 109, 110] 17 (α := Acc) (fun a2 => []) (fun a2 L => (L.set 4 (some (b5, .cells #[.slice a2.A a2.n a2.c, .map (some b19), mvk s.joints.length fm 0, mvk s.joints.length fm 1, mvk s.joints.length fm 2] 80 (0, 0)))).set 9 (a2.p)) (fun a2 h_a2 => AccR 89 6 ((skK s n (k + 1)).flatMap skyC) a2) ?_ ?_
    ·skip
     refine qF ?_
     refine qC rfl ?_
     refine qA (qG rfl rfl rfl rfl 0 rfl) ?_
     refine qI 4 (v := .slice _ _ _) rfl rfl rfl rfl ?_
     refine qA (wV rfl rfl) ?_
     refine qA (qE (v := .int .i64 _) rfl) ?_
     refine qF ?_
     refine zB [] rfl rfl rfl ?_
     refine qD (i := 0) rfl (by decide +kernel) (qB (v := .int .i64 _) rfl) ?_
     refine qD (i := 1) rfl (by decide +kernel) (qK (v := .bool _) rfl) ?_
     refine qD (i := 2) rfl (by decide +kernel) (qB (v := .bool _) rfl) ?_
     by_cases hemp : skK s n k = []
     ·have hn0 : a.n = 0 := by rw [← hn6, hemp]; rfl
      have hg : decide ((a.n : Int) = 0) = true := by rw [hn0]; rfl
      have hsk : skK s n (k + 1) = skK s n k ++ [x] := by
       rw [skK_succ okk, pushSky, hemp]
       rfl
      refine wD (i := 3) rfl (by decide +kernel) rfl hg ?_
      refine wD (i := 4) rfl (by decide +kernel) rfl hg ?_
      refine wD (i := 5) rfl (by decide +kernel) rfl hg ?_
      refine wD (i := 6) rfl (by decide +kernel) rfl hg ?_
      refine wD (i := 7) rfl (by decide +kernel) rfl hg ?_
      refine wD (i := 8) rfl (by decide +kernel) rfl hg ?_
      refine wD (i := 9) rfl (by decide +kernel) rfl hg ?_
      refine wD (i := 10) rfl (by decide +kernel) rfl hg ?_
      refine qD (i := 11) rfl (by decide +kernel) (wX rfl hg (v := .bool _) rfl) ?_
      refine wW rfl ?_
      refine xp_condT rfl (rfl) ?_
      refine qC rfl ?_
      refine qA (qG rfl rfl rfl rfl 0 rfl) ?_
      refine qI 4 (v := .slice _ _ _) rfl rfl rfl rfl ?_
      refine qX 11 (vs := [.int .i64 _, .int .i64 _, .int .i64 _, .int .i64 _, .int .i64 _, .int .i64 _]) rfl rfl rfl rfl rfl ?_
      refine wG (zc := [_, _, _, _, _, _]) (vs := [(0, .agg #[.int .i64 _, .int .i64 _, .int .i64 _, .int .i64 _, .int .i64 _, .int .i64 _])]) (cs := [_, _, _, _, _, _]) rfl rfl rfl rfl rfl rfl rfl fun b108 hb108 => ?_
      refine qH [_, _, _, _, _, _, _, _, _, _, _, _, _, _, _, _, _, _] rfl ?_
      refine zK 9 ha rfl rfl rfl (fun V => rdP V (i := 17) rfl) rfl rfl rfl rfl rfl rfl rfl rfl rfl (by omega) rfl (by rw [wS (m := 6) (fun _ _ => rfl)]; simp; omega) fun a2 h6a E6a ha2 => ?_
      refine qH [_, _, _, _, _, _, _, _, _, _, _, _, _, _, _, _, _, _] rfl ?_
      refine qA (qG rfl rfl rfl rfl 0 rfl) ?_
      refine qJ 4 (v := .slice _ _ _) (vs := [_]) (c' := [_, _, _, _, _]) rfl rfl rfl rfl rfl rfl rfl rfl rfl ?_
      refine qH [_, _, _, _, _, _, _, _, _, _, _, _, _, _, _, _, _, _] rfl ?_
      refine ⟨a2, trivial, rfl, rfl, E6a, fun h3 E3 => by rw [hsk, List.flatMap_append]; exact ha2, ?_⟩
      repeat (first | exact zE _ _ | exact qU _ _ _ | refine wB (by decide) ?_ | refine qS rfl ?_ | refine wN rfl ?_)
     ·have hn0 : 0 < (skK s n k).length := by cases hsk : skK s n k with | nil => exact absurd hsk hemp | cons _ _ => simp
      have hg : decide ((a.n : Int) = 0) = false := by simp; omega
      have hlast : (skK s n k).length - 1 < (skK s n k).length := by omega
      obtain ⟨gs, hAs, hcs⟩ := ha.at (fun _ _ => rfl) (by omega) hlast
      have hix : ((a.n : Int) - 1).toNat = (skK s n k).length - 1 := by omega
      have hgl : (skK s n k).getLast? = some (skK s n k)[(skK s n k).length - 1] := by rw [List.getLast?_eq_getElem?, List.getElem?_eq_getElem hlast]
      refine qY (i := 3) rfl (by decide +kernel) rfl hg (qG rfl rfl rfl rfl 0 rfl) ?_
      refine zM (i := 4) rfl (by decide +kernel) rfl hg ?_
      refine qI 4 (v := .slice _ _ _) rfl rfl rfl rfl ?_
      refine qY (i := 5) rfl (by decide +kernel) rfl hg (qB (v := .int .i64 _) rfl) ?_
      refine qY (i := 6) rfl (by decide +kernel) rfl hg (qO rfl (by omega)) ?_
      refine qY (i := 7) rfl (by decide +kernel) rfl hg (wM rfl hAs rfl rfl rfl (by omega) (by omega)) ?_
      refine zM (i := 8) rfl (by decide +kernel) rfl hg ?_
      refine op_loadW (cs := skyC (skK s n k)[(skK s n k).length - 1]) rfl rfl rfl rfl (fun V => by rw [hix]; exact hcs _ _ 9 rfl V) ?_
      refine zM (i := 9) rfl (by decide +kernel) rfl hg ?_
      refine qX 11 (vs := [.int .i64 _, .int .i64 _, .int .i64 _, .int .i64 _, .int .i64 _, .int .i64 _]) rfl rfl rfl rfl rfl ?_
      refine qY (i := 10) rfl (by decide +kernel) rfl hg (pv_neA rfl rfl (by kernel_rfl) (skyEq _ _)) ?_
      refine qD (i := 11) rfl (by decide +kernel) (wY rfl hg (v := .bool _) rfl) ?_
      refine wW rfl ?_
      refine wA rfl (fun hne => ?_) (fun hne => ?_)
      ·skip
       have hsk : skK s n (k + 1) = skK s n k ++ [x] := by
        have hne2 : ¬ some (skK s n k)[(skK s n k).length - 1] = some x := fun e => by
         have := Option.some.inj e
         simp [this] at hne
        rw [skK_succ okk, pushSky, hgl, if_neg hne2]
       refine qC rfl ?_
       refine qA (qG rfl rfl rfl rfl 0 rfl) ?_
       refine qI 4 (v := .slice _ _ _) rfl rfl rfl rfl ?_
       refine qX 11 (vs := [.int .i64 _, .int .i64 _, .int .i64 _, .int .i64 _, .int .i64 _, .int .i64 _]) rfl rfl rfl rfl rfl ?_
       refine wG (zc := [_, _, _, _, _, _]) (vs := [(0, .agg #[.int .i64 _, .int .i64 _, .int .i64 _, .int .i64 _, .int .i64 _, .int .i64 _])]) (cs := [_, _, _, _, _, _]) rfl rfl rfl rfl rfl rfl rfl fun b108_1 hb108_1 => ?_
       refine qH [_, _, _, _, _, _, _, _, _, _, _, _, _, _, _, _, _, _] rfl ?_
       refine zK 9 ha rfl rfl rfl (fun V => rdP V (i := 17) rfl) rfl rfl rfl rfl rfl rfl rfl rfl rfl (by omega) rfl (by rw [wS (m := 6) (fun _ _ => rfl)]; simp; omega) fun a2 h7a E7a ha2 => ?_
       refine qH [_, _, _, _, _, _, _, _, _, _, _, _, _, _, _, _, _, _] rfl ?_
       refine qA (qG rfl rfl rfl rfl 0 rfl) ?_
       refine qJ 4 (v := .slice _ _ _) (vs := [_]) (c' := [_, _, _, _, _]) rfl rfl rfl rfl rfl rfl rfl rfl rfl ?_
       refine qH [_, _, _, _, _, _, _, _, _, _, _, _, _, _, _, _, _, _] rfl ?_
       refine ⟨a2, trivial, rfl, rfl, E7a, fun h3 E3 => by rw [hsk, List.flatMap_append]; exact ha2, ?_⟩
       repeat (first | exact zE _ _ | exact qU _ _ _ | refine wB (by decide) ?_ | refine qS rfl ?_ | refine wN rfl ?_)
      ·skip
       have hsk : skK s n (k + 1) = skK s n k := by
        have hne2 : (skK s n k)[(skK s n k).length - 1] = x := by simpa using hne
        rw [skK_succ okk, pushSky, hgl, if_pos (by rw [hne2])]
       refine qT ?_
       refine ⟨a, trivial, rfl, rfl, (Ext.refl _), fun h3 E3 => by rw [hsk]; exact ha, ?_⟩
       repeat (first | exact zE _ _ | exact qU _ _ _ | refine wB (by decide) ?_ | refine qS rfl ?_ | refine wN rfl ?_)
    rintro a2 T5 h_a2 E_a2 J_a2
    refine qP [_, _, _, _, _, _, _, _, _, _, _, _, _, _, _, _, _] rfl ?_
    refine qF ?_
    refine qC rfl ?_
    refine qA (qG rfl rfl rfl rfl 1 rfl) ?_
    refine qI 4 (v := .map _) rfl rfl rfl rfl ?_
    refine qX 12 (vs := [.int .u64 _, .int .u64 _, .int .u64 _]) rfl rfl rfl rfl rfl ?_
    refine op_mapUpdate 3 (a := fateOf s n x) (v := .bool true) fateK rfl rfl (BodyJ.fate J_i) rfl rfl ?_
    refine qH [_, _, _, _, _, _, _, _, _, _, _, _, _, _, _, _, _] rfl ?_
    refine goes_pubO 14 rfl ?_
    intro q0 Q0 P0
    refine qP [_, _, _, _, _, _, _, _, _, _, _, _, _, _, _, _, _] rfl ?_
    refine goes_pubO 15 rfl ?_
    intro q1 Q1 P1
    refine qP [_, _, _, _, _, _, _, _, _, _, _, _, _, _, _, _, _] rfl ?_
    refine goes_pubO 16 rfl ?_
    intro q2 Q2 P2
    refine qP [_, _, _, _, _, _, _, _, _, _, _, _, _, _, _, _, _] rfl ?_
    have RL : ∀ q, q < 3 → Row q2 2 flC (AC q).A (Ls q) := fun q hq => ⟨fun _ _ => rfl, (J_i.acc q).rd (fun b o e => by
     match q, hq with
     | 0, _ => exact Q2 _ _ (Q1 _ _ (P0 b o e))
     | 1, _ => exact Q2 _ _ (P1 b o e)
     | 2, _ => exact P2 b o e)⟩
    have LL : ∀ q, (Ls q).length = (AC q).n := fun q => by have := (J_i.acc q).len; rw [wS (m := 2) (fun _ _ => rfl)] at this; omega
    refine qF ?_
    refine qC rfl ?_
    refine qX 13 (vs := [.slice _ _ _, .slice _ _ _, .slice _ _ _]) rfl rfl rfl rfl rfl ?_
    refine qA (qB (v := .int .i64 _) rfl) ?_
    refine qN ?_
    refine xp_loopL [15, 16, 18, 115, 116, 117, 118, 119, 120, 121, 122, 123, 124, 125, 126, 127, 128, 129, 130, 131] 17 (α := Nat × (Nat → List Fl)) (fun ⟨q, fl'⟩ => [(115, .int .i64 q)]) (fun ⟨q, fl'⟩ L => ((L.set 6 (mpk s.joints.length fm fl' 0)).set 7 (mpk s.joints.length fm fl' 1)).set 8 (mpk s.joints.length fm fl' 2)) (fun ⟨q, fl'⟩ h_q => q ≤ 3 ∧ ∀ i, i < s.joints.length → ∀ y, y ∈ fl' i ↔ y ∈ fl i ∨ (i < q ∧ y ∈ Ls i)) (fun ⟨q, fl'⟩ => 3 - q) ((0, fl)) ⟨rfl, trivial⟩ (rfl) (⟨by omega, fun i hi y => by simp⟩) ?_
    rintro ⟨q, fl'⟩ T8 h_q E_q J_q
    refine qP [_, _, _, _, _, _, _, _, _, _, _, _, _, _, _, _, _] rfl ?_
    refine qF ?_
    refine qC rfl ?_
    refine qA (qK (v := .bool _) rfl) ?_
    refine qF ?_
    refine wA rfl (fun hq => ?_) (fun hq => ?_)
    ·skip
     have hq3 : q < 3 := ltI (n := 3) hq
     refine qT ?_
     refine qF ?_
     refine qN ?_
     refine qF ?_
     refine qC rfl ?_
     refine qA (qB (v := .int .i64 _) rfl) ?_
     refine qA (pv_indexV rfl rfl rfl rfl rfl (by omega) (by omega) (a3idx AC q hq3)) ?_
     refine qA (qE (v := .int .i64 _) rfl) ?_
     refine qA (qE (v := .slice _ _ _) rfl) ?_
     refine qF ?_
     refine qC rfl ?_
     refine qA (qB (v := .slice _ _ _) rfl) ?_
     refine qA (wV rfl rfl) ?_
     refine qA (qB (v := .int .i64 _) rfl) ?_
     refine qN ?_
     refine xp_loopL [18, 121, 122, 123, 124, 125, 126, 127, 128, 129, 130] 17 (α := Nat × List Fl) (fun ⟨t, cur⟩ => [(121, .int .i64 t)]) (fun ⟨t, cur⟩ L => ((L.set 6 (mpk s.joints.length fm (fset fl' q cur) 0)).set 7 (mpk s.joints.length fm (fset fl' q cur) 1)).set 8 (mpk s.joints.length fm (fset fl' q cur) 2)) (fun ⟨t, cur⟩ h_t => t ≤ (Ls q).length ∧ ∀ y, y ∈ cur ↔ y ∈ fl' q ∨ y ∈ (Ls q).take t) (fun ⟨t, cur⟩ => (Ls q).length - t) ((0, fl' q)) ⟨rfl, trivial⟩ (by dsimp only; rw [fset_self]; rfl) (⟨by omega, fun y => by simp⟩) ?_
     rintro ⟨t, cur⟩ T9 h_t E_t J_t
     refine qP [_, _, _, _, _, _, _, _, _, _, _, _, _, _, _, _, _] rfl ?_
     refine qF ?_
     refine qC rfl ?_
     refine qA (qK (v := .bool _) rfl) ?_
     refine qF ?_
     refine wA rfl (fun htt => ?_) (fun htt => ?_)
     ·skip
      have hlt : t < (Ls q).length := by rw [LL]; exact ltI htt
      have hqn : q < s.joints.length := by
       rcases Nat.lt_or_ge q s.joints.length with h | h
       ·exact h
       ·rw [(J_i.rest q h).2] at hlt; simp at hlt
      obtain ⟨gq, oq, hAq, hcq⟩ := ((RL q hq3).ext (zP E_q E_t)).at (by omega) hlt
      have hnq := LL q
      have hlq := J_i.len q
      refine qT ?_
      refine qF ?_
      refine qN ?_
      refine qF ?_
      refine qC rfl ?_
      refine qA (wM rfl hAq rfl rfl rfl (by omega) (by omega)) ?_
      refine op_loadA rfl rfl rfl rfl (hcq) ?_
      refine wO (cs := [_, _]) rfl rfl fun b18 hb18 => ?_
      refine qH [_, _, _, _, _, _, _, _, _, _, _, _, _, _, _, _, _, _] rfl ?_
      refine qJ 17 (v := .agg #[.int .i64 _, .int .i64 _]) (vs := [_, _]) (c' := [_, _]) rfl rfl rfl rfl rfl rfl rfl rfl rfl ?_
      refine qH [_, _, _, _, _, _, _, _, _, _, _, _, _, _, _, _, _, _] rfl ?_
      refine zB [] rfl rfl rfl ?_
      refine qD (i := 0) rfl (by decide +kernel) (qB (v := .int .i64 _) rfl) ?_
      refine qD (i := 1) rfl (by decide +kernel) (qG rfl rfl rfl rfl 2 rfl) ?_
      refine qD (i := 2) rfl (by decide +kernel) (pv_indexA rfl rfl rfl rfl (by omega) (by omega)) ?_
      refine qL (i := 3) rfl (by decide +kernel) ?_
      refine qI 4 (v := .map (some (fm q))) rfl rfl rfl (m3arr _ _ fm q hq3 hqn) ?_
      refine qL (i := 4) rfl (by decide +kernel) ?_
      refine qX 17 (vs := [.int .i64 _, .int .i64 _]) rfl rfl rfl rfl rfl ?_
      refine wI (i := 5) rfl (by decide +kernel) (by decide +kernel) ?_
      refine op_mapUpdate (6 + q) (a := (Ls q)[t]) (m := fm q) (l := insAll cur) flK rfl rfl rfl rfl (by rw [← mpk_at fm fl' cur hqn]; match q, hq3 with | 0, _ => rfl | 1, _ => rfl | 2, _ => rfl) ?_
      have hg : (some (fm q, mapO (encs flV (putL (Ls q)[t] (.bool true) (insAll cur)))) : Option (Nat × Obj)) = mpk s.joints.length fm (fset fl' q (cur ++ [(Ls q)[t]])) q := by rw [mpk_at fm fl' _ hqn, insAll_snoc]
      refine qZ _ ((congrArg (List.set _ (6 + q)) hg).trans (setG _ 6 (mpk s.joints.length fm (fset fl' q cur)) (mpk s.joints.length fm (fset fl' q (cur ++ [(Ls q)[t]]))) q hq3 rfl rfl rfl (fun j hj => by simp only [mpk, fset_ne _ hj]))) ?_
      refine qZ [_, _, _, _, _, _, _, _, _, _, _, _, _, _, _, _, _, _] rfl ?_
      refine wW rfl ?_
      refine qC rfl ?_
      refine qA (qO rfl (by omega)) ?_
      refine qA (qB (v := .int .i64 _) rfl) ?_
      refine ⟨(t + 1, cur ++ [(Ls q)[t]]), ⟨rfl, trivial⟩, rfl, rfl, E_t, fun h3 E3 => ⟨hlt, fun y => by have j2 := J_t.2 y; rw [List.mem_append, j2, List.take_succ_eq_append_getElem hlt, List.mem_append, or_assoc]⟩, by first | omega | (dsimp only; omega), ?_⟩
      repeat (first | exact qU _ _ _ | refine wB (by decide) ?_ | refine qS rfl ?_ | refine wN rfl ?_)
     ·skip
      have htl : t = (Ls q).length := by have := geI htt; rw [← LL] at this; have := J_t.1; omega
      refine wU ?_
      refine qC rfl ?_
      refine qA (qO rfl (by omega)) ?_
      refine qA (qB (v := .int .i64 _) rfl) ?_
      refine ⟨(q + 1, fset fl' q cur), ⟨rfl, trivial⟩, rfl, rfl, (zP E_q E_t), fun h3 E3 => ⟨hq3, mapsJ J_q.2 (by have j2 := J_t.2; rw [htl, List.take_length] at j2; exact j2)⟩, by first | omega | (dsimp only; omega), ?_⟩
      repeat (first | exact qU _ _ _ | refine wB (by decide) ?_ | refine qS rfl ?_ | refine wN rfl ?_)
    ·skip
     have hq3 : q = 3 := by have := geI (n := 3) hq; have := J_q.1; omega
     have e1 : fatesK s n (k + 1) = fatesK s n k ++ [fateOf s n x] := by unfold fatesK; rw [okk, List.map_append]; rfl
     have e3 : ∀ i, flsK s n i (k + 1) = flsK s n i k ++ surv s n x i := by intro i; unfold flsK; rw [okk, List.flatMap_append]; simp
     have j2 := J_q.2
     refine wU ?_
     intro V2
     refine ⟨rfl, ⟨_, _, rfl⟩, ?_⟩
     have V3 := valid_set (o' := obL lp .ready none) V2 (i := 10) rfl
     obtain ⟨h9, E9, e9, V9⟩ := wl_drop [_, _, _, _, _, _] [_, _, _, _, _, _, _, _, _, _, _] V3
     refine ⟨h9, _, e9, V9, zP (zP (zP (zP (zP (zP E_i E_a2) Q0) Q1) Q2) E_q) E9, rfl, zP (zP E0 (zP (zP (zP (zP (zP E_i E_a2) Q0) Q1) Q2) E_q)) E9, a2, fl', by rw [e1, insAll_snoc], J_a2, fun i hi y => by rw [e3, List.mem_append, j2 i hi y, hfl i hi y, (J_i.done i hi).2.2 y]; exact ⟨fun h => h.imp id (fun h => h.2), fun h => h.imp id (fun h => ⟨by omega, h⟩)⟩⟩
  ·rintro v H ⟨h', M', rfl, V', E', I⟩
   obtain ⟨E0, a, fl, rfl, ha, hfl⟩ := I
   refine ⟨h', [_, _, _, _, _, _, _, _, _, _], .ready, none, rfl, V', by simp, fun h'' E'' => ?_⟩
   have hlen : (skM s n).length * 6 = a.n * 6 := by rw [← ha.len, wS (m := 6) (fun _ _ => rfl)]
   refine qF ?_
   refine qC rfl ?_
   refine qX 4 (vs := [.slice _ _ _, .map _, .map _, .map _, .map _]) rfl rfl rfl rfl rfl ?_
   refine qJ 2 (v := .agg #[.slice _ _ _, .map _, .map _, .map _, .map _]) (vs := [_, _, _, _, _]) (c' := [_, _, _, _, _]) rfl rfl rfl rfl rfl rfl rfl rfl rfl ?_
   refine qH [_, _, _, _, _, _, _, _, _, _] rfl ?_
   refine wK ?_
   refine res_listM (vs := [_]) rfl Try.results62 ⟨resV_agg 2 rfl rfl rfl rfl rfl (vs := [.slice _ _ _, .map _, .map _, .map _, .map _]) rfl, trivial⟩ fun hM EM V => ?_
   refine ⟨zP (zP (zP (zP E_k E_y) E') E'') (zP EM (wE V)), a.A, a.c, b19, fm, fl, ?_, ⟨fun _ _ => rfl, ha.rd fun b o e => wl_get V (i := 9) (by rw [← e]; rfl)⟩, wl_get V (i := 3) rfl, fun i hi => ⟨?_, hfl i hi⟩⟩
   ·show _ = Value.agg #[.slice a.A (skM s n).length a.c, _, _, _, _]
    rw [show (skM s n).length = a.n from by omega]
    rfl
   ·match i, hi with
    | 0, hi => exact wl_get V (i := 6) (by simp only [mpk, if_pos hi]; rfl)
    | 1, hi => exact wl_get V (i := 7) (by simp only [mpk, if_pos hi]; rfl)
    | 2, hi => exact wl_get V (i := 8) (by simp only [mpk, if_pos hi]; rfl)
    | i + 3, hi => omega
end Go.Proofs.Ytgjcepdhclmglaa
namespace Go.Proofs.Ytgjcepdhclmglaa
open Go Go.HL Go.Proofs Go.Wx
variable [Lvl]
set_option maxRecDepth 100000
def BothR (h : AH) (s : Season) (v : Value) : Prop := ∃ (A : Option Addr) (c mf : Nat) (fm : Nat → Nat) (fl : Nat → List Fl) (A' : Option Addr) (c' mf' : Nat) (fm' : Nat → Nat) (fl' : Nat → List Fl),
 v = .agg (halfC s 1 A c mf fm ++ halfC s 2 A' c' mf' fm').toArray ∧ HalfX h s 1 A mf fm fl ∧ HalfX h s 2 A' mf' fm' fl'
theorem BothR.ext {h h' : AH} {s : Season} {v : Value} (b : BothR h s v) (E : Ext h h') : BothR h' s v := by
 obtain ⟨A, c, mf, fm, fl, A', c', mf', fm', fl', e, x, x'⟩ := b
 exact ⟨A, c, mf, fm, fl, A', c', mf', fm', fl', e, x.ext E, x'.ext E⟩
theorem bothOf_ok (s : Season) (B : SeasonB s) (A0 A1 A2 A3 : Option Addr) (c0 c1 c2 c3 : Nat) (h : AH) (R : SeasonR h A0 A1 A2 A3 s) :
  FnT Try.prog 44 #[seasonV A0 A1 A2 A3 c0 c1 c2 c3 s] h (fun v h' => ∃ w, v = .tuple #[w, .bool (mayM s)] ∧ BothR h' s w) := by
 refine wL Try.func44 rfl Try.ntmps44 rfl ?_
 refine qF ?_
 refine qC rfl ?_
 refine zF (v := .agg #[.slice _ _ _, .slice _ _ _, .slice _ _ _, .slice _ _ _]) (cs := [_, _, _, _]) rfl rfl fun b1 hb1 => ?_
 refine qH [_] rfl ?_
 refine wO (cs := [_, _, _, _, _, _, _, _, _, _]) rfl rfl fun b2 hb2 => ?_
 refine qH [_, _] rfl ?_
 refine qA (qE (v := .bool _) rfl) ?_
 refine qF ?_
 refine zB [] rfl rfl rfl ?_
 refine qL (i := 0) rfl (by decide +kernel) ?_
 refine qX 0 (vs := [.slice _ _ _, .slice _ _ _, .slice _ _ _, .slice _ _ _]) rfl rfl rfl rfl rfl ?_
 refine qL (i := 2) rfl (by decide +kernel) ?_
 refine qX 0 (vs := [.slice _ _ _, .slice _ _ _, .slice _ _ _, .slice _ _ _]) rfl rfl rfl rfl rfl ?_
 refine zD (i := 1) rfl (by decide +kernel) ?_
 refine wP (caps := []) (vs := [.agg #[.slice _ _ _, .slice _ _ _, .slice _ _ _, .slice _ _ _], .int .i64 _]) rfl rfl rfl (halfOf_ok s B 1 (.inl rfl) A0 A1 A2 A3 c0 c1 c2 c3 h R) ?_
 rintro _ h1 E1 ⟨A, c, mf, fm, fl, rfl, X⟩
 refine ⟨ext_wlm E1 _, ?_⟩
 refine wI (i := 3) rfl (by decide +kernel) (by decide +kernel) ?_
 refine wP (caps := []) (vs := [.agg #[.slice _ _ _, .slice _ _ _, .slice _ _ _, .slice _ _ _], .int .i64 _]) rfl rfl rfl (halfOf_ok s B 2 (.inr rfl) A0 A1 A2 A3 c0 c1 c2 c3 h1 (R.ext E1)) ?_
 rintro _ h2 E2 ⟨A', c', mf', fm', fl', rfl, X'⟩
 refine qD (i := 4) rfl (by decide +kernel) (pv_build (zc := [_, _, _, _, _, _, _, _, _, _]) (vs := [(0, .agg #[.slice _ _ _, .map _, .map _, .map _, .map _]), (1, .agg #[.slice _ _ _, .map _, .map _, .map _, .map _])]) (cs := [_, _, _, _, _, _, _, _, _, _]) rfl rfl rfl rfl rfl rfl) ?_
 refine zD (i := 5) rfl (by decide +kernel) ?_
 refine wO (cs := [_, _, _, _, _, _, _, _, _, _]) rfl rfl fun b4 hb4 => ?_
 refine ⟨ext_new hb4 _, ?_⟩
 refine qZ [_, _, _] rfl ?_
 refine wI (i := 6) rfl (by decide +kernel) (by decide +kernel) ?_
 refine qJ 2 (v := .agg #[.slice _ _ _, .map _, .map _, .map _, .map _, .slice _ _ _, .map _, .map _, .map _, .map _]) (vs := [_, _, _, _, _, _, _, _, _, _]) (c' := [_, _, _, _, _, _, _, _, _, _]) rfl rfl rfl rfl rfl rfl rfl rfl rfl ?_
 refine qZ [_, _, _] rfl ?_
 refine wW rfl ?_
 refine qF ?_
 refine zB [false, true, false] rfl rfl rfl ?_
 refine qL (i := 0) rfl (by decide +kernel) ?_
 refine qX 2 (vs := [.slice _ _ _, .map _, .map _, .map _, .map _, .slice _ _ _, .map _, .map _, .map _, .map _]) rfl rfl rfl rfl rfl ?_
 refine qD (i := 1) rfl (by decide +kernel) (qG rfl rfl rfl rfl 0 rfl) ?_
 refine qD (i := 2) rfl (by decide +kernel) (qG rfl rfl rfl rfl 0 rfl) ?_
 refine qL (i := 3) rfl (by decide +kernel) ?_
 refine qI 2 (v := .slice _ _ _) rfl rfl rfl rfl ?_
 refine qD (i := 4) rfl (by decide +kernel) (wV rfl rfl) ?_
 refine qD (i := 5) rfl (by decide +kernel) (qK (v := .bool _) rfl) ?_
 refine qD (i := 6) rfl (by decide +kernel) (qB (v := .bool _) rfl) ?_
 rcases Bool.eq_false_or_eq_true (decide (((skM s 1).length : Int) > 0)) with hg | hg
 ·skip
  refine qY (i := 7) rfl (by decide +kernel) rfl hg (qG rfl rfl rfl rfl 5 rfl) ?_
  refine qY (i := 8) rfl (by decide +kernel) rfl hg (qG rfl rfl rfl rfl 5 rfl) ?_
  refine zM (i := 9) rfl (by decide +kernel) rfl hg ?_
  refine qI 2 (v := .slice _ _ _) rfl rfl rfl rfl ?_
  refine qY (i := 10) rfl (by decide +kernel) rfl hg (wV rfl rfl) ?_
  refine qY (i := 11) rfl (by decide +kernel) rfl hg (qK (v := .bool _) rfl) ?_
  refine qD (i := 12) rfl (by decide +kernel) (wX rfl hg (v := .bool _) rfl) ?_
  refine zD (i := 13) rfl (by decide +kernel) ?_
  refine qJ 1 (v := .agg #[.slice _ _ _, .map _, .map _, .map _, .map _, .slice _ _ _, .map _, .map _, .map _, .map _]) (vs := [_, _, _, _, _, _, _, _, _, _]) (c' := [_, _, _, _, _, _, _, _, _, _]) rfl rfl rfl rfl rfl rfl rfl rfl rfl ?_
  refine ⟨Ext.refl _, ?_⟩
  refine qZ [_, _, _] rfl ?_
  refine qD (i := 14) rfl (by decide +kernel) (qE (v := .bool _) rfl) ?_
  refine wW rfl ?_
  refine wK ?_
  refine qW (vs := [_, _]) Try.results44 ⟨resV_agg 1 rfl rfl rfl rfl rfl (vs := [.slice _ _ _, .map _, .map _, .map _, .map _, .slice _ _ _, .map _, .map _, .map _, .map _]) rfl, qR rfl rfl, trivial⟩ fun V => ?_
  refine ⟨(zP (zP E1 E2) (wE V)), _, ?_, A, c, mf, fm, fl, A', c', mf', fm', fl', rfl, X.ext (zP E2 (wE V)), X'.ext (wE V)⟩
  have : 0 < (skM s 1).length := by have := of_decide_eq_true hg; omega
  simp only [mayM, this, decide_true, Bool.true_and]
  show Value.tuple #[_, .bool (decide (((skM s 2).length : Int) > 0))] = _
  congr 3
  simp
 ·skip
  refine wD (i := 7) rfl (by decide +kernel) rfl hg ?_
  refine wD (i := 8) rfl (by decide +kernel) rfl hg ?_
  refine wD (i := 9) rfl (by decide +kernel) rfl hg ?_
  refine wD (i := 10) rfl (by decide +kernel) rfl hg ?_
  refine wD (i := 11) rfl (by decide +kernel) rfl hg ?_
  refine qD (i := 12) rfl (by decide +kernel) (wY rfl hg (v := .bool _) rfl) ?_
  refine zD (i := 13) rfl (by decide +kernel) ?_
  refine qJ 1 (v := .agg #[.slice _ _ _, .map _, .map _, .map _, .map _, .slice _ _ _, .map _, .map _, .map _, .map _]) (vs := [_, _, _, _, _, _, _, _, _, _]) (c' := [_, _, _, _, _, _, _, _, _, _]) rfl rfl rfl rfl rfl rfl rfl rfl rfl ?_
  refine ⟨Ext.refl _, ?_⟩
  refine qZ [_, _, _] rfl ?_
  refine qD (i := 14) rfl (by decide +kernel) (qE (v := .bool _) rfl) ?_
  refine wW rfl ?_
  refine wK ?_
  refine qW (vs := [_, _]) Try.results44 ⟨resV_agg 1 rfl rfl rfl rfl rfl (vs := [.slice _ _ _, .map _, .map _, .map _, .map _, .slice _ _ _, .map _, .map _, .map _, .map _]) rfl, qR rfl rfl, trivial⟩ fun V => ?_
  refine ⟨(zP (zP E1 E2) (wE V)), _, ?_, A, c, mf, fm, fl, A', c', mf', fm', fl', rfl, X.ext (zP E2 (wE V)), X'.ext (wE V)⟩
  have : ¬ 0 < (skM s 1).length := by have := of_decide_eq_false hg; omega
  simp only [mayM, this, decide_false, Bool.false_and]
  rfl
theorem of_ok (s : Season) (n : Int) (A : Option Addr) (c mf : Nat) (fm : Nat → Nat) (A' : Option Addr) (c' mf' : Nat) (fm' : Nat → Nat) (h : AH) :
  FnT Try.prog 30 #[.agg (halfC s 1 A c mf fm ++ halfC s 2 A' c' mf' fm').toArray, .int .i64 n] h (fun v _ => v = .agg (if n = 1 then halfC s 1 A c mf fm else halfC s 2 A' c' mf' fm').toArray) := by
 refine wL Try.func30 rfl Try.ntmps30 rfl ?_
 refine qF ?_
 refine qC rfl ?_
 refine zF (v := .agg #[.slice _ _ _, .map _, .map _, .map _, .map _, .slice _ _ _, .map _, .map _, .map _, .map _]) (cs := [_, _, _, _, _, _, _, _, _, _]) rfl rfl fun b2 hb2 => ?_
 refine qH [_] rfl ?_
 refine wO (cs := [_, _, _, _, _]) rfl rfl fun b4 hb4 => ?_
 refine qH [_, _] rfl ?_
 refine qF ?_
 refine qF ?_
 refine qC rfl ?_
 refine qA (qB (v := .int .i64 _) rfl) ?_
 refine qA (qK (v := .bool _) rfl) ?_
 refine wA rfl (fun hn => ?_) (fun hn => ?_)
 ·skip
  refine qF ?_
  refine qC rfl ?_
  refine qA (qG rfl rfl rfl rfl 0 rfl) ?_
  refine qX 0 (vs := [.slice _ _ _, .map _, .map _, .map _, .map _]) rfl rfl rfl rfl rfl ?_
  refine qJ 1 (v := .agg #[.slice _ _ _, .map _, .map _, .map _, .map _]) (vs := [_, _, _, _, _]) (c' := [_, _, _, _, _]) rfl rfl rfl rfl rfl rfl rfl rfl rfl ?_
  refine qH [_, _] rfl ?_
  refine wK ?_
  refine qW (vs := [_]) Try.results30 ⟨resV_agg 1 rfl rfl rfl rfl rfl (vs := [.slice _ _ _, .map _, .map _, .map _, .map _]) rfl, trivial⟩ fun V => ?_
  exact ⟨(wE V), by rw [if_pos (by simpa using hn)]; rfl⟩
 ·skip
  refine qT ?_
  refine qF ?_
  refine qC rfl ?_
  refine qA (qG rfl rfl rfl rfl 5 rfl) ?_
  refine qX 0 (vs := [.slice _ _ _, .map _, .map _, .map _, .map _]) rfl rfl rfl rfl rfl ?_
  refine qJ 1 (v := .agg #[.slice _ _ _, .map _, .map _, .map _, .map _]) (vs := [_, _, _, _, _]) (c' := [_, _, _, _, _]) rfl rfl rfl rfl rfl rfl rfl rfl rfl ?_
  refine qH [_, _] rfl ?_
  refine wK ?_
  refine qW (vs := [_]) Try.results30 ⟨resV_agg 1 rfl rfl rfl rfl rfl (vs := [.slice _ _ _, .map _, .map _, .map _, .map _]) rfl, trivial⟩ fun V => ?_
  exact ⟨(wE V), by rw [if_neg (by simpa using hn)]; rfl⟩
def AskT (f : Value) (h : AH) (e : Int) : Prop := ∀ h', Ext h h' → Fin h' → CallV Try.prog f [] h' (fun v h'' => Ext h' h'' ∧ v = .int .i64 e) noE
theorem AskT.ext {f : Value} {h h' : AH} {e : Int} (a : AskT f h e) (E : Ext h h') : AskT f h' e := fun h1 E1 => a h1 (E.trans E1)
def fnC (v : Value) : List Value := [v]
abbrev zeroBoth : Value := .agg #[.slice none 0 0, .map none, .map none, .map none, .map none, .slice none 0 0, .map none, .map none, .map none, .map none]
theorem known_ok (s : Season) (A0 A1 A2 A3 : Option Addr) (c0 c1 c2 c3 : Nat) (h : AH) (R : SeasonR h A0 A1 A2 A3 s) (h0 : s.heats.length < 2 ^ 40) (h1 : s.damps.length < 2 ^ 40) (h2 : s.joints.length < 2 ^ 40) (h3 : s.reports.length < 2 ^ 40)
  (fs : List Value) (es : List Int) (F : Option Addr) (cF : Nat) (RF : Row h 1 fnC F fs) (hl : fs.length = es.length) (hf : fs.length ≤ 10) (ask : ∀ (i : Nat) (f : Value) (e : Int), fs[i]? = some f → es[i]? = some e → AskT f h e) :
  FnT Try.prog 27 #[seasonV A0 A1 A2 A3 c0 c1 c2 c3 s, .slice F fs.length cF] h (fun v h' => ∃ w, v = .tuple #[w, .int .i64 (knownM s es)] ∧ (knownM s es = 0 → BothR h' s w) ∧ (knownM s es ≠ 0 → w = zeroBoth)) := by
 refine wL Try.func27 rfl Try.ntmps27 rfl ?_
 refine qF ?_
 refine qC rfl ?_
 refine zF (v := .agg #[.slice _ _ _, .slice _ _ _, .slice _ _ _, .slice _ _ _]) (cs := [_, _, _, _]) rfl rfl fun b2 hb2 => ?_
 refine qH [_] rfl ?_
 refine wO (cs := [_, _, _, _, _, _, _, _, _, _]) rfl rfl fun b4 hb4 => ?_
 refine qH [_, _] rfl ?_
 refine qA (qE (v := .int .i64 _) rfl) ?_
 refine qF ?_
 refine qF ?_
 refine qC rfl ?_
 refine qX 0 (vs := [.slice _ _ _, .slice _ _ _, .slice _ _ _, .slice _ _ _]) rfl rfl rfl rfl rfl ?_
 refine wP (caps := []) (vs := [.agg #[.slice _ _ _, .slice _ _ _, .slice _ _ _, .slice _ _ _]]) rfl rfl rfl (check_ok s A0 A1 A2 A3 c0 c1 c2 c3 h R h0 h1 h2 h3) ?_
 rintro _ h4 E4 rfl
 refine qA (qE (v := .int .i64 _) rfl) ?_
 refine qF ?_
 refine qC rfl ?_
 refine qA (qB (v := .int .i64 _) rfl) ?_
 refine qA (qK (v := .bool _) rfl) ?_
 refine wA rfl (fun hc => ?_) (fun hc => ?_)
 ·skip
  have hc' : checkM s ≠ 0 := by simpa using hc
  have hk : knownM s es = checkM s := by rw [knownM, if_pos hc']
  refine qF ?_
  refine qC rfl ?_
  refine qA (pv_build (zc := [_, _, _, _, _, _, _, _, _, _]) (vs := []) (cs := [_, _, _, _, _, _, _, _, _, _]) rfl rfl rfl rfl rfl rfl) ?_
  refine qA (qB (v := .int .i64 _) rfl) ?_
  refine qJ 1 (v := .agg #[.slice _ _ _, .map _, .map _, .map _, .map _, .slice _ _ _, .map _, .map _, .map _, .map _]) (vs := [_, _, _, _, _, _, _, _, _, _]) (c' := [_, _, _, _, _, _, _, _, _, _]) rfl rfl rfl rfl rfl rfl rfl rfl rfl ?_
  refine qH [_, _] rfl ?_
  refine qA (qE (v := .int .i64 _) rfl) ?_
  refine wK ?_
  refine qW (vs := [_, _]) Try.results27 ⟨resV_agg 1 rfl rfl rfl rfl rfl (vs := [.slice _ _ _, .map _, .map _, .map _, .map _, .slice _ _ _, .map _, .map _, .map _, .map _]) rfl, qR rfl rfl, trivial⟩ fun V => ?_
  exact ⟨(zP E4 (wE V)), _, by rw [hk]; rfl, fun e => absurd (hk ▸ e) hc', fun _ => rfl⟩
 ·skip
  have hc' : checkM s = 0 := by simpa using hc
  have SV := checkM_zero hc'
  refine qT ?_
  refine qF ?_
  refine qF ?_
  refine qC rfl ?_
  refine qA (qB (v := .slice _ _ _) rfl) ?_
  refine qA (wV rfl rfl) ?_
  refine qA (qB (v := .int .i64 _) rfl) ?_
  refine qN ?_
  refine zN [5, 8, 9, 20, 21, 22, 23, 24, 25, 26, 27, 28, 29, 30] 2 (α := Nat) (fun k => [(20, .int .i64 k)]) (fun k => _) (fun k h_k => k ≤ fs.length ∧ firstErr id (es.take k) = 0) (fun k => fs.length - k) (0) ⟨rfl, trivial⟩ (rfl) (⟨Nat.zero_le _, rfl⟩) ?_
  rintro k T1 h_k E_k J_k
  refine qP [_, _] rfl ?_
  refine qF ?_
  refine qC rfl ?_
  refine qA (qK (v := .bool _) rfl) ?_
  refine qF ?_
  refine wA rfl (fun ht => ?_) (fun ht => ?_)
  ·skip
   have hlt := ltI ht
   have hle : k < es.length := by omega
   obtain ⟨g, off, rfl, hcf⟩ := (RF.ext (zP E4 E_k)).at (by omega) hlt
   refine qT ?_
   refine qF ?_
   refine qN ?_
   refine qF ?_
   refine qC rfl ?_
   refine qA (qM rfl rfl rfl rfl (by omega) (by omega)) ?_
   refine qV (v := _) rfl rfl ((hcf) 0 _ rfl) ?_
   refine qA (qE (v := _) rfl) ?_
   refine qF ?_
   refine qC rfl ?_
   refine qA (qB (v := _) rfl) ?_
   refine op_callV rfl rfl (fun f => ask k fs[k] es[k] (List.getElem?_eq_getElem hlt) (List.getElem?_eq_getElem hle) h_k (zP E4 E_k) f) ?_
   rintro _ h5 E5 rfl
   refine qA (qE (v := .int .i64 _) rfl) ?_
   refine qF ?_
   refine qC rfl ?_
   refine qA (qB (v := .int .i64 _) rfl) ?_
   refine qA (qK (v := .bool _) rfl) ?_
   refine wA rfl (fun he => ?_) (fun he => ?_)
   ·skip
    have he' : id es[k] ≠ 0 := by simpa using he
    have hs := firstErr_stop hle J_k.2 he'
    have hk : knownM s es = es[k] := by rw [knownM, if_neg (by simp [hc']), hs, if_pos he']; rfl
    refine qF ?_
    refine qC rfl ?_
    refine qA (pv_build (zc := [_, _, _, _, _, _, _, _, _, _]) (vs := []) (cs := [_, _, _, _, _, _, _, _, _, _]) rfl rfl rfl rfl rfl rfl) ?_
    refine qA (qB (v := .int .i64 _) rfl) ?_
    refine qJ 1 (v := .agg #[.slice _ _ _, .map _, .map _, .map _, .map _, .slice _ _ _, .map _, .map _, .map _, .map _]) (vs := [_, _, _, _, _, _, _, _, _, _]) (c' := [_, _, _, _, _, _, _, _, _, _]) rfl rfl rfl rfl rfl rfl rfl rfl rfl ?_
    refine qH [_, _] rfl ?_
    refine qA (qE (v := .int .i64 _) rfl) ?_
    refine wK ?_
    refine qW (vs := [_, _]) Try.results27 ⟨resV_agg 1 rfl rfl rfl rfl rfl (vs := [.slice _ _ _, .map _, .map _, .map _, .map _, .slice _ _ _, .map _, .map _, .map _, .map _]) rfl, qR rfl rfl, trivial⟩ fun V => ?_
    exact ⟨(zP (zP (zP E4 E_k) E5) (wE V)), _, by rw [hk]; rfl, fun e => absurd (hk ▸ e) he', fun _ => rfl⟩
   ·skip
    have he' : id es[k] = 0 := by simpa using he
    refine qT ?_
    refine qC rfl ?_
    refine qA (qO rfl (by omega)) ?_
    refine qA (qB (v := .int .i64 _) rfl) ?_
    refine ⟨k + 1, ⟨rfl, trivial⟩, rfl, rfl, (zP E_k E5), fun h3 E3 => ⟨hlt, firstErr_go hle J_k.2 he'⟩, by first | omega | (dsimp only; omega), ?_⟩
    repeat (first | exact qU _ _ _ | refine wB (by decide) ?_ | refine qS rfl ?_ | refine wN rfl ?_)
  ·skip
   have hk : k = es.length := by have := geI ht; omega
   have hf0 : firstErr id es = 0 := by have := J_k.2; rwa [hk, List.take_length] at this
   refine wU ?_
   refine qF ?_
   refine qC rfl ?_
   refine qX 0 (vs := [.slice _ _ _, .slice _ _ _, .slice _ _ _, .slice _ _ _]) rfl rfl rfl rfl rfl ?_
   refine wP (caps := []) (vs := [.agg #[.slice _ _ _, .slice _ _ _, .slice _ _ _, .slice _ _ _]]) rfl rfl rfl (bothOf_ok s SV.b A0 A1 A2 A3 c0 c1 c2 c3 h_k (R.ext (zP E4 E_k))) ?_
   rintro _ h6 E6 ⟨_, rfl, A, c, mf, fm, fl, A', c', mf', fm', fl', rfl, X, X'⟩
   refine qA (qB (v := .tuple #[.agg #[.slice _ _ _, .map _, .map _, .map _, .map _, .slice _ _ _, .map _, .map _, .map _, .map _], .bool _]) rfl) ?_
   refine qA (qK (v := .agg #[.slice _ _ _, .map _, .map _, .map _, .map _, .slice _ _ _, .map _, .map _, .map _, .map _]) rfl) ?_
   refine qA (qK (v := .bool _) rfl) ?_
   refine wO (cs := [_, _, _, _, _, _, _, _, _, _]) rfl rfl fun b10 hb10 => ?_
   refine qH [_, _, _] rfl ?_
   refine qJ 2 (v := .agg #[.slice _ _ _, .map _, .map _, .map _, .map _, .slice _ _ _, .map _, .map _, .map _, .map _]) (vs := [_, _, _, _, _, _, _, _, _, _]) (c' := [_, _, _, _, _, _, _, _, _, _]) rfl rfl rfl rfl rfl rfl rfl rfl rfl ?_
   refine qH [_, _, _] rfl ?_
   refine qA (qE (v := .bool _) rfl) ?_
   refine qF ?_
   refine qF ?_
   refine qC rfl ?_
   refine qA (qB (v := .bool _) rfl) ?_
   refine qA (qK (v := .bool _) rfl) ?_
   rcases Bool.eq_false_or_eq_true (mayM s) with hm | hm
   ·have hkn : knownM s es = 0 := by rw [knownM, if_neg (by simp [hc']), if_neg (by simp [hf0]), if_pos hm]
    refine zI rfl (by rw [hm]; rfl) ?_
    refine qT ?_
    refine qF ?_
    refine qC rfl ?_
    refine qX 2 (vs := [.slice _ _ _, .map _, .map _, .map _, .map _, .slice _ _ _, .map _, .map _, .map _, .map _]) rfl rfl rfl rfl rfl ?_
    refine qJ 1 (v := .agg #[.slice _ _ _, .map _, .map _, .map _, .map _, .slice _ _ _, .map _, .map _, .map _, .map _]) (vs := [_, _, _, _, _, _, _, _, _, _]) (c' := [_, _, _, _, _, _, _, _, _, _]) rfl rfl rfl rfl rfl rfl rfl rfl rfl ?_
    refine qH [_, _, _] rfl ?_
    refine qA (qE (v := .int .i64 _) rfl) ?_
    refine wK ?_
    refine qW (vs := [_, _]) Try.results27 ⟨resV_agg 1 rfl rfl rfl rfl rfl (vs := [.slice _ _ _, .map _, .map _, .map _, .map _, .slice _ _ _, .map _, .map _, .map _, .map _]) rfl, qR rfl rfl, trivial⟩ fun V => ?_
    exact ⟨(zP (zP (zP E4 E_k) E6) (wE V)), _, by rw [hkn]; rfl, fun _ => ⟨A, c, mf, fm, fl, A', c', mf', fm', fl', rfl, X.ext (wE V), X'.ext (wE V)⟩, fun e => absurd hkn e⟩
   ·have hkn : knownM s es = 9 := by rw [knownM, if_neg (by simp [hc']), if_neg (by simp [hf0]), if_neg (by simp [hm])]
    refine xp_condT rfl (by rw [hm]; rfl) ?_
    refine qF ?_
    refine qC rfl ?_
    refine qA (pv_build (zc := [_, _, _, _, _, _, _, _, _, _]) (vs := []) (cs := [_, _, _, _, _, _, _, _, _, _]) rfl rfl rfl rfl rfl rfl) ?_
    refine qJ 1 (v := .agg #[.slice _ _ _, .map _, .map _, .map _, .map _, .slice _ _ _, .map _, .map _, .map _, .map _]) (vs := [_, _, _, _, _, _, _, _, _, _]) (c' := [_, _, _, _, _, _, _, _, _, _]) rfl rfl rfl rfl rfl rfl rfl rfl rfl ?_
    refine qH [_, _, _] rfl ?_
    refine qA (qE (v := .int .i64 _) rfl) ?_
    refine wK ?_
    refine qW (vs := [_, _]) Try.results27 ⟨resV_agg 1 rfl rfl rfl rfl rfl (vs := [.slice _ _ _, .map _, .map _, .map _, .map _, .slice _ _ _, .map _, .map _, .map _, .map _]) rfl, qR rfl rfl, trivial⟩ fun V => ?_
    exact ⟨(zP (zP (zP E4 E_k) E6) (wE V)), _, by rw [hkn]; rfl, fun e => absurd (hkn.symm.trans e) (by decide), fun _ => rfl⟩
theorem known_yes (s : Season) (A0 A1 A2 A3 : Option Addr) (c0 c1 c2 c3 : Nat) (h : AH) (R : SeasonR h A0 A1 A2 A3 s) (h0 : s.heats.length < 2 ^ 40) (h1 : s.damps.length < 2 ^ 40) (h2 : s.joints.length < 2 ^ 40) (h3 : s.reports.length < 2 ^ 40)
  (fs : List Value) (es : List Int) (F : Option Addr) (cF : Nat) (RF : Row h 1 fnC F fs) (hl : fs.length = es.length) (hf : fs.length ≤ 10) (ask : ∀ (i : Nat) (f : Value) (e : Int), fs[i]? = some f → es[i]? = some e → AskT f h e) (he : knownM s es = 0) :
  FnT Try.prog 27 #[seasonV A0 A1 A2 A3 c0 c1 c2 c3 s, .slice F fs.length cF] h (fun v h' => ∃ (A : Option Addr) (c mf : Nat) (fm : Nat → Nat) (fl : Nat → List Fl) (A' : Option Addr) (c' mf' : Nat) (fm' : Nat → Nat) (fl' : Nat → List Fl), v = .tuple #[.agg (halfC s 1 A c mf fm ++ halfC s 2 A' c' mf' fm').toArray, .int .i64 0] ∧ HalfX h' s 1 A mf fm fl ∧ HalfX h' s 2 A' mf' fm' fl') := by
 refine CallT.mono (known_ok s A0 A1 A2 A3 c0 c1 c2 c3 h R h0 h1 h2 h3 fs es F cF RF hl hf ask) ?_ (fun _ _ y => y)
 rintro v h' ⟨E, w, rfl, hy, _⟩
 obtain ⟨A, c, mf, fm, fl, A', c', mf', fm', fl', rfl, X, X'⟩ := hy he
 exact ⟨E, A, c, mf, fm, fl, A', c', mf', fm', fl', by rw [he], X, X'⟩
theorem known_no (s : Season) (A0 A1 A2 A3 : Option Addr) (c0 c1 c2 c3 : Nat) (h : AH) (R : SeasonR h A0 A1 A2 A3 s) (h0 : s.heats.length < 2 ^ 40) (h1 : s.damps.length < 2 ^ 40) (h2 : s.joints.length < 2 ^ 40) (h3 : s.reports.length < 2 ^ 40)
  (fs : List Value) (es : List Int) (F : Option Addr) (cF : Nat) (RF : Row h 1 fnC F fs) (hl : fs.length = es.length) (hf : fs.length ≤ 10) (ask : ∀ (i : Nat) (f : Value) (e : Int), fs[i]? = some f → es[i]? = some e → AskT f h e) (he : knownM s es ≠ 0) :
  FnT Try.prog 27 #[seasonV A0 A1 A2 A3 c0 c1 c2 c3 s, .slice F fs.length cF] h (fun v _ => v = .tuple #[zeroBoth, .int .i64 (knownM s es)]) := by
 refine CallT.mono (known_ok s A0 A1 A2 A3 c0 c1 c2 c3 h R h0 h1 h2 h3 fs es F cF RF hl hf ask) ?_ (fun _ _ y => y)
 rintro v h' ⟨E, w, rfl, _, hn⟩
 exact ⟨E, by rw [hn he]⟩
end Go.Proofs.Ytgjcepdhclmglaa
namespace Go.HL
open Go Go.Wx
variable [Lvl]
structure SeenJ (N : Nat) (sn : List Nat) : Prop where
 nd : sn.Nodup
 lt : ∀ j ∈ sn, j < N
theorem SeenJ.nil (N : Nat) : SeenJ N [] := ⟨List.nodup_nil, fun _ h => (by cases h)⟩
theorem SeenJ.len {N : Nat} {sn : List Nat} (J : SeenJ N sn) : sn.length ≤ N := nodup_len _ _ J.nd J.lt
theorem SeenJ.snoc {N : Nat} {sn : List Nat} (J : SeenJ N sn) {j : Nat} (hj : j < N) (hn : j ∉ sn) : SeenJ N (sn ++ [j]) ∧ (sn ++ [j]).length = sn.length + 1 ∧ sn.length + 1 ≤ N := by
 have h1 : SeenJ N (sn ++ [j]) := ⟨snoc_nodup J.nd hn, fun k hk => by
  rcases List.mem_append.1 hk with h | h
  ·exact J.lt k h
  ·simp at h; subst h; exact hj⟩
 have h2 := h1.len
 rw [List.length_append] at h2
 exact ⟨h1, by simp, by simpa using h2⟩
def Met {α : Type} (kv : List (α × Value)) (sn : List Nat) (p : α → Prop) : Prop := ∃ j ∈ sn, ∃ y v, kv[j]? = some (y, v) ∧ p y
theorem Met.nil {α : Type} {kv : List (α × Value)} {p : α → Prop} : ¬ Met kv [] p := fun ⟨_, h, _⟩ => by cases h
theorem Met.snoc {α : Type} {kv : List (α × Value)} {sn : List Nat} {p : α → Prop} {j : Nat} {y : α} {v : Value} (hj : kv[j]? = some (y, v)) : Met kv (sn ++ [j]) p ↔ Met kv sn p ∨ p y := by
 constructor
 ·rintro ⟨k, hk, z, u, h1, h2⟩
  rcases List.mem_append.1 hk with h | h
  ·exact .inl ⟨k, h, z, u, h1, h2⟩
  ·simp at h; subst h; rw [hj] at h1; cases h1; exact .inr h2
 ·rintro (⟨k, hk, r⟩ | h)
  ·exact ⟨k, List.mem_append_left _ hk, r⟩
  ·exact ⟨j, by simp, y, v, hj, h⟩
theorem Met.all {α : Type} [DecidableEq α] {l : List α} {sn : List Nat} {p : α → Prop} (ha : ∀ k, k < (insAll l).length → k ∈ sn) : Met (insAll l) sn p ↔ ∃ y ∈ l, p y := by
 constructor
 ·rintro ⟨k, _, y, v, h1, h2⟩; exact ⟨y, (insAll_get y).1 ⟨k, v, h1⟩, h2⟩
 ·rintro ⟨y, hy, h2⟩
  obtain ⟨k, v, h1⟩ := (insAll_get y).2 hy
  exact ⟨k, ha k (List.getElem?_eq_some_iff.1 h1).1, y, v, h1, h2⟩
theorem encs_len {α : Type} (enc : α → Value) (l : List (α × Value)) : (encs enc l).length = l.length := by simp [encs]
end Go.HL
namespace Go.Proofs.Ytgjcepdhclmglaa
open Go Go.HL Go.Proofs Go.Wx
variable [Lvl]
set_option maxRecDepth 100000
theorem isJoint1_ask (s : Season) (j : Int) (A0 A1 A2 A3 : Option Addr) (c0 c1 c2 c3 b1 b2 : Nat) (h2 : s.joints.length < 2 ^ 40) (h : AH) (e1 : h b1 = some (.cells #[.int .i64 j] 3 (0, 0))) (e2 : h b2 = some (.cells #[.slice A0 s.heats.length c0, .slice A1 s.damps.length c1, .slice A2 s.joints.length c2, .slice A3 s.reports.length c3] 29 (0, 0))) :
  AskT (.func (.func 56) #[] #[.pointer (some ⟨b1, 0, none⟩), .pointer (some ⟨b2, 0, none⟩)]) h (isJointM s j) := by
 intro h' E _
 refine callV_fn (caps := [.pointer (some ⟨b1, 0, none⟩), .pointer (some ⟨b2, 0, none⟩)]) rfl ?_
 refine wL Try.func56 rfl Try.ntmps56 rfl ?_
 refine qF ?_
 refine qC rfl ?_
 refine qA (qE (v := .int .i64 _) rfl) ?_
 refine qF ?_
 refine qF ?_
 refine qC rfl ?_
 refine qV (v := .int .i64 _) rfl rfl (by simp only [cellA, E _ _ e1]; rfl) ?_
 refine qA (qG rfl rfl rfl rfl _ rfl) ?_
 refine qV (v := .slice _ _ _) rfl rfl (by simp only [cellA, E _ _ e2]; rfl) ?_
 refine qA (wV rfl rfl) ?_
 refine qA (qO rfl (by omega)) ?_
 refine wP (caps := []) (vs := [.int .i64 _, .int .i64 _, .int .i64 _]) rfl rfl rfl (in_ok _ _ _ h') ?_
 rintro _ h3 E3 rfl
 refine qA (qK (v := .bool _) rfl) ?_
 refine wA rfl (fun hc => ?_) (fun hc => ?_)
 ·skip
  have hb : inM j 0 (s.joints.length - 1) = false := by
   cases hb : inM j 0 (s.joints.length - 1) with
   | false => rfl
   | true => unfold inM at hb; rw [hb] at hc; cases hc
  refine qF ?_
  refine qC rfl ?_
  refine qA (qE (v := .int .i64 _) rfl) ?_
  refine wK ?_
  refine qW (vs := [_]) Try.results56 ⟨qR rfl rfl, trivial⟩ fun V => ?_
  exact ⟨(zP E3 (wE V)), intE (by rw [isJointM, hb]; rfl)⟩
 ·skip
  have hb : inM j 0 (s.joints.length - 1) = true := by
   cases hb : inM j 0 (s.joints.length - 1) with
   | true => rfl
   | false => unfold inM at hb; rw [hb] at hc; cases hc
  refine qT ?_
  refine qF ?_
  refine qC rfl ?_
  refine qA (qE (v := .int .i64 _) rfl) ?_
  refine wK ?_
  refine qW (vs := [_]) Try.results56 ⟨qR rfl rfl, trivial⟩ fun V => ?_
  exact ⟨(zP E3 (wE V)), intE (by rw [isJointM, hb]; rfl)⟩
theorem isJoint_ok (s : Season) (j : Int) (A0 A1 A2 A3 : Option Addr) (c0 c1 c2 c3 : Nat) (h2 : s.joints.length < 2 ^ 40) (h : AH) :
  FnT Try.prog 40 #[seasonV A0 A1 A2 A3 c0 c1 c2 c3 s, .int .i64 j] h (fun v h' => ∃ fn caps, v = .func (.func fn) #[] caps ∧ AskT v h' (isJointM s j)) := by
 refine wL Try.func40 rfl Try.ntmps40 rfl ?_
 refine qF ?_
 refine qC rfl ?_
 refine zF (v := .agg #[.slice _ _ _, .slice _ _ _, .slice _ _ _, .slice _ _ _]) (cs := [_, _, _, _]) rfl rfl fun b2 hb2 => ?_
 refine qH [_] rfl ?_
 refine zF (v := .int .i64 _) (cs := [_]) rfl rfl fun b3 hb3 => ?_
 refine qH [_, _] rfl ?_
 refine qA (qE (v := _) rfl) ?_
 refine qF ?_
 refine qC rfl ?_
 refine qA (pv_makeFunc (vs := []) (ws := [_, _]) rfl rfl) ?_
 refine qA (qE (v := _) rfl) ?_
 refine wK ?_
 refine qW (vs := [_]) Try.results40 ⟨qR rfl rfl, trivial⟩ fun V => ?_
 exact ⟨(wE V), _, _, rfl, isJoint1_ask s j A0 A1 A2 A3 c0 c1 c2 c3 b3 b2 h2 _ (wl_get V (i := 1) rfl) (wl_get V (i := 0) rfl)⟩
theorem isWeek1_ask (s : Season) (j : Int) (A0 A1 A2 A3 : Option Addr) (c0 c1 c2 c3 b1 b2 : Nat) (h2 : s.heats.length < 2 ^ 40) (h : AH) (e1 : h b1 = some (.cells #[.int .i64 j] 3 (0, 0))) (e2 : h b2 = some (.cells #[.slice A0 s.heats.length c0, .slice A1 s.damps.length c1, .slice A2 s.joints.length c2, .slice A3 s.reports.length c3] 29 (0, 0))) :
  AskT (.func (.func 47) #[] #[.pointer (some ⟨b1, 0, none⟩), .pointer (some ⟨b2, 0, none⟩)]) h (isWeekM s j) := by
 intro h' E _
 refine callV_fn (caps := [.pointer (some ⟨b1, 0, none⟩), .pointer (some ⟨b2, 0, none⟩)]) rfl ?_
 refine wL Try.func47 rfl Try.ntmps47 rfl ?_
 refine qF ?_
 refine qC rfl ?_
 refine qA (qE (v := .int .i64 _) rfl) ?_
 refine qF ?_
 refine qF ?_
 refine qC rfl ?_
 refine qV (v := .int .i64 _) rfl rfl (by simp only [cellA, E _ _ e1]; rfl) ?_
 refine qA (qG rfl rfl rfl rfl _ rfl) ?_
 refine qV (v := .slice _ _ _) rfl rfl (by simp only [cellA, E _ _ e2]; rfl) ?_
 refine qA (wV rfl rfl) ?_
 refine qA (qO rfl (by omega)) ?_
 refine wP (caps := []) (vs := [.int .i64 _, .int .i64 _, .int .i64 _]) rfl rfl rfl (in_ok _ _ _ h') ?_
 rintro _ h3 E3 rfl
 refine qA (qK (v := .bool _) rfl) ?_
 refine wA rfl (fun hc => ?_) (fun hc => ?_)
 ·skip
  have hb : inM j 0 (s.heats.length - 1) = false := by
   cases hb : inM j 0 (s.heats.length - 1) with
   | false => rfl
   | true => unfold inM at hb; rw [hb] at hc; cases hc
  refine qF ?_
  refine qC rfl ?_
  refine qA (qE (v := .int .i64 _) rfl) ?_
  refine wK ?_
  refine qW (vs := [_]) Try.results47 ⟨qR rfl rfl, trivial⟩ fun V => ?_
  exact ⟨(zP E3 (wE V)), intE (by rw [isWeekM, hb]; rfl)⟩
 ·skip
  have hb : inM j 0 (s.heats.length - 1) = true := by
   cases hb : inM j 0 (s.heats.length - 1) with
   | true => rfl
   | false => unfold inM at hb; rw [hb] at hc; cases hc
  refine qT ?_
  refine qF ?_
  refine qC rfl ?_
  refine qA (qE (v := .int .i64 _) rfl) ?_
  refine wK ?_
  refine qW (vs := [_]) Try.results47 ⟨qR rfl rfl, trivial⟩ fun V => ?_
  exact ⟨(zP E3 (wE V)), intE (by rw [isWeekM, hb]; rfl)⟩
theorem isWeek_ok (s : Season) (j : Int) (A0 A1 A2 A3 : Option Addr) (c0 c1 c2 c3 : Nat) (h2 : s.heats.length < 2 ^ 40) (h : AH) :
  FnT Try.prog 34 #[seasonV A0 A1 A2 A3 c0 c1 c2 c3 s, .int .i64 j] h (fun v h' => ∃ fn caps, v = .func (.func fn) #[] caps ∧ AskT v h' (isWeekM s j)) := by
 refine wL Try.func34 rfl Try.ntmps34 rfl ?_
 refine qF ?_
 refine qC rfl ?_
 refine zF (v := .agg #[.slice _ _ _, .slice _ _ _, .slice _ _ _, .slice _ _ _]) (cs := [_, _, _, _]) rfl rfl fun b2 hb2 => ?_
 refine qH [_] rfl ?_
 refine zF (v := .int .i64 _) (cs := [_]) rfl rfl fun b3 hb3 => ?_
 refine qH [_, _] rfl ?_
 refine qA (qE (v := _) rfl) ?_
 refine qF ?_
 refine qC rfl ?_
 refine qA (pv_makeFunc (vs := []) (ws := [_, _]) rfl rfl) ?_
 refine qA (qE (v := _) rfl) ?_
 refine wK ?_
 refine qW (vs := [_]) Try.results34 ⟨qR rfl rfl, trivial⟩ fun V => ?_
 exact ⟨(wE V), _, _, rfl, isWeek1_ask s j A0 A1 A2 A3 c0 c1 c2 c3 b3 b2 h2 _ (wl_get V (i := 1) rfl) (wl_get V (i := 0) rfl)⟩
theorem verdict_ok (a b : Bool) (h : AH) : FnT Try.prog 33 #[.bool a, .bool b] h (fun v _ => v = .int .i64 (verdictM a b)) := by
 refine wL Try.func33 rfl Try.ntmps33 rfl ?_
 refine qF ?_
 refine qC rfl ?_
 refine qA (qE (v := .int .i64 _) rfl) ?_
 refine qF ?_
 refine qN ?_
 refine qF ?_
 refine qC rfl ?_
 refine qA (qB (v := .bool _) rfl) ?_
 refine qA (qK (v := .bool _) rfl) ?_
 refine qA (qE (v := .bool _) rfl) ?_
 refine wA rfl (fun hc1 => ?_) (fun hc1 => ?_)
 ·refine qF ?_
  refine qC rfl ?_
  refine qA (qE (v := .int .i64 _) rfl) ?_
  refine wK ?_
  refine qW (vs := [_]) Try.results33 ⟨qR rfl rfl, trivial⟩ fun V => ?_
  exact ⟨(wE V), intE (by simp_all [verdictM])⟩
 ·refine qF ?_
  refine qC rfl ?_
  refine qA (qB (v := .bool _) rfl) ?_
  refine qA (qK (v := .bool _) rfl) ?_
  refine qA (qE (v := .bool _) rfl) ?_
  refine wA rfl (fun hc2 => ?_) (fun hc2 => ?_)
  ·refine qF ?_
   refine qC rfl ?_
   refine qA (qE (v := .int .i64 _) rfl) ?_
   refine wK ?_
   refine qW (vs := [_]) Try.results33 ⟨qR rfl rfl, trivial⟩ fun V => ?_
   exact ⟨(wE V), intE (by simp_all [verdictM])⟩
  ·refine qT ?_
   refine qF ?_
   refine qC rfl ?_
   refine qA (qE (v := .int .i64 _) rfl) ?_
   refine wK ?_
   refine qW (vs := [_]) Try.results33 ⟨qR rfl rfl, trivial⟩ fun V => ?_
   exact ⟨(wE V), intE (by simp_all [verdictM])⟩
theorem of2_ok (s : Season) (n : Int) (hn : n = 1 ∨ n = 2) (A : Option Addr) (c mf : Nat) (fm : Nat → Nat) (fl : Nat → List Fl) (A' : Option Addr) (c' mf' : Nat) (fm' : Nat → Nat) (fl' : Nat → List Fl) (h : AH) (X : HalfX h s 1 A mf fm fl) (X' : HalfX h s 2 A' mf' fm' fl') :
  FnT Try.prog 30 #[.agg (halfC s 1 A c mf fm ++ halfC s 2 A' c' mf' fm').toArray, .int .i64 n] h (fun v h' => HalfR h' s n v) := by
 refine CallT.mono (of_ok s n A c mf fm A' c' mf' fm' h) ?_ (fun _ _ y => y)
 rintro v h' ⟨E, rfl⟩
 rcases hn with rfl | rfl
 ·exact ⟨E, A, c, mf, fm, fl, rfl, X.ext E⟩
 ·exact ⟨E, A', c', mf', fm', fl', rfl, X'.ext E⟩
theorem m3idx {N : Nat} (fm : Nat → Nat) : ∀ q : Nat, q < 3 → q < N → [mvk N fm 0, mvk N fm 1, mvk N fm 2][(q : Int).toNat]? = some (.map (some (fm q)))
 | 0, _, h => by simp [h]
 | 1, _, h => by simp [mvk, h]
 | 2, _, h => by simp [mvk, h]
 | q + 3, h, _ => by omega
theorem fails_ok (s : Season) (SV : SeasonV s) (j : Nat) (hj : j < s.joints.length) (A : Option Addr) (c mf : Nat) (fm : Nat → Nat) (fl : Nat → List Fl) (A' : Option Addr) (c' mf' : Nat) (fm' : Nat → Nat) (fl' : Nat → List Fl) (A0 A1 A2 A3 : Option Addr) (c0 c1 c2 c3 : Nat) (h : AH) (R : SeasonR h A0 A1 A2 A3 s) (X : HalfX h s 1 A mf fm fl) (X' : HalfX h s 2 A' mf' fm' fl') :
  FnT Try.prog 41 #[.agg (halfC s 1 A c mf fm ++ halfC s 2 A' c' mf' fm').toArray, seasonV A0 A1 A2 A3 c0 c1 c2 c3 s, .int .i64 j] h (fun v _ => v = .int .u64 (failsM s j : Nat)) := by
 have hj3 : j < 3 := by have := SV.b.j3; omega
 have hji : s.joints[j]? = some s.joints[j] := List.getElem?_eq_getElem hj
 have hka : kindAt s j = s.joints[j].kind := by simp [kindAt, hji]
 obtain ⟨g, off, hA2, hcj⟩ := R.joints.at (by omega) hj
 refine wL Try.func41 rfl Try.ntmps41 rfl ?_
 refine qF ?_
 refine qC rfl ?_
 refine zF (v := .agg #[.slice _ _ _, .map _, .map _, .map _, .map _, .slice _ _ _, .map _, .map _, .map _, .map _]) (cs := [_, _, _, _, _, _, _, _, _, _]) rfl rfl fun b3 hb3 => ?_
 refine qH [_] rfl ?_
 refine zF (v := .agg #[.slice _ _ _, .slice _ _ _, .slice _ _ _, .slice _ _ _]) (cs := [_, _, _, _]) rfl rfl fun b4 hb4 => ?_
 refine qH [_, _] rfl ?_
 refine qA (qE (v := .int .u64 _) rfl) ?_
 refine qF ?_
 refine qC rfl ?_
 refine qA (qE (v := .int .u64 _) rfl) ?_
 refine qF ?_
 refine qF ?_
 refine zB [] rfl rfl rfl ?_
 refine qL (i := 0) rfl (by decide +kernel) ?_
 refine qX 0 (vs := [.slice _ _ _, .map _, .map _, .map _, .map _, .slice _ _ _, .map _, .map _, .map _, .map _]) rfl rfl rfl rfl rfl ?_
 refine qD (i := 1) rfl (by decide +kernel) (qG rfl rfl rfl rfl 2 rfl) ?_
 refine qL (i := 2) rfl (by decide +kernel) ?_
 refine qI 1 (v := .slice _ _ _) rfl rfl rfl rfl ?_
 refine qD (i := 3) rfl (by decide +kernel) (qB (v := .int .i64 _) rfl) ?_
 refine qD (i := 4) rfl (by decide +kernel) (wM rfl hA2 rfl rfl rfl (by omega) (by omega)) ?_
 refine qD (i := 5) rfl (by decide +kernel) (qG rfl rfl rfl rfl _ rfl) ?_
 refine qL (i := 6) rfl (by decide +kernel) ?_
 refine qV (v := .int .i64 _) rfl rfl (hcj 0 (.int .i64 s.joints[j].kind) rfl) ?_
 refine qD (i := 9) rfl (by decide +kernel) (qB (v := .int .i64 _) rfl) ?_
 refine wI (i := 7) rfl (by decide +kernel) (by decide +kernel) ?_
 refine wP (caps := []) (vs := [.agg #[.slice _ _ _, .map _, .map _, .map _, .map _, .slice _ _ _, .map _, .map _, .map _, .map _], .int .i64 _]) rfl rfl rfl (of2_ok s s.joints[j].kind (SV.kinds _ (List.getElem_mem hj)) A c mf fm fl A' c' mf' fm' fl' h X X') ?_
 rintro _ h1 E1 ⟨Ah, ch, mh, fmh, flh, rfl, Xh⟩
 refine qD (i := 8) rfl (by decide +kernel) (qK (v := .agg #[.map _, .map _, .map _]) rfl) ?_
 refine qD (i := 10) rfl (by decide +kernel) (pv_indexV rfl rfl rfl rfl rfl (by omega) (by omega) (m3idx fmh j hj3 hj)) ?_
 refine wI (i := 11) rfl (by decide +kernel) (by decide +kernel) ?_
 refine op_range rfl rfl (fun V => wE V _ _ (Xh.fs j hj).1) fun it20 hit20 => ?_
 refine qZ [_, _, _] rfl ?_
 refine wW rfl ?_
 refine qN ?_
 refine xp_loopL [7, 8, 21, 22, 23, 24, 25, 26, 27, 28] 3 (α := List Nat × Nat) (fun ⟨sn, m⟩ => [(7, .int .u64 (m : Nat))]) (fun ⟨sn, m⟩ L => L.set 2 (some (it20, iterO (fmh j) (encs flV (insAll (flh j))).length sn))) (fun ⟨sn, m⟩ h_sn => SeenJ (insAll (flh j)).length sn ∧ m < 2 ^ 62 ∧ ∀ w, m.testBit w = true ↔ Met (insAll (flh j)) sn (fun y => y.week = w)) (fun ⟨sn, m⟩ => (insAll (flh j)).length - sn.length) (([], 0)) ⟨rfl, trivial⟩ (rfl) (⟨SeenJ.nil _, by omega, fun w => by simp [Met.nil]⟩) ?_
 rintro ⟨sn, m⟩ T1 h_sn E_sn J_sn
 refine qP [_, _, _] rfl ?_
 obtain ⟨S1, S2, S3⟩ := J_sn
 have hmm := E_sn _ _ (Xh.fs j hj).1
 refine qF ?_
 refine qC rfl ?_
 refine op_next 2 rfl rfl (fun V => wE V _ _ hmm) ?_ ?_
 ·intro jx p hp hjn
  obtain ⟨y, v, hy, rfl⟩ := encs_get hp
  have hyw : y.week ≤ 6 := by
   have := flsK_week (((Xh.fs j hj).2 y).1 ((insAll_get y).1 ⟨jx, v, hy⟩))
   have := SV.b.w6
   omega
  obtain ⟨T1, T2, T3⟩ := S1.snoc (List.getElem?_eq_some_iff.1 hy).1 hjn
  refine qA (qK (v := .bool _) rfl) ?_
  refine qF ?_
  refine xp_condT rfl (rfl) ?_
  refine qT ?_
  refine qN ?_
  refine qF ?_
  refine qC rfl ?_
  refine op_entry 2 rfl rfl (fun V => wE V _ _ hmm) hp ?_
  refine qA (qK (v := .agg #[.int .i64 _, .int .i64 _]) rfl) ?_
  refine wO (cs := [_, _]) rfl rfl fun b8 hb8 => ?_
  refine qH [_, _, _, _] rfl ?_
  refine qJ 3 (v := .agg #[.int .i64 _, .int .i64 _]) (vs := [_, _]) (c' := [_, _]) rfl rfl rfl rfl rfl rfl rfl rfl rfl ?_
  refine qH [_, _, _, _] rfl ?_
  refine qC rfl ?_
  refine qA (qB (v := .int .u64 _) rfl) ?_
  refine qA (qG rfl rfl rfl rfl 0 rfl) ?_
  refine qI 3 (v := .int .i64 _) rfl rfl rfl rfl ?_
  refine wP (caps := []) (vs := [.int .u64 _, .int .i64 _]) rfl rfl rfl (with_ok m _ y.week rfl S2 (by omega) h_sn) ?_
  rintro _ h2 E2 rfl
  refine qA (qE (v := .int .u64 _) rfl) ?_
  refine ⟨(sn ++ [jx], withM m y.week), ⟨rfl, trivial⟩, rfl, rfl, (zP E_sn E2), fun h3 E3 => ⟨T1, withM_lt S2 (by omega), fun w => by rw [withM, Nat.testBit_or, Nat.testBit_two_pow, Bool.or_eq_true, S3 w, Met.snoc hy, decide_eq_true_eq]⟩, by first | omega | (dsimp only; omega), ?_⟩
  repeat (first | exact qU _ _ _ | refine wB (by decide) ?_ | refine qS rfl ?_ | refine wN rfl ?_)
 ·intro hall
  refine qA (qK (v := .bool _) rfl) ?_
  refine qF ?_
  refine zI rfl (rfl) ?_
  refine wU ?_
  refine qF ?_
  refine qC rfl ?_
  refine qA (qB (v := .int .u64 _) rfl) ?_
  refine qA (qE (v := .int .u64 _) rfl) ?_
  refine wK ?_
  refine qW (vs := [_]) Try.results41 ⟨qR rfl rfl, trivial⟩ fun V => ?_
  refine ⟨(zP (zP E1 E_sn) (wE V)), intE ?_⟩
  have e : m = failsM s j := by
   unfold failsM
   refine mask_unique fun w => ?_
   rw [S3 w, Met.all (fun k hk => hall k (by rw [encs_len]; exact hk)), hka]
   constructor
   ·rintro ⟨y, hy, e⟩; exact ⟨y, ((Xh.fs j hj).2 y).1 hy, e⟩
   ·rintro ⟨y, hy, e⟩; exact ⟨y, ((Xh.fs j hj).2 y).2 hy, e⟩
  rw [e]
structure Small (s : Season) : Prop where
 h0 : s.heats.length < 2 ^ 40
 h1 : s.damps.length < 2 ^ 40
 h2 : s.joints.length < 2 ^ 40
 h3 : s.reports.length < 2 ^ 40
theorem inM_nat {j : Int} {n : Nat} (h : inM j 0 (n - 1) = true) : ∃ i : Nat, j = i ∧ i < n := by
 unfold inM at h
 simp only [Bool.and_eq_true, decide_eq_true_eq] at h
 exact ⟨j.toNat, by omega, by omega⟩
theorem isJointM_zero {s : Season} {j : Int} (h : isJointM s j = 0) : ∃ i : Nat, j = i ∧ i < s.joints.length := by
 unfold isJointM at h
 split at h
 ·rename_i h1; exact inM_nat h1
 ·cases h
theorem isWeekM_zero {s : Season} {w : Int} (h : isWeekM s w = 0) : ∃ i : Nat, w = i ∧ i < s.heats.length := by
 unfold isWeekM at h
 split at h
 ·rename_i h1; exact inM_nat h1
 ·cases h
theorem ask1 {h : AH} {f : Value} {e : Int} (a : AskT f h e) : ∀ (i : Nat) (g : Value) (e' : Int), [f][i]? = some g → [e][i]? = some e' → AskT g h e'
 | 0, _, _, hg, he => by cases hg; cases he; exact a
 | i + 1, _, _, hg, _ => by simp at hg
theorem ask2 {h : AH} {f f' : Value} {e e2 : Int} (a : AskT f h e) (a2 : AskT f' h e2) : ∀ (i : Nat) (g : Value) (e' : Int), [f, f'][i]? = some g → [e, e2][i]? = some e' → AskT g h e'
 | 0, _, _, hg, he => by cases hg; cases he; exact a
 | 1, _, _, hg, he => by cases hg; cases he; exact a2
 | i + 2, _, _, hg, _ => by simp at hg
theorem rowFn {h : AH} {b : Nat} {fs : List Value} {t : TypeId} (e : h b = some (.cells fs.toArray t (0, 0))) : Row h 1 fnC (some ⟨b, 0, none⟩) fs := by
 refine ⟨fun _ _ => rfl, fun _ => ⟨b, 0, rfl, fun j u hu => ?_⟩⟩
 have hf : ∀ l : List Value, l.flatMap fnC = l := by
  intro l
  induction l with
  | nil => rfl
  | cons a l ih => rw [List.flatMap_cons, ih]; rfl
 rw [hf] at hu
 simp only [cellA, e, Nat.zero_add]
 simpa using hu
def failsE (s : Season) (j : Int) : Int := knownM s [isJointM s j]
def failsL (s : Season) (j : Int) : List Int := if failsE s j = 0 then listM (failsM s j.toNat) else []
theorem Fails_ok (s : Season) (Sm : Small s) (joint : Int) (A0 A1 A2 A3 : Option Addr) (c0 c1 c2 c3 : Nat) (h : AH) (R : SeasonR h A0 A1 A2 A3 s) :
  FnT Try.prog 16 #[seasonV A0 A1 A2 A3 c0 c1 c2 c3 s, .int .i64 joint] h (fun v h' => ∃ w, v = .tuple #[w, .int .i64 (failsE s joint)] ∧ SlR h' 1 intC (failsL s joint) w) := by
 by_cases he : failsE s joint = 0
 ·have hk := knownM_zero he
  have SV := checkM_zero hk.1
  have hw6 := SV.b.w6
  obtain ⟨j, rfl, hj⟩ := isJointM_zero (s := s) (j := joint) (by have := hk.2.1; simp only [firstErr, id] at this; split at this <;> simp_all)
  refine wL Try.func16 rfl Try.ntmps16 rfl ?_
  refine qF ?_
  refine qC rfl ?_
  refine zF (v := .agg #[.slice _ _ _, .slice _ _ _, .slice _ _ _, .slice _ _ _]) (cs := [_, _, _, _]) rfl rfl fun b2 hb2 => ?_
  refine qH [_] rfl ?_
  refine qA (qE (v := .slice _ _ _) rfl) ?_
  refine qA (qE (v := .int .i64 _) rfl) ?_
  refine qF ?_
  refine zB [] rfl rfl rfl ?_
  refine qL (i := 0) rfl (by decide +kernel) ?_
  refine qX 0 (vs := [.slice _ _ _, .slice _ _ _, .slice _ _ _, .slice _ _ _]) rfl rfl rfl rfl rfl ?_
  refine qL (i := 1) rfl (by decide +kernel) ?_
  refine qX 0 (vs := [.slice _ _ _, .slice _ _ _, .slice _ _ _, .slice _ _ _]) rfl rfl rfl rfl rfl ?_
  refine qD (i := 2) rfl (by decide +kernel) (qB (v := .int .i64 _) rfl) ?_
  refine zD (i := 3) rfl (by decide +kernel) ?_
  refine wP (caps := []) (vs := [.agg #[.slice _ _ _, .slice _ _ _, .slice _ _ _, .slice _ _ _], .int .i64 _]) rfl rfl rfl (isJoint_ok s j A0 A1 A2 A3 c0 c1 c2 c3 Sm.h2 h) ?_
  rintro _ h1 E1 ⟨fn, caps, rfl, ak⟩
  refine ⟨ext_wlm E1 _, ?_⟩
  refine zD (i := 4) rfl (by decide +kernel) ?_
  refine wG (zc := [_]) (vs := [(0, _)]) (cs := [_]) rfl rfl rfl rfl rfl rfl rfl fun b13 hb13 => ?_
  refine ⟨ext_new hb13 _, ?_⟩
  refine qZ [_, _] rfl ?_
  refine dw_pub 1 rfl ?_
  intro h2 E2 p13
  refine qZ [_, _] rfl ?_
  refine wI (i := 5) rfl (by decide +kernel) (by decide +kernel) ?_
  refine wP (caps := []) (vs := [.agg #[.slice _ _ _, .slice _ _ _, .slice _ _ _, .slice _ _ _], .slice _ _ _]) rfl rfl rfl (known_yes s A0 A1 A2 A3 c0 c1 c2 c3 h2 (R.ext (zP E1 E2)) Sm.h0 Sm.h1 Sm.h2 Sm.h3 [_] [_] _ _ (rowFn p13) rfl (by simp) (ask1 (ak.ext E2)) he) ?_
  rintro _ h3 E3 ⟨A, c, mf, fm, fl, A', c', mf', fm', fl', rfl, X, X'⟩
  refine qD (i := 6) rfl (by decide +kernel) (qB (v := .tuple #[.agg #[.slice _ _ _, .map _, .map _, .map _, .map _, .slice _ _ _, .map _, .map _, .map _, .map _], .int .i64 _]) rfl) ?_
  refine qD (i := 7) rfl (by decide +kernel) (qK (v := .agg #[.slice _ _ _, .map _, .map _, .map _, .map _, .slice _ _ _, .map _, .map _, .map _, .map _]) rfl) ?_
  refine qD (i := 8) rfl (by decide +kernel) (qK (v := .int .i64 _) rfl) ?_
  refine zD (i := 9) rfl (by decide +kernel) ?_
  refine wO (cs := [_, _, _, _, _, _, _, _, _, _]) rfl rfl fun b6 hb6 => ?_
  refine ⟨ext_new hb6 _, ?_⟩
  refine qZ [_, _, _] rfl ?_
  refine wI (i := 10) rfl (by decide +kernel) (by decide +kernel) ?_
  refine qJ 2 (v := .agg #[.slice _ _ _, .map _, .map _, .map _, .map _, .slice _ _ _, .map _, .map _, .map _, .map _]) (vs := [_, _, _, _, _, _, _, _, _, _]) (c' := [_, _, _, _, _, _, _, _, _, _]) rfl rfl rfl rfl rfl rfl rfl rfl rfl ?_
  refine qZ [_, _, _] rfl ?_
  refine qD (i := 11) rfl (by decide +kernel) (qE (v := .int .i64 _) rfl) ?_
  refine wW rfl ?_
  refine qF ?_
  refine qF ?_
  refine qC rfl ?_
  refine qA (qB (v := .int .i64 _) rfl) ?_
  refine qA (qK (v := .bool _) rfl) ?_
  refine zI rfl (by decide) ?_
  refine qT ?_
  refine qF ?_
  refine qC rfl ?_
  refine qX 2 (vs := [.slice _ _ _, .map _, .map _, .map _, .map _, .slice _ _ _, .map _, .map _, .map _, .map _]) rfl rfl rfl rfl rfl ?_
  refine qX 0 (vs := [.slice _ _ _, .slice _ _ _, .slice _ _ _, .slice _ _ _]) rfl rfl rfl rfl rfl ?_
  refine qA (qB (v := .int .i64 _) rfl) ?_
  refine wP (caps := []) (vs := [.agg #[.slice _ _ _, .map _, .map _, .map _, .map _, .slice _ _ _, .map _, .map _, .map _, .map _], .agg #[.slice _ _ _, .slice _ _ _, .slice _ _ _, .slice _ _ _], .int .i64 _]) rfl rfl rfl (fails_ok s SV j hj A c mf fm fl A' c' mf' fm' fl' A0 A1 A2 A3 c0 c1 c2 c3 h3 (R.ext (zP (zP E1 E2) E3)) X X') ?_
  rintro _ h4 E4 rfl
  refine wP (caps := []) (vs := [.int .u64 _]) rfl rfl rfl (list_ok (failsM s j) (by have := failsM_lt hw6 j; omega) h4) ?_
  rintro _ h5 E5 ⟨B, cB, rfl, RB⟩
  refine qA (qE (v := .slice _ _ _) rfl) ?_
  refine qA (qE (v := .int .i64 _) rfl) ?_
  refine wK ?_
  refine qW (vs := [_, _]) Try.results16 ⟨qR rfl rfl, qR rfl rfl, trivial⟩ fun V => ?_
  refine ⟨(zP (zP (zP (zP (zP E1 E2) E3) E4) E5) (wE V)), _, by rw [he]; rfl, B, cB, ?_, ?_⟩
  ·rw [failsL, if_pos he]; rfl
  ·rw [failsL, if_pos he]; exact RB.ext (wE V)
 ·skip
  refine wL Try.func16 rfl Try.ntmps16 rfl ?_
  refine qF ?_
  refine qC rfl ?_
  refine zF (v := .agg #[.slice _ _ _, .slice _ _ _, .slice _ _ _, .slice _ _ _]) (cs := [_, _, _, _]) rfl rfl fun b2 hb2 => ?_
  refine qH [_] rfl ?_
  refine qA (qE (v := .slice _ _ _) rfl) ?_
  refine qA (qE (v := .int .i64 _) rfl) ?_
  refine qF ?_
  refine zB [] rfl rfl rfl ?_
  refine qL (i := 0) rfl (by decide +kernel) ?_
  refine qX 0 (vs := [.slice _ _ _, .slice _ _ _, .slice _ _ _, .slice _ _ _]) rfl rfl rfl rfl rfl ?_
  refine qL (i := 1) rfl (by decide +kernel) ?_
  refine qX 0 (vs := [.slice _ _ _, .slice _ _ _, .slice _ _ _, .slice _ _ _]) rfl rfl rfl rfl rfl ?_
  refine qD (i := 2) rfl (by decide +kernel) (qB (v := .int .i64 _) rfl) ?_
  refine zD (i := 3) rfl (by decide +kernel) ?_
  refine wP (caps := []) (vs := [.agg #[.slice _ _ _, .slice _ _ _, .slice _ _ _, .slice _ _ _], .int .i64 _]) rfl rfl rfl (isJoint_ok s joint A0 A1 A2 A3 c0 c1 c2 c3 Sm.h2 h) ?_
  rintro _ h1 E1 ⟨fn, caps, rfl, ak⟩
  refine ⟨ext_wlm E1 _, ?_⟩
  refine zD (i := 4) rfl (by decide +kernel) ?_
  refine wG (zc := [_]) (vs := [(0, _)]) (cs := [_]) rfl rfl rfl rfl rfl rfl rfl fun b13 hb13 => ?_
  refine ⟨ext_new hb13 _, ?_⟩
  refine qZ [_, _] rfl ?_
  refine dw_pub 1 rfl ?_
  intro h2 E2 p13
  refine qZ [_, _] rfl ?_
  refine wI (i := 5) rfl (by decide +kernel) (by decide +kernel) ?_
  refine wP (caps := []) (vs := [.agg #[.slice _ _ _, .slice _ _ _, .slice _ _ _, .slice _ _ _], .slice _ _ _]) rfl rfl rfl (known_no s A0 A1 A2 A3 c0 c1 c2 c3 h2 (R.ext (zP E1 E2)) Sm.h0 Sm.h1 Sm.h2 Sm.h3 [_] [_] _ _ (rowFn p13) rfl (by simp) (ask1 (ak.ext E2)) he) ?_
  rintro _ h3 E3 rfl
  refine qD (i := 6) rfl (by decide +kernel) (qB (v := .tuple #[.agg #[.slice _ _ _, .map _, .map _, .map _, .map _, .slice _ _ _, .map _, .map _, .map _, .map _], .int .i64 _]) rfl) ?_
  refine qD (i := 7) rfl (by decide +kernel) (qK (v := .agg #[.slice _ _ _, .map _, .map _, .map _, .map _, .slice _ _ _, .map _, .map _, .map _, .map _]) rfl) ?_
  refine qD (i := 8) rfl (by decide +kernel) (qK (v := .int .i64 _) rfl) ?_
  refine zD (i := 9) rfl (by decide +kernel) ?_
  refine wO (cs := [_, _, _, _, _, _, _, _, _, _]) rfl rfl fun b6 hb6 => ?_
  refine ⟨ext_new hb6 _, ?_⟩
  refine qZ [_, _, _] rfl ?_
  refine wI (i := 10) rfl (by decide +kernel) (by decide +kernel) ?_
  refine qJ 2 (v := .agg #[.slice _ _ _, .map _, .map _, .map _, .map _, .slice _ _ _, .map _, .map _, .map _, .map _]) (vs := [_, _, _, _, _, _, _, _, _, _]) (c' := [_, _, _, _, _, _, _, _, _, _]) rfl rfl rfl rfl rfl rfl rfl rfl rfl ?_
  refine qZ [_, _, _] rfl ?_
  refine qD (i := 11) rfl (by decide +kernel) (qE (v := .int .i64 _) rfl) ?_
  refine wW rfl ?_
  refine qF ?_
  refine qF ?_
  refine qC rfl ?_
  refine qA (qB (v := .int .i64 _) rfl) ?_
  refine qA (qK (v := .bool _) rfl) ?_
  refine xp_condT rfl (by simpa [failsE] using he) ?_
  refine qF ?_
  refine qC rfl ?_
  refine qA (qB (v := .int .i64 _) rfl) ?_
  refine qA (qE (v := .slice _ _ _) rfl) ?_
  refine qA (qE (v := .int .i64 _) rfl) ?_
  refine wK ?_
  refine qW (vs := [_, _]) Try.results16 ⟨qR rfl rfl, qR rfl rfl, trivial⟩ fun V => ?_
  refine ⟨(zP (zP (zP E1 E2) E3) (wE V)), _, rfl, none, 0, ?_, ?_⟩
  ·rw [failsL, if_neg he]; rfl
  ·rw [failsL, if_neg he]; exact ⟨fun _ h => (by cases h), Rd.nil _ _⟩
theorem failed_ok (s : Season) (SV : SeasonV s) (j w : Nat) (hj : j < s.joints.length) (hw : w < s.heats.length) (A : Option Addr) (c mf : Nat) (fm : Nat → Nat) (fl : Nat → List Fl) (A' : Option Addr) (c' mf' : Nat) (fm' : Nat → Nat) (fl' : Nat → List Fl) (A0 A1 A2 A3 : Option Addr) (c0 c1 c2 c3 : Nat) (h : AH) (R : SeasonR h A0 A1 A2 A3 s) (X : HalfX h s 1 A mf fm fl) (X' : HalfX h s 2 A' mf' fm' fl') :
  FnT Try.prog 42 #[.agg (halfC s 1 A c mf fm ++ halfC s 2 A' c' mf' fm').toArray, seasonV A0 A1 A2 A3 c0 c1 c2 c3 s, .int .i64 j, .int .i64 w] h (fun v _ => v = .int .i64 (failedM s j w)) := by
 have hw6 := SV.b.w6
 have hfl := failsM_lt hw6 j
 refine wL Try.func42 rfl Try.ntmps42 rfl ?_
 refine qF ?_
 refine qC rfl ?_
 refine zF (v := .agg #[.slice _ _ _, .map _, .map _, .map _, .map _, .slice _ _ _, .map _, .map _, .map _, .map _]) (cs := [_, _, _, _, _, _, _, _, _, _]) rfl rfl fun b4 hb4 => ?_
 refine qH [_] rfl ?_
 refine zF (v := .agg #[.slice _ _ _, .slice _ _ _, .slice _ _ _, .slice _ _ _]) (cs := [_, _, _, _]) rfl rfl fun b5 hb5 => ?_
 refine qH [_, _] rfl ?_
 refine qA (qE (v := .int .i64 _) rfl) ?_
 refine qF ?_
 refine qC rfl ?_
 refine qX 0 (vs := [.slice _ _ _, .map _, .map _, .map _, .map _, .slice _ _ _, .map _, .map _, .map _, .map _]) rfl rfl rfl rfl rfl ?_
 refine qX 1 (vs := [.slice _ _ _, .slice _ _ _, .slice _ _ _, .slice _ _ _]) rfl rfl rfl rfl rfl ?_
 refine qA (qB (v := .int .i64 _) rfl) ?_
 refine wP (caps := []) (vs := [.agg #[.slice _ _ _, .map _, .map _, .map _, .map _, .slice _ _ _, .map _, .map _, .map _, .map _], .agg #[.slice _ _ _, .slice _ _ _, .slice _ _ _, .slice _ _ _], .int .i64 _]) rfl rfl rfl (fails_ok s SV j hj A c mf fm fl A' c' mf' fm' fl' A0 A1 A2 A3 c0 c1 c2 c3 h R X X') ?_
 rintro _ h1 E1 rfl
 refine qA (qE (v := .int .u64 _) rfl) ?_
 refine qF ?_
 refine qC rfl ?_
 refine qA (qB (v := .int .u64 _) rfl) ?_
 refine qA (qB (v := .int .i64 _) rfl) ?_
 refine wP (caps := []) (vs := [.int .u64 _, .int .i64 _]) rfl rfl rfl (upto_ok (failsM s j) w (by omega) (by omega) h1) ?_
 rintro _ h2 E2 rfl
 refine qA (qK (v := .bool _) rfl) ?_
 refine qA (qB (v := .int .u64 _) rfl) ?_
 refine qA (qB (v := .int .u64 _) rfl) ?_
 refine qA (qB (v := .int .i64 _) rfl) ?_
 refine wP (caps := []) (vs := [.int .u64 _, .int .i64 _]) rfl rfl rfl (upto_ok (failsM s j) w (by omega) (by omega) h2) ?_
 rintro _ h3 E3 rfl
 refine qA (qK (v := .bool _) rfl) ?_
 refine wP (caps := []) (vs := [.bool _, .bool _]) rfl rfl rfl (verdict_ok _ _ h3) ?_
 rintro _ h4 E4 rfl
 refine qA (qE (v := .int .i64 _) rfl) ?_
 refine wK ?_
 refine qW (vs := [_]) Try.results42 ⟨qR rfl rfl, trivial⟩ fun V => ?_
 refine ⟨(zP (zP (zP (zP E1 E2) E3) E4) (wE V)), intE ?_⟩
 unfold failedM
 congr 1
 ·rw [Bool.eq_iff_iff]; simp
 ·rw [Bool.eq_iff_iff]; simp
  omega
def failedE (s : Season) (j w : Int) : Int := knownM s [isJointM s j, isWeekM s w]
def failedV (s : Season) (j w : Int) : Int := if failedE s j w = 0 then failedM s j.toNat w.toNat else 0
theorem firstErr2 {a b : Int} (h : firstErr id [a, b] = 0) : a = 0 ∧ b = 0 := ⟨firstErr_zero h a (by simp), firstErr_zero h b (by simp)⟩
theorem Failed_ok (s : Season) (Sm : Small s) (joint week : Int) (A0 A1 A2 A3 : Option Addr) (c0 c1 c2 c3 : Nat) (h : AH) (R : SeasonR h A0 A1 A2 A3 s) :
  FnT Try.prog 17 #[seasonV A0 A1 A2 A3 c0 c1 c2 c3 s, .int .i64 joint, .int .i64 week] h (fun v _ => v = .tuple #[.int .i64 (failedV s joint week), .int .i64 (failedE s joint week)]) := by
 by_cases he : failedE s joint week = 0
 ·have hk := knownM_zero he
  have SV := checkM_zero hk.1
  obtain ⟨hj0, hw0⟩ := firstErr2 hk.2.1
  obtain ⟨j, rfl, hj⟩ := isJointM_zero hj0
  obtain ⟨w, rfl, hw⟩ := isWeekM_zero hw0
  refine wL Try.func17 rfl Try.ntmps17 rfl ?_
  refine qF ?_
  refine qC rfl ?_
  refine zF (v := .agg #[.slice _ _ _, .slice _ _ _, .slice _ _ _, .slice _ _ _]) (cs := [_, _, _, _]) rfl rfl fun b3 hb3 => ?_
  refine qH [_] rfl ?_
  refine qA (qE (v := .int .i64 _) rfl) ?_
  refine qA (qE (v := .int .i64 _) rfl) ?_
  refine qF ?_
  refine zB [] rfl rfl rfl ?_
  refine qL (i := 0) rfl (by decide +kernel) ?_
  refine qX 0 (vs := [.slice _ _ _, .slice _ _ _, .slice _ _ _, .slice _ _ _]) rfl rfl rfl rfl rfl ?_
  refine qL (i := 1) rfl (by decide +kernel) ?_
  refine qX 0 (vs := [.slice _ _ _, .slice _ _ _, .slice _ _ _, .slice _ _ _]) rfl rfl rfl rfl rfl ?_
  refine qD (i := 2) rfl (by decide +kernel) (qB (v := .int .i64 _) rfl) ?_
  refine qL (i := 4) rfl (by decide +kernel) ?_
  refine qX 0 (vs := [.slice _ _ _, .slice _ _ _, .slice _ _ _, .slice _ _ _]) rfl rfl rfl rfl rfl ?_
  refine qD (i := 5) rfl (by decide +kernel) (qB (v := .int .i64 _) rfl) ?_
  refine zD (i := 3) rfl (by decide +kernel) ?_
  refine wP (caps := []) (vs := [.agg #[.slice _ _ _, .slice _ _ _, .slice _ _ _, .slice _ _ _], .int .i64 _]) rfl rfl rfl (isJoint_ok s j A0 A1 A2 A3 c0 c1 c2 c3 Sm.h2 h) ?_
  rintro _ h1 E1 ⟨fn, caps, rfl, ak⟩
  refine ⟨ext_wlm E1 _, ?_⟩
  refine zD (i := 6) rfl (by decide +kernel) ?_
  refine wP (caps := []) (vs := [.agg #[.slice _ _ _, .slice _ _ _, .slice _ _ _, .slice _ _ _], .int .i64 _]) rfl rfl rfl (isWeek_ok s w A0 A1 A2 A3 c0 c1 c2 c3 Sm.h0 h1) ?_
  rintro _ h1' E1' ⟨fn', caps', rfl, ak'⟩
  refine ⟨ext_wlm E1' _, ?_⟩
  refine zD (i := 7) rfl (by decide +kernel) ?_
  refine wG (zc := [_]) (vs := [(0, _), (1, _)]) (cs := [_, _]) rfl rfl rfl rfl rfl rfl rfl fun b18 hb18 => ?_
  refine ⟨ext_new hb18 _, ?_⟩
  refine qZ [_, _] rfl ?_
  refine dw_pub 1 rfl ?_
  intro h2 E2 p13
  refine qZ [_, _] rfl ?_
  refine wI (i := 8) rfl (by decide +kernel) (by decide +kernel) ?_
  refine wP (caps := []) (vs := [.agg #[.slice _ _ _, .slice _ _ _, .slice _ _ _, .slice _ _ _], .slice _ _ _]) rfl rfl rfl (known_yes s A0 A1 A2 A3 c0 c1 c2 c3 h2 (R.ext (zP (zP E1 E1') E2)) Sm.h0 Sm.h1 Sm.h2 Sm.h3 [_, _] [_, _] _ _ (rowFn p13) rfl (by simp) (ask2 (ak.ext (zP E1' E2)) (ak'.ext E2)) he) ?_
  rintro _ h3 E3 ⟨A, c, mf, fm, fl, A', c', mf', fm', fl', rfl, X, X'⟩
  refine qD (i := 9) rfl (by decide +kernel) (qB (v := .tuple #[.agg #[.slice _ _ _, .map _, .map _, .map _, .map _, .slice _ _ _, .map _, .map _, .map _, .map _], .int .i64 _]) rfl) ?_
  refine qD (i := 10) rfl (by decide +kernel) (qK (v := .agg #[.slice _ _ _, .map _, .map _, .map _, .map _, .slice _ _ _, .map _, .map _, .map _, .map _]) rfl) ?_
  refine qD (i := 11) rfl (by decide +kernel) (qK (v := .int .i64 _) rfl) ?_
  refine zD (i := 12) rfl (by decide +kernel) ?_
  refine wO (cs := [_, _, _, _, _, _, _, _, _, _]) rfl rfl fun b8 hb8 => ?_
  refine ⟨ext_new hb8 _, ?_⟩
  refine qZ [_, _, _] rfl ?_
  refine wI (i := 13) rfl (by decide +kernel) (by decide +kernel) ?_
  refine qJ 2 (v := .agg #[.slice _ _ _, .map _, .map _, .map _, .map _, .slice _ _ _, .map _, .map _, .map _, .map _]) (vs := [_, _, _, _, _, _, _, _, _, _]) (c' := [_, _, _, _, _, _, _, _, _, _]) rfl rfl rfl rfl rfl rfl rfl rfl rfl ?_
  refine qZ [_, _, _] rfl ?_
  refine qD (i := 14) rfl (by decide +kernel) (qE (v := .int .i64 _) rfl) ?_
  refine wW rfl ?_
  refine qF ?_
  refine qF ?_
  refine qC rfl ?_
  refine qA (qB (v := .int .i64 _) rfl) ?_
  refine qA (qK (v := .bool _) rfl) ?_
  refine zI rfl (by decide) ?_
  refine qT ?_
  refine qF ?_
  refine qC rfl ?_
  refine qX 2 (vs := [.slice _ _ _, .map _, .map _, .map _, .map _, .slice _ _ _, .map _, .map _, .map _, .map _]) rfl rfl rfl rfl rfl ?_
  refine qX 0 (vs := [.slice _ _ _, .slice _ _ _, .slice _ _ _, .slice _ _ _]) rfl rfl rfl rfl rfl ?_
  refine qA (qB (v := .int .i64 _) rfl) ?_
  refine qA (qB (v := .int .i64 _) rfl) ?_
  refine wP (caps := []) (vs := [.agg #[.slice _ _ _, .map _, .map _, .map _, .map _, .slice _ _ _, .map _, .map _, .map _, .map _], .agg #[.slice _ _ _, .slice _ _ _, .slice _ _ _, .slice _ _ _], .int .i64 _, .int .i64 _]) rfl rfl rfl (failed_ok s SV j w hj hw A c mf fm fl A' c' mf' fm' fl' A0 A1 A2 A3 c0 c1 c2 c3 h3 (R.ext (zP (zP (zP E1 E1') E2) E3)) X X') ?_
  rintro _ h4 E4 rfl
  refine qA (qE (v := .int .i64 _) rfl) ?_
  refine qA (qE (v := .int .i64 _) rfl) ?_
  refine wK ?_
  refine qW (vs := [_, _]) Try.results17 ⟨qR rfl rfl, qR rfl rfl, trivial⟩ fun V => ?_
  exact ⟨(zP (zP (zP (zP (zP E1 E1') E2) E3) E4) (wE V)), by rw [failedV, if_pos he, he]; rfl⟩
 ·skip
  refine wL Try.func17 rfl Try.ntmps17 rfl ?_
  refine qF ?_
  refine qC rfl ?_
  refine zF (v := .agg #[.slice _ _ _, .slice _ _ _, .slice _ _ _, .slice _ _ _]) (cs := [_, _, _, _]) rfl rfl fun b3 hb3 => ?_
  refine qH [_] rfl ?_
  refine qA (qE (v := .int .i64 _) rfl) ?_
  refine qA (qE (v := .int .i64 _) rfl) ?_
  refine qF ?_
  refine zB [] rfl rfl rfl ?_
  refine qL (i := 0) rfl (by decide +kernel) ?_
  refine qX 0 (vs := [.slice _ _ _, .slice _ _ _, .slice _ _ _, .slice _ _ _]) rfl rfl rfl rfl rfl ?_
  refine qL (i := 1) rfl (by decide +kernel) ?_
  refine qX 0 (vs := [.slice _ _ _, .slice _ _ _, .slice _ _ _, .slice _ _ _]) rfl rfl rfl rfl rfl ?_
  refine qD (i := 2) rfl (by decide +kernel) (qB (v := .int .i64 _) rfl) ?_
  refine qL (i := 4) rfl (by decide +kernel) ?_
  refine qX 0 (vs := [.slice _ _ _, .slice _ _ _, .slice _ _ _, .slice _ _ _]) rfl rfl rfl rfl rfl ?_
  refine qD (i := 5) rfl (by decide +kernel) (qB (v := .int .i64 _) rfl) ?_
  refine zD (i := 3) rfl (by decide +kernel) ?_
  refine wP (caps := []) (vs := [.agg #[.slice _ _ _, .slice _ _ _, .slice _ _ _, .slice _ _ _], .int .i64 _]) rfl rfl rfl (isJoint_ok s joint A0 A1 A2 A3 c0 c1 c2 c3 Sm.h2 h) ?_
  rintro _ h1 E1 ⟨fn, caps, rfl, ak⟩
  refine ⟨ext_wlm E1 _, ?_⟩
  refine zD (i := 6) rfl (by decide +kernel) ?_
  refine wP (caps := []) (vs := [.agg #[.slice _ _ _, .slice _ _ _, .slice _ _ _, .slice _ _ _], .int .i64 _]) rfl rfl rfl (isWeek_ok s week A0 A1 A2 A3 c0 c1 c2 c3 Sm.h0 h1) ?_
  rintro _ h1' E1' ⟨fn', caps', rfl, ak'⟩
  refine ⟨ext_wlm E1' _, ?_⟩
  refine zD (i := 7) rfl (by decide +kernel) ?_
  refine wG (zc := [_]) (vs := [(0, _), (1, _)]) (cs := [_, _]) rfl rfl rfl rfl rfl rfl rfl fun b18 hb18 => ?_
  refine ⟨ext_new hb18 _, ?_⟩
  refine qZ [_, _] rfl ?_
  refine dw_pub 1 rfl ?_
  intro h2 E2 p13
  refine qZ [_, _] rfl ?_
  refine wI (i := 8) rfl (by decide +kernel) (by decide +kernel) ?_
  refine wP (caps := []) (vs := [.agg #[.slice _ _ _, .slice _ _ _, .slice _ _ _, .slice _ _ _], .slice _ _ _]) rfl rfl rfl (known_no s A0 A1 A2 A3 c0 c1 c2 c3 h2 (R.ext (zP (zP E1 E1') E2)) Sm.h0 Sm.h1 Sm.h2 Sm.h3 [_, _] [_, _] _ _ (rowFn p13) rfl (by simp) (ask2 (ak.ext (zP E1' E2)) (ak'.ext E2)) he) ?_
  rintro _ h3 E3 rfl
  refine qD (i := 9) rfl (by decide +kernel) (qB (v := .tuple #[.agg #[.slice _ _ _, .map _, .map _, .map _, .map _, .slice _ _ _, .map _, .map _, .map _, .map _], .int .i64 _]) rfl) ?_
  refine qD (i := 10) rfl (by decide +kernel) (qK (v := .agg #[.slice _ _ _, .map _, .map _, .map _, .map _, .slice _ _ _, .map _, .map _, .map _, .map _]) rfl) ?_
  refine qD (i := 11) rfl (by decide +kernel) (qK (v := .int .i64 _) rfl) ?_
  refine zD (i := 12) rfl (by decide +kernel) ?_
  refine wO (cs := [_, _, _, _, _, _, _, _, _, _]) rfl rfl fun b8 hb8 => ?_
  refine ⟨ext_new hb8 _, ?_⟩
  refine qZ [_, _, _] rfl ?_
  refine wI (i := 13) rfl (by decide +kernel) (by decide +kernel) ?_
  refine qJ 2 (v := .agg #[.slice _ _ _, .map _, .map _, .map _, .map _, .slice _ _ _, .map _, .map _, .map _, .map _]) (vs := [_, _, _, _, _, _, _, _, _, _]) (c' := [_, _, _, _, _, _, _, _, _, _]) rfl rfl rfl rfl rfl rfl rfl rfl rfl ?_
  refine qZ [_, _, _] rfl ?_
  refine qD (i := 14) rfl (by decide +kernel) (qE (v := .int .i64 _) rfl) ?_
  refine wW rfl ?_
  refine qF ?_
  refine qF ?_
  refine qC rfl ?_
  refine qA (qB (v := .int .i64 _) rfl) ?_
  refine qA (qK (v := .bool _) rfl) ?_
  refine xp_condT rfl (by simpa [failedE] using he) ?_
  refine qF ?_
  refine qC rfl ?_
  refine qA (qB (v := .int .i64 _) rfl) ?_
  refine qA (qE (v := .int .i64 _) rfl) ?_
  refine qA (qE (v := .int .i64 _) rfl) ?_
  refine wK ?_
  refine qW (vs := [_, _]) Try.results17 ⟨qR rfl rfl, qR rfl rfl, trivial⟩ fun V => ?_
  exact ⟨(zP (zP (zP (zP E1 E1') E2) E3) (wE V)), by rw [failedV, if_neg he]; rfl⟩
end Go.Proofs.Ytgjcepdhclmglaa
namespace Go.Proofs.Ytgjcepdhclmglaa
open Go Go.HL Go.Proofs Go.Wx
variable [Lvl]
set_option maxRecDepth 100000
def causesL (s : Season) (j : Int) : List Int := if failsE s j = 0 then (List.range 3).map (causeM s j.toNat) else []
theorem anyB {l : List Fl} {p : Fl → Bool} {b : Bool} (h : b = true ↔ ∃ y ∈ l, p y = true) : b = l.any p := by
 rw [Bool.eq_iff_iff, h, List.any_eq_true]
set_option maxHeartbeats 1000000 in
theorem Causes_ok (s : Season) (Sm : Small s) (joint : Int) (A0 A1 A2 A3 : Option Addr) (c0 c1 c2 c3 : Nat) (h : AH) (R : SeasonR h A0 A1 A2 A3 s) :
  FnT Try.prog 18 #[seasonV A0 A1 A2 A3 c0 c1 c2 c3 s, .int .i64 joint] h (fun v h' => ∃ w, v = .tuple #[w, .int .i64 (failsE s joint)] ∧ SlR h' 1 intC (causesL s joint) w) := by
 by_cases he : failsE s joint = 0
 ·have hk := knownM_zero he
  have SV := checkM_zero hk.1
  have hw6 := SV.b.w6
  obtain ⟨j, rfl, hj⟩ := isJointM_zero (s := s) (j := joint) (by have := hk.2.1; simp only [firstErr, id] at this; split at this <;> simp_all)
  have hj3 : j < 3 := by have := SV.b.j3; omega
  have hji : s.joints[j]? = some s.joints[j] := List.getElem?_eq_getElem hj
  have hka : kindAt s j = s.joints[j].kind := by simp [kindAt, hji]
  refine wL Try.func18 rfl Try.ntmps18 rfl ?_
  refine qF ?_
  refine qC rfl ?_
  refine zF (v := .agg #[.slice _ _ _, .slice _ _ _, .slice _ _ _, .slice _ _ _]) (cs := [_, _, _, _]) rfl rfl fun b2 hb2 => ?_
  refine qH [_] rfl ?_
  refine qA (qE (v := .slice _ _ _) rfl) ?_
  refine qA (qE (v := .int .i64 _) rfl) ?_
  refine qF ?_
  refine zB [] rfl rfl rfl ?_
  refine qL (i := 0) rfl (by decide +kernel) ?_
  refine qX 0 (vs := [.slice _ _ _, .slice _ _ _, .slice _ _ _, .slice _ _ _]) rfl rfl rfl rfl rfl ?_
  refine qL (i := 1) rfl (by decide +kernel) ?_
  refine qX 0 (vs := [.slice _ _ _, .slice _ _ _, .slice _ _ _, .slice _ _ _]) rfl rfl rfl rfl rfl ?_
  refine qD (i := 2) rfl (by decide +kernel) (qB (v := .int .i64 _) rfl) ?_
  refine zD (i := 3) rfl (by decide +kernel) ?_
  refine wP (caps := []) (vs := [.agg #[.slice _ _ _, .slice _ _ _, .slice _ _ _, .slice _ _ _], .int .i64 _]) rfl rfl rfl (isJoint_ok s j A0 A1 A2 A3 c0 c1 c2 c3 Sm.h2 h) ?_
  rintro _ h1 E1 ⟨fn, caps, rfl, ak⟩
  refine ⟨ext_wlm E1 _, ?_⟩
  refine zD (i := 4) rfl (by decide +kernel) ?_
  refine wG (zc := [_]) (vs := [(0, _)]) (cs := [_]) rfl rfl rfl rfl rfl rfl rfl fun b18 hb18 => ?_
  refine ⟨ext_new hb18 _, ?_⟩
  refine qZ [_, _] rfl ?_
  refine dw_pub 1 rfl ?_
  intro h2 E2 p13
  refine qZ [_, _] rfl ?_
  refine wI (i := 5) rfl (by decide +kernel) (by decide +kernel) ?_
  refine wP (caps := []) (vs := [.agg #[.slice _ _ _, .slice _ _ _, .slice _ _ _, .slice _ _ _], .slice _ _ _]) rfl rfl rfl (known_yes s A0 A1 A2 A3 c0 c1 c2 c3 h2 (R.ext (zP E1 E2)) Sm.h0 Sm.h1 Sm.h2 Sm.h3 [_] [_] _ _ (rowFn p13) rfl (by simp) (ask1 (ak.ext E2)) he) ?_
  rintro _ h3 E3 ⟨A, c, mf, fm, fl, A', c', mf', fm', fl', rfl, X, X'⟩
  refine qD (i := 6) rfl (by decide +kernel) (qB (v := .tuple #[.agg #[.slice _ _ _, .map _, .map _, .map _, .map _, .slice _ _ _, .map _, .map _, .map _, .map _], .int .i64 _]) rfl) ?_
  refine qD (i := 7) rfl (by decide +kernel) (qK (v := .agg #[.slice _ _ _, .map _, .map _, .map _, .map _, .slice _ _ _, .map _, .map _, .map _, .map _]) rfl) ?_
  refine qD (i := 8) rfl (by decide +kernel) (qK (v := .int .i64 _) rfl) ?_
  refine zD (i := 9) rfl (by decide +kernel) ?_
  refine wO (cs := [_, _, _, _, _, _, _, _, _, _]) rfl rfl fun b6 hb6 => ?_
  refine ⟨ext_new hb6 _, ?_⟩
  refine qZ [_, _, _] rfl ?_
  refine wI (i := 10) rfl (by decide +kernel) (by decide +kernel) ?_
  refine qJ 2 (v := .agg #[.slice _ _ _, .map _, .map _, .map _, .map _, .slice _ _ _, .map _, .map _, .map _, .map _]) (vs := [_, _, _, _, _, _, _, _, _, _]) (c' := [_, _, _, _, _, _, _, _, _, _]) rfl rfl rfl rfl rfl rfl rfl rfl rfl ?_
  refine qZ [_, _, _] rfl ?_
  refine qD (i := 11) rfl (by decide +kernel) (qE (v := .int .i64 _) rfl) ?_
  refine wW rfl ?_
  refine qF ?_
  refine qF ?_
  refine qC rfl ?_
  refine qA (qB (v := .int .i64 _) rfl) ?_
  refine qA (qK (v := .bool _) rfl) ?_
  refine zI rfl (by decide) ?_
  refine qT ?_
  refine qF ?_
  refine qC rfl ?_
  refine qA (qE (v := .slice _ _ _) rfl) ?_
  refine qF ?_
  refine qF ?_
  refine qC rfl ?_
  refine qA (qB (v := .int .i64 _) rfl) ?_
  refine qN ?_
  refine goes_more ?_
  refine qP [_, _, _, _] rfl ?_
  refine xp_loopL [8, 9, 10, 11, 12, 25, 26, 27, 28, 29, 30, 31, 32, 33, 34, 35, 36, 37, 38, 39, 40, 41, 42, 43, 44, 45, 46, 47, 48, 49, 50, 51, 52, 53, 54, 55, 56] 4 (α := Nat × Acc) (fun ⟨k, a⟩ => [(25, .int .i64 k), (8, .slice a.A a.n a.c)]) (fun ⟨k, a⟩ L => L.set 3 (a.p)) (fun ⟨k, a⟩ h_k => k ≤ 3 ∧ AccR 3 1 (((List.range k).map (causeM s j)).flatMap intC) a) (fun ⟨k, a⟩ => 3 - k) ((0, acc0)) ⟨rfl, rfl, trivial⟩ (rfl) (⟨by omega, accR0⟩) ?_
  rintro ⟨k, a⟩ T1 h_k E_k J_k
  refine qP [_, _, _, _] rfl ?_
  obtain ⟨K1, K2⟩ := J_k
  refine qF ?_
  refine qC rfl ?_
  refine qA (qK (v := .bool _) rfl) ?_
  refine qF ?_
  refine wA rfl (fun ht => ?_) (fun ht => ?_)
  ·skip
   have hk3 : k < 3 := ltI (n := 3) ht
   obtain ⟨g, off, hA2, hcj⟩ := (R.joints.ext (zP (zP (zP E1 E2) E3) E_k)).at (by omega) hj
   have Xk := X.ext E_k
   have Xk' := X'.ext E_k
   refine qT ?_
   refine qF ?_
   refine qN ?_
   refine qF ?_
   refine qC rfl ?_
   refine qA (qB (v := .int .i64 _) rfl) ?_
   refine qA (qE (v := .int .i64 _) rfl) ?_
   refine qF ?_
   refine qC rfl ?_
   refine qA (qE (v := .bool _) rfl) ?_
   refine qA (qE (v := .bool _) rfl) ?_
   refine qF ?_
   refine qF ?_
   refine zB [] rfl rfl rfl ?_
   refine qL (i := 0) rfl (by decide +kernel) ?_
   refine qX 2 (vs := [.slice _ _ _, .map _, .map _, .map _, .map _, .slice _ _ _, .map _, .map _, .map _, .map _]) rfl rfl rfl rfl rfl ?_
   refine qD (i := 1) rfl (by decide +kernel) (qG rfl rfl rfl rfl 2 rfl) ?_
   refine qL (i := 2) rfl (by decide +kernel) ?_
   refine qI 0 (v := .slice _ _ _) rfl rfl rfl rfl ?_
   refine qD (i := 3) rfl (by decide +kernel) (qB (v := .int .i64 _) rfl) ?_
   refine qD (i := 4) rfl (by decide +kernel) (wM rfl hA2 rfl rfl rfl (by omega) (by omega)) ?_
   refine qD (i := 5) rfl (by decide +kernel) (qG rfl rfl rfl rfl _ rfl) ?_
   refine qL (i := 6) rfl (by decide +kernel) ?_
   refine qV (v := .int .i64 _) rfl rfl (hcj 0 (.int .i64 s.joints[j].kind) rfl) ?_
   refine qD (i := 9) rfl (by decide +kernel) (qB (v := .int .i64 _) rfl) ?_
   refine wI (i := 7) rfl (by decide +kernel) (by decide +kernel) ?_
   refine wP (caps := []) (vs := [.agg #[.slice _ _ _, .map _, .map _, .map _, .map _, .slice _ _ _, .map _, .map _, .map _, .map _], .int .i64 _]) rfl rfl rfl (of2_ok s s.joints[j].kind (SV.kinds _ (List.getElem_mem hj)) A c mf fm fl A' c' mf' fm' fl' h_k Xk Xk') ?_
   rintro _ h4 E4 ⟨Ah, ch, mh, fmh, flh, rfl, Xh⟩
   refine qD (i := 8) rfl (by decide +kernel) (qK (v := .agg #[.map _, .map _, .map _]) rfl) ?_
   refine qD (i := 10) rfl (by decide +kernel) (pv_indexV rfl rfl rfl rfl rfl (by omega) (by omega) (m3idx fmh j hj3 hj)) ?_
   refine wI (i := 11) rfl (by decide +kernel) (by decide +kernel) ?_
   refine op_range rfl rfl (fun V => wE V _ _ (Xh.fs j hj).1) fun it39 hit39 => ?_
   refine qZ [_, _, _, _, _] rfl ?_
   refine wW rfl ?_
   refine qN ?_
   refine xp_loopL [10, 11, 12, 40, 41, 42, 43, 44, 45, 46, 47, 48, 49] 5 (α := List Nat × Bool × Bool) (fun ⟨sn, p, q⟩ => [(10, .bool p), (11, .bool q)]) (fun ⟨sn, p, q⟩ L => L.set 4 (some (it39, iterO (fmh j) (encs flV (insAll (flh j))).length sn))) (fun ⟨sn, p, q⟩ h_sn => SeenJ (insAll (flh j)).length sn ∧ (p = true ↔ Met (insAll (flh j)) sn (fun y => y.causes.testBit k = true)) ∧ (q = true ↔ Met (insAll (flh j)) sn (fun y => (!y.causes.testBit k) = true))) (fun ⟨sn, p, q⟩ => (insAll (flh j)).length - sn.length) (([], false, false)) ⟨rfl, rfl, trivial⟩ (rfl) (⟨SeenJ.nil _, by simp [Met.nil], by simp [Met.nil]⟩) ?_
   rintro ⟨sn, p, q⟩ T2 h_sn E_sn J_sn
   refine qP [_, _, _, _, _] rfl ?_
   obtain ⟨S1, S2, S3⟩ := J_sn
   have hmm := E_sn _ _ (Xh.fs j hj).1
   refine qF ?_
   refine qC rfl ?_
   refine op_next 4 rfl rfl (fun V => wE V _ _ hmm) ?_ ?_
   ·intro jx pr hp hjn
    obtain ⟨y, v, hy, rfl⟩ := encs_get hp
    have hyc : y.causes < 8 := flsK_causes (((Xh.fs j hj).2 y).1 ((insAll_get y).1 ⟨jx, v, hy⟩))
    have hyd : y.causes / 2 ^ k < 8 := Nat.lt_of_le_of_lt (Nat.div_le_self _ _) hyc
    obtain ⟨T1, T2, T3⟩ := S1.snoc (List.getElem?_eq_some_iff.1 hy).1 hjn
    refine qA (qK (v := .bool _) rfl) ?_
    refine qF ?_
    refine xp_condT rfl (rfl) ?_
    refine qT ?_
    refine qN ?_
    refine qF ?_
    refine qC rfl ?_
    refine op_entry 4 rfl rfl (fun V => wE V _ _ hmm) hp ?_
    refine qA (qK (v := .agg #[.int .i64 _, .int .i64 _]) rfl) ?_
    refine wO (cs := [_, _]) rfl rfl fun b12 hb12 => ?_
    refine qH [_, _, _, _, _, _] rfl ?_
    refine qJ 5 (v := .agg #[.int .i64 _, .int .i64 _]) (vs := [_, _]) (c' := [_, _]) rfl rfl rfl rfl rfl rfl rfl rfl rfl ?_
    refine qH [_, _, _, _, _, _] rfl ?_
    refine qF ?_
    refine qC rfl ?_
    refine qA (qG rfl rfl rfl rfl 1 rfl) ?_
    refine qI 5 (v := .int .i64 _) rfl rfl rfl rfl ?_
    refine qA (qB (v := .int .i64 _) rfl) ?_
    refine qA (pv_shr y.causes k (.inl rfl) rfl rfl rfl rfl (by omega)) ?_
    refine qA (pv_val (i64_and (y.causes / 2 ^ k) 1 (by omega) (by omega)) rfl) ?_
    refine qA (qK (v := .bool _) rfl) ?_
    refine wA rfl (fun hb => ?_) (fun hb => ?_)
    ·skip
     have hb' : y.causes.testBit k = true := by
      rw [testBit_div] at hb
      cases hbb : y.causes.testBit k with
      | true => rfl
      | false => rw [hbb] at hb; simp at hb
     refine qC rfl ?_
     refine qA (qE (v := .bool _) rfl) ?_
     refine ⟨(sn ++ [jx], true, q), ⟨rfl, rfl, trivial⟩, rfl, rfl, E_sn, fun h3 E3 => ⟨T1, by rw [Met.snoc hy]; simp [hb'], by rw [Met.snoc hy, S3]; simp [hb']⟩, by first | omega | (dsimp only; omega), ?_⟩
     repeat (first | exact qU _ _ _ | refine wB (by decide) ?_ | refine qS rfl ?_ | refine wN rfl ?_)
    ·skip
     have hb' : y.causes.testBit k = false := by
      rw [testBit_div] at hb
      cases hbb : y.causes.testBit k with
      | false => rfl
      | true => rw [hbb] at hb; simp at hb
     refine qC rfl ?_
     refine qA (qE (v := .bool _) rfl) ?_
     refine ⟨(sn ++ [jx], p, true), ⟨rfl, rfl, trivial⟩, rfl, rfl, E_sn, fun h3 E3 => ⟨T1, by rw [Met.snoc hy, S2]; simp [hb'], by rw [Met.snoc hy]; simp [hb']⟩, by first | omega | (dsimp only; omega), ?_⟩
     repeat (first | exact qU _ _ _ | refine wB (by decide) ?_ | refine qS rfl ?_ | refine wN rfl ?_)
   ·intro hall
    have hall' : ∀ k, k < (insAll (flh j)).length → k ∈ sn := fun k hk => hall k (by rw [encs_len]; exact hk)
    have ep : verdictM p q = causeM s j k := by
     unfold causeM
     rw [hka]
     congr 1
     ·refine anyB ?_
      rw [S2, Met.all hall']
      exact ⟨fun ⟨y, hy, e⟩ => ⟨y, ((Xh.fs j hj).2 y).1 hy, e⟩, fun ⟨y, hy, e⟩ => ⟨y, ((Xh.fs j hj).2 y).2 hy, e⟩⟩
     ·refine anyB ?_
      rw [S3, Met.all hall']
      exact ⟨fun ⟨y, hy, e⟩ => ⟨y, ((Xh.fs j hj).2 y).1 hy, e⟩, fun ⟨y, hy, e⟩ => ⟨y, ((Xh.fs j hj).2 y).2 hy, e⟩⟩
    refine qA (qK (v := .bool _) rfl) ?_
    refine qF ?_
    refine zI rfl (rfl) ?_
    refine wU ?_
    refine qC rfl ?_
    refine qA (qB (v := .slice _ _ _) rfl) ?_
    refine qA (qB (v := .bool _) rfl) ?_
    refine qA (qB (v := .bool _) rfl) ?_
    refine wP (caps := []) (vs := [.bool _, .bool _]) rfl rfl rfl (verdict_ok p q h_sn) ?_
    rintro _ h5 E5 rfl
    refine wG (zc := [_]) (vs := [(0, .int .i64 _)]) (cs := [_]) rfl rfl rfl rfl rfl rfl rfl fun b54 hb54 => ?_
    refine qH [_, _, _, _, _, _] rfl ?_
    refine zK 3 K2 rfl rfl rfl (fun V => rdP V (i := 5) rfl) rfl rfl rfl rfl rfl rfl rfl rfl rfl (by omega) rfl (by rw [wS (m := 1) (fun _ _ => rfl)]; simp; omega) fun a2 h3a E3a ha2 => ?_
    refine qH [_, _, _, _, _, _] rfl ?_
    refine qA (qE (v := .slice _ _ _) rfl) ?_
    refine qC rfl ?_
    refine qA (qO rfl (by omega)) ?_
    refine qA (qB (v := .int .i64 _) rfl) ?_
    refine ⟨(k + 1, a2), ⟨rfl, rfl, trivial⟩, rfl, rfl, (zP (zP (zP (zP E_k E4) E_sn) E5) E3a), fun h3 E3 => ⟨hk3, by rw [List.range_succ, List.map_append, List.flatMap_append]; rw [ep] at ha2; exact ha2⟩, by first | omega | (dsimp only; omega), ?_⟩
    repeat (first | exact qU _ _ _ | refine wB (by decide) ?_ | refine qS rfl ?_ | refine wN rfl ?_)
  ·skip
   have hk3 : k = 3 := by have := geI (n := 3) ht; omega
   subst hk3
   refine wU ?_
   refine qF ?_
   refine qC rfl ?_
   refine qA (qB (v := .slice _ _ _) rfl) ?_
   refine qA (qE (v := .slice _ _ _) rfl) ?_
   refine qA (qE (v := .int .i64 _) rfl) ?_
   refine wK ?_
   refine qW (vs := [_, _]) Try.results18 ⟨qR rfl rfl, qR rfl rfl, trivial⟩ fun V => ?_
   refine ⟨(zP (zP (zP (zP E1 E2) E3) E_k) (wE V)), _, by rw [he]; rfl, ?_⟩
   rw [causesL, if_pos he]
   exact AccP.row (i := 3) K2 (by omega) (fun _ _ => rfl) V rfl
 ·skip
  refine wL Try.func18 rfl Try.ntmps18 rfl ?_
  refine qF ?_
  refine qC rfl ?_
  refine zF (v := .agg #[.slice _ _ _, .slice _ _ _, .slice _ _ _, .slice _ _ _]) (cs := [_, _, _, _]) rfl rfl fun b2 hb2 => ?_
  refine qH [_] rfl ?_
  refine qA (qE (v := .slice _ _ _) rfl) ?_
  refine qA (qE (v := .int .i64 _) rfl) ?_
  refine qF ?_
  refine zB [] rfl rfl rfl ?_
  refine qL (i := 0) rfl (by decide +kernel) ?_
  refine qX 0 (vs := [.slice _ _ _, .slice _ _ _, .slice _ _ _, .slice _ _ _]) rfl rfl rfl rfl rfl ?_
  refine qL (i := 1) rfl (by decide +kernel) ?_
  refine qX 0 (vs := [.slice _ _ _, .slice _ _ _, .slice _ _ _, .slice _ _ _]) rfl rfl rfl rfl rfl ?_
  refine qD (i := 2) rfl (by decide +kernel) (qB (v := .int .i64 _) rfl) ?_
  refine zD (i := 3) rfl (by decide +kernel) ?_
  refine wP (caps := []) (vs := [.agg #[.slice _ _ _, .slice _ _ _, .slice _ _ _, .slice _ _ _], .int .i64 _]) rfl rfl rfl (isJoint_ok s joint A0 A1 A2 A3 c0 c1 c2 c3 Sm.h2 h) ?_
  rintro _ h1 E1 ⟨fn, caps, rfl, ak⟩
  refine ⟨ext_wlm E1 _, ?_⟩
  refine zD (i := 4) rfl (by decide +kernel) ?_
  refine wG (zc := [_]) (vs := [(0, _)]) (cs := [_]) rfl rfl rfl rfl rfl rfl rfl fun b18 hb18 => ?_
  refine ⟨ext_new hb18 _, ?_⟩
  refine qZ [_, _] rfl ?_
  refine dw_pub 1 rfl ?_
  intro h2 E2 p13
  refine qZ [_, _] rfl ?_
  refine wI (i := 5) rfl (by decide +kernel) (by decide +kernel) ?_
  refine wP (caps := []) (vs := [.agg #[.slice _ _ _, .slice _ _ _, .slice _ _ _, .slice _ _ _], .slice _ _ _]) rfl rfl rfl (known_no s A0 A1 A2 A3 c0 c1 c2 c3 h2 (R.ext (zP E1 E2)) Sm.h0 Sm.h1 Sm.h2 Sm.h3 [_] [_] _ _ (rowFn p13) rfl (by simp) (ask1 (ak.ext E2)) he) ?_
  rintro _ h3 E3 rfl
  refine qD (i := 6) rfl (by decide +kernel) (qB (v := .tuple #[.agg #[.slice _ _ _, .map _, .map _, .map _, .map _, .slice _ _ _, .map _, .map _, .map _, .map _], .int .i64 _]) rfl) ?_
  refine qD (i := 7) rfl (by decide +kernel) (qK (v := .agg #[.slice _ _ _, .map _, .map _, .map _, .map _, .slice _ _ _, .map _, .map _, .map _, .map _]) rfl) ?_
  refine qD (i := 8) rfl (by decide +kernel) (qK (v := .int .i64 _) rfl) ?_
  refine zD (i := 9) rfl (by decide +kernel) ?_
  refine wO (cs := [_, _, _, _, _, _, _, _, _, _]) rfl rfl fun b6 hb6 => ?_
  refine ⟨ext_new hb6 _, ?_⟩
  refine qZ [_, _, _] rfl ?_
  refine wI (i := 10) rfl (by decide +kernel) (by decide +kernel) ?_
  refine qJ 2 (v := .agg #[.slice _ _ _, .map _, .map _, .map _, .map _, .slice _ _ _, .map _, .map _, .map _, .map _]) (vs := [_, _, _, _, _, _, _, _, _, _]) (c' := [_, _, _, _, _, _, _, _, _, _]) rfl rfl rfl rfl rfl rfl rfl rfl rfl ?_
  refine qZ [_, _, _] rfl ?_
  refine qD (i := 11) rfl (by decide +kernel) (qE (v := .int .i64 _) rfl) ?_
  refine wW rfl ?_
  refine qF ?_
  refine qF ?_
  refine qC rfl ?_
  refine qA (qB (v := .int .i64 _) rfl) ?_
  refine qA (qK (v := .bool _) rfl) ?_
  refine xp_condT rfl (by simpa [failsE] using he) ?_
  refine qF ?_
  refine qC rfl ?_
  refine qA (qB (v := .int .i64 _) rfl) ?_
  refine qA (qE (v := .slice _ _ _) rfl) ?_
  refine qA (qE (v := .int .i64 _) rfl) ?_
  refine wK ?_
  refine qW (vs := [_, _]) Try.results18 ⟨qR rfl rfl, qR rfl rfl, trivial⟩ fun V => ?_
  refine ⟨(zP (zP (zP E1 E2) E3) (wE V)), _, rfl, none, 0, ?_, ?_⟩
  ·rw [causesL, if_neg he]; rfl
  ·rw [causesL, if_neg he]; exact ⟨fun _ h => (by cases h), Rd.nil _ _⟩
end Go.Proofs.Ytgjcepdhclmglaa
namespace Go.Wx
open Go Go.HL
variable [Lvl]
def joinF (x y : Fate) : Fate := ⟨x.a ||| y.a, x.b ||| y.b, x.c ||| y.c⟩
def allFates (s : Season) : List Fate := (fatesM s 1).flatMap fun x => (fatesM s 2).map (joinF x)
theorem mem_allFates {s : Season} {f : Fate} : f ∈ allFates s ↔ ∃ x ∈ fatesM s 1, ∃ y ∈ fatesM s 2, joinF x y = f := by
 unfold allFates
 simp only [List.mem_flatMap, List.mem_map]
theorem fateM_lt {s : Season} (h6 : s.heats.length ≤ 6) (n : Int) (x : Sky) (i : Nat) : fateM s n x i < 2 ^ 7 := maskM_lt fun y hy => by have := surv_week hy; omega
structure FateB (f : Fate) : Prop where
 a : f.a < 2 ^ 7
 b : f.b < 2 ^ 7
 c : f.c < 2 ^ 7
theorem fatesM_b {s : Season} (h6 : s.heats.length ≤ 6) {n : Int} {f : Fate} (h : f ∈ fatesM s n) : FateB f := by
 unfold fatesM fatesK at h
 obtain ⟨x, _, rfl⟩ := List.mem_map.1 h
 exact ⟨fateM_lt h6 _ _ _, fateM_lt h6 _ _ _, fateM_lt h6 _ _ _⟩
theorem FateB.join {x y : Fate} (hx : FateB x) (hy : FateB y) : FateB (joinF x y) := ⟨Nat.or_lt_two_pow hx.a hy.a, Nat.or_lt_two_pow hx.b hy.b, Nat.or_lt_two_pow hx.c hy.c⟩
theorem allFates_b {s : Season} (h6 : s.heats.length ≤ 6) {f : Fate} (h : f ∈ allFates s) : FateB f := by
 obtain ⟨x, hx, y, hy, rfl⟩ := mem_allFates.1 h
 exact (fatesM_b h6 hx).join (fatesM_b h6 hy)
theorem FateB.at {f : Fate} (h : FateB f) : ∀ i, f.at i < 2 ^ 7
 | 0 => h.a
 | 1 => h.b
 | _ + 2 => h.c
def jn (x y : Fate) (i k : Nat) : Nat := if k < i then x.at k ||| y.at k else x.at k
theorem jn_arr (x y : Fate) : ∀ i : Nat, i < 3 → #[Value.int .u64 (jn x y i 0 : Nat), .int .u64 (jn x y i 1 : Nat), .int .u64 (jn x y i 2 : Nat)][0 + (i : Int).toNat * 1]? = some (.int .u64 (x.at i : Nat))
 | 0, _ => rfl
 | 1, _ => rfl
 | 2, _ => rfl
 | i + 3, h => by omega
theorem fate_arr (y : Fate) : ∀ i : Nat, i < 3 → #[Value.int .u64 (y.a : Nat), .int .u64 (y.b : Nat), .int .u64 (y.c : Nat)][0 + (i : Int).toNat * 1]? = some (.int .u64 (y.at i : Nat))
 | 0, _ => rfl
 | 1, _ => rfl
 | 2, _ => rfl
 | i + 3, h => by omega
theorem jn_wr (x y : Fate) : ∀ i : Nat, i < 3 → wrL [Value.int .u64 (jn x y i 0 : Nat), .int .u64 (jn x y i 1 : Nat), .int .u64 (jn x y i 2 : Nat)] (0 + (i : Int).toNat * 1) [.int .u64 ((x.at i ||| y.at i : Nat) : Int)] = [Value.int .u64 (jn x y (i + 1) 0 : Nat), .int .u64 (jn x y (i + 1) 1 : Nat), .int .u64 (jn x y (i + 1) 2 : Nat)]
 | 0, _ => rfl
 | 1, _ => rfl
 | 2, _ => rfl
 | i + 3, h => by omega
theorem okK_ok {s : Season} {n : Int} {k : Nat} {x : Sky} (h : x ∈ okK s n k) : okM s n x = true := (List.mem_filter.1 h).2
theorem fateM_ne {s : Season} {n : Int} {x : Sky} (h : okM s n x = true) {i : Nat} (hi : i < s.joints.length) (hk : kindAt s i = n) : fateM s n x i ≠ 0 := by
 unfold okM at h
 have := List.all_eq_true.1 h i (by simpa using hi)
 simpa [hk] using this
theorem Fate.of_at (s : Season) (n : Int) (x : Sky) : ∀ i, i < 3 → (fateOf s n x).at i = fateM s n x i
 | 0, _ => rfl
 | 1, _ => rfl
 | 2, _ => rfl
 | i + 3, h => by omega
theorem joinF_at (x y : Fate) : ∀ i, (joinF x y).at i = x.at i ||| y.at i
 | 0 => rfl
 | 1 => rfl
 | _ + 2 => rfl
theorem or_ne_left {a b : Nat} (h : a ≠ 0) : a ||| b ≠ 0 := by
 intro e
 have : a ≤ a ||| b := Nat.left_le_or
 omega
theorem or_ne_right {a b : Nat} (h : b ≠ 0) : a ||| b ≠ 0 := by
 intro e
 have : b ≤ a ||| b := Nat.right_le_or
 omega
theorem allFates_ne {s : Season} (SV : SeasonV s) {f : Fate} (h : f ∈ allFates s) {i : Nat} (hi : i < s.joints.length) : f.at i ≠ 0 := by
 obtain ⟨x, hx, y, hy, rfl⟩ := mem_allFates.1 h
 have h3 : i < 3 := by have := SV.b.j3; omega
 obtain ⟨u, hu, rfl⟩ := List.mem_map.1 hx
 obtain ⟨v, hv, rfl⟩ := List.mem_map.1 hy
 rw [joinF_at, Fate.of_at _ _ _ _ h3, Fate.of_at _ _ _ _ h3]
 have hk : kindAt s i = s.joints[i].kind := by simp [kindAt, hi]
 rcases SV.kinds _ (List.getElem_mem hi) with e | e
 ·exact or_ne_left (fateM_ne (okK_ok hu) hi (hk.trans e))
 ·exact or_ne_right (fateM_ne (okK_ok hv) hi (hk.trans e))
theorem listM_ne {m : Nat} (h0 : m ≠ 0) (h7 : m < 2 ^ 7) : listM m ≠ [] := by
 intro e
 apply h0
 apply Nat.eq_of_testBit_eq
 intro i
 rw [Nat.zero_testBit]
 rcases Nat.lt_or_ge i 7 with h | h
 ·cases hb : m.testBit i with
  | false => rfl
  | true =>
   have : (i : Int) ∈ listM m := by
    unfold listM listN
    exact List.mem_map.2 ⟨i, List.mem_filter.2 ⟨by simpa using h, hb⟩, rfl⟩
   rw [e] at this
   cases this
 ·exact Nat.testBit_lt_two_pow (Nat.lt_of_lt_of_le h7 (Nat.pow_le_pow_right (by omega) h))
def soonP (s : Season) (f : Fate) (j : Nat) : Nat → Int
 | 0 => s.heats.length
 | i + 1 => if i = j then soonP s f j i else min (soonP s f j i) ((listM (f.at i)).headD 0)
def latP (s : Season) (f : Fate) (j : Nat) : Nat → Int
 | 0 => s.heats.length
 | i + 1 => if i = j then latP s f j i else min (latP s f j i) ((listM (f.at i)).getLastD 0)
def isW (s : Season) (f : Fate) (j : Nat) (w : Int) : Bool := decide (w ≤ (s.heats.length : Int) - 1) && decide (w ≤ latP s f j s.joints.length)
def noW (s : Season) (f : Fate) (j : Nat) (w : Int) : Bool := decide (w > (s.heats.length : Int) - 1) || decide (w > soonP s f j s.joints.length)
def isF (s : Season) (j : Nat) (f : Fate) : Bool := (listM (f.at j)).any (isW s f j)
def noF (s : Season) (j : Nat) (f : Fate) : Bool := (listM (f.at j)).any (noW s f j)
def firstM (s : Season) (j : Nat) : Int := verdictM ((allFates s).any (isF s j)) ((allFates s).any (noF s j))
theorem any_same {α : Type} {a b : List α} (h : ∀ x, x ∈ a ↔ x ∈ b) (p : α → Bool) : a.any p = b.any p := by
 rw [Bool.eq_iff_iff, List.any_eq_true, List.any_eq_true]
 exact ⟨fun ⟨x, hx, e⟩ => ⟨x, (h x).1 hx, e⟩, fun ⟨x, hx, e⟩ => ⟨x, (h x).2 hx, e⟩⟩
end Go.Wx
namespace Go.HL
open Go Go.Wx
variable [Lvl]
theorem op_rangeF (i : Nat) {P : Program} {n : Nat} {ops : Array Oper} {d : Option Tmp} {ty : TypeId} {ps : String} {af : Array Edge} {os : List Oper} {K : Sl → Pv → AH → Prop} {E : Value → Sl → Pv → AH → Prop} {S : Sl} {L : Pv} {h : AH} {t a b : TypeId} {x : Operand} {m : Nat} {l : List (Value × Value)} (hi : L[i]? = some none) (ht : pev P (underlying t) = some (.map a b)) (hx : ev n S x = .map (some m)) (hm : Valid h L → wl h L m = some (mapO l))
  (k : ∀ c, wl h L c = none → wpL P n ops os K E (put S d (.pointer (some ⟨c, 0, none⟩))) (L.set i (some (c, iterO m l.length []))) h) : wpL P n ops (⟨d, .range t x, ty, ps, af, none⟩ :: os) K E S L h := by
 refine op_of fun V => ?_
 unfold opW
 simp only [execOp, hx]
 refine wJ ?_
 unfold Instr.range
 refine wH ht ?_
 simp only
 refine wJ ?_
 refine ⟨_, hm V, trivial, ?_⟩
 refine wJ ?_
 refine wJ ?_
 intro c hc
 obtain ⟨e, V'⟩ := wl_fill V hi hc (iterO m l.length [])
 exact ⟨_, h, e, V', k c hc⟩
def Yields2 {α : Type} (P : Program) (y : Value) (all : List α) (enc : α → Value) (I : List α → AH → Pv → Prop) : Prop :=
 ∀ (done : List α) (x : α) (h : AH) (M : Pv), x ∈ all → I done h M → FnM P y [enc x] h M (fun v h' M' => v = .bool true ∧ I (done ++ [x]) h' M')
def Iter2 {α : Type} (P : Program) (f : Value) (h0 : AH) (all : List α) (enc : α → Value) : Prop :=
 ∀ (fn : Fn) (fs cs : Array Value) (I : List α → AH → Pv → Prop), (∀ k h h' M, Ext h h' → I k h M → I k h' M) → Yields2 P (.func fn fs cs) all enc I → ∀ h M, Ext h0 h → I [] h M → FnM P f [.func fn fs cs] h M (fun _ h' M' => ∃ done, (∀ x, x ∈ done ↔ x ∈ all) ∧ I done h' M')
theorem Iter2.ext {α : Type} {P : Program} {f : Value} {h h' : AH} {all : List α} {enc : α → Value} (i : Iter2 P f h all enc) (E : Ext h h') : Iter2 P f h' all enc :=
 fun fn fs cs I hI Y h1 M E1 => i fn fs cs I hI Y h1 M (E.trans E1)
end Go.HL
namespace Go.Proofs.Ytgjcepdhclmglaa
open Go Go.HL Go.Proofs Go.Wx
variable [Lvl]
set_option maxRecDepth 100000
set_option maxHeartbeats 1000000 in
theorem fates1_ok (s : Season) (SV : SeasonV s) (A : Option Addr) (c mf : Nat) (fm : Nat → Nat) (fl : Nat → List Fl) (A' : Option Addr) (c' mf' : Nat) (fm' : Nat → Nat) (fl' : Nat → List Fl) (b1 : Nat) (h0 : AH) (X : HalfX h0 s 1 A mf fm fl) (X' : HalfX h0 s 2 A' mf' fm' fl')
  (e1 : h0 b1 = some (.cells (halfC s 1 A c mf fm ++ halfC s 2 A' c' mf' fm').toArray 82 (0, 0))) :
  Iter2 Try.prog (.func (.func 45) #[] #[.pointer (some ⟨b1, 0, none⟩)]) h0 (allFates s) fateV := by
 intro fn fs cs I hI Y h M E0 hi
 have hw6 := SV.b.w6
 refine fnM_body (caps := [.pointer (some ⟨b1, 0, none⟩)]) rfl rfl Try.func45 rfl Try.ntmps45 rfl ?_
 refine goes_front ?_
 refine goes_front ?_
 refine goes_front ?_
 refine goes_front ?_
 refine goes_front ?_
 refine qF ?_
 refine qC rfl ?_
 refine qA (qG rfl rfl rfl rfl _ rfl) ?_
 refine qA (qG rfl rfl rfl rfl _ rfl) ?_
 refine qV (v := .map _) rfl rfl (by simp only [cellA, E0 _ _ e1]; rfl) ?_
 refine op_rangeF 0 rfl rfl rfl (fun V => by exact (zP E0 (wE V)) _ _ X.ft) fun it10 hit10 => ?_
 refine qH (_ :: _ :: _ :: _ :: _ :: _) rfl ?_
 refine qN ?_
 refine xp_loopN [3, 4, 5, 6, 11, 12, 13, 14, 15, 16, 17, 18, 19, 20, 21, 22, 23, 24, 25, 26, 27, 28, 29, 30, 31, 32, 33, 34, 35, 36, 37, 38, 39] (α := List Nat × List Fate × Pv) (fun ⟨sn, done, M1⟩ => []) (fun ⟨sn, done, M1⟩ => some (it10, iterO mf (encs fateV (insAll (fatesM s 1))).length sn) :: none :: none :: none :: none :: M1) (fun ⟨sn, done, M1⟩ h_sn => SeenJ (insAll (fatesM s 1)).length sn ∧ I done h_sn M1 ∧ ∀ f, f ∈ done ↔ Met (insAll (fatesM s 1)) sn (fun x => ∃ y ∈ fatesM s 2, joinF x y = f)) (fun ⟨sn, done, M1⟩ => (insAll (fatesM s 1)).length - sn.length) (([], [], M)) trivial (rfl) (⟨SeenJ.nil _, hi, fun f => by simp [Met.nil]⟩) ?_
 rintro ⟨sn, done, M1⟩ T1 h_sn E_sn J_sn
 refine qP (_ :: _ :: _ :: _ :: _ :: _) rfl ?_
 obtain ⟨S1, S2, S3⟩ := J_sn
 have hm1 := (zP E0 E_sn) _ _ X.ft
 refine qF ?_
 refine qC rfl ?_
 refine op_next 0 rfl rfl (fun V => wE V _ _ hm1) ?_ ?_
 ·intro jx p hp hjn
  obtain ⟨x, v, hx, rfl⟩ := encs_get hp
  have hxm : x ∈ fatesM s 1 := (insAll_get x).1 ⟨jx, v, hx⟩
  obtain ⟨T1, T2, T3⟩ := S1.snoc (List.getElem?_eq_some_iff.1 hx).1 hjn
  refine qH (_ :: _ :: _ :: _ :: _ :: _) rfl ?_
  refine qA (qK (v := .bool _) rfl) ?_
  refine qF ?_
  refine xp_condT rfl (rfl) ?_
  refine qT ?_
  refine qN ?_
  refine qF ?_
  refine qC rfl ?_
  refine op_entry 0 rfl rfl (fun V => wE V _ _ hm1) hp ?_
  refine qA (qK (v := .agg #[.int .u64 _, .int .u64 _, .int .u64 _]) rfl) ?_
  refine op_allocF 1 (cs := [_, _, _]) rfl rfl rfl fun b3 hb3 => ?_
  refine qH (_ :: _ :: _ :: _ :: _ :: _) rfl ?_
  refine qJ 1 (v := .agg #[.int .u64 _, .int .u64 _, .int .u64 _]) (vs := [_, _, _]) (c' := [_, _, _]) rfl rfl rfl rfl rfl rfl rfl rfl rfl ?_
  refine qH (_ :: _ :: _ :: _ :: _ :: _) rfl ?_
  refine qF ?_
  refine qC rfl ?_
  refine qA (qG rfl rfl rfl rfl _ rfl) ?_
  refine qA (qG rfl rfl rfl rfl _ rfl) ?_
  refine qV (v := .map _) rfl rfl (by simp only [cellA, (zP E0 E_sn) _ _ e1]; rfl) ?_
  refine op_rangeF 2 rfl rfl rfl (fun V => by exact (zP (zP E0 E_sn) (wE V)) _ _ X'.ft) fun it18 hit18 => ?_
  refine qH (_ :: _ :: _ :: _ :: _ :: _) rfl ?_
  refine qN ?_
  refine xp_loopN [4, 5, 6, 19, 20, 21, 22, 23, 24, 25, 26, 27, 28, 29, 30, 31, 32, 33, 34, 35, 36, 37, 38, 39] (α := List Nat × List Fate × Pv) (fun ⟨tn, dn, M2⟩ => []) (fun ⟨tn, dn, M2⟩ => _ :: _ :: some (it18, iterO mf' (encs fateV (insAll (fatesM s 2))).length tn) :: none :: none :: M2) (fun ⟨tn, dn, M2⟩ h_tn => SeenJ (insAll (fatesM s 2)).length tn ∧ I dn h_tn M2 ∧ ∀ f, f ∈ dn ↔ f ∈ done ∨ Met (insAll (fatesM s 2)) tn (fun y => joinF x y = f)) (fun ⟨tn, dn, M2⟩ => (insAll (fatesM s 2)).length - tn.length) (([], done, M1)) trivial (rfl) (⟨SeenJ.nil _, hI _ _ _ _ (Ext.refl _) S2, fun f => by simp [Met.nil]⟩) ?_
  rintro ⟨tn, dn, M2⟩ T2 h_tn E_tn J_tn
  refine qP (_ :: _ :: _ :: _ :: _ :: _) rfl ?_
  obtain ⟨U1, U2, U3⟩ := J_tn
  have hm2 := (zP E0 (zP E_sn E_tn)) _ _ X'.ft
  refine qF ?_
  refine qC rfl ?_
  refine op_next 2 rfl rfl (fun V => wE V _ _ hm2) ?_ ?_
  ·intro jy p hp2 hjn2
   obtain ⟨y, v, hy, rfl⟩ := encs_get hp2
   have hym : y ∈ fatesM s 2 := (insAll_get y).1 ⟨jy, v, hy⟩
   obtain ⟨W1, W2, W3⟩ := U1.snoc (List.getElem?_eq_some_iff.1 hy).1 hjn2
   have bx := fatesM_b hw6 hxm
   have bY := fatesM_b hw6 hym
   refine qH (_ :: _ :: _ :: _ :: _ :: _) rfl ?_
   refine qA (qK (v := .bool _) rfl) ?_
   refine qF ?_
   refine xp_condT rfl (rfl) ?_
   refine qT ?_
   refine qN ?_
   refine qF ?_
   refine qC rfl ?_
   refine op_entry 2 rfl rfl (fun V => wE V _ _ hm2) hp2 ?_
   refine qA (qK (v := .agg #[.int .u64 _, .int .u64 _, .int .u64 _]) rfl) ?_
   refine op_allocF 3 (cs := [_, _, _]) rfl rfl rfl fun b4 hb4 => ?_
   refine qH (_ :: _ :: _ :: _ :: _ :: _) rfl ?_
   refine qJ 3 (v := .agg #[.int .u64 _, .int .u64 _, .int .u64 _]) (vs := [_, _, _]) (c' := [_, _, _]) rfl rfl rfl rfl rfl rfl rfl rfl rfl ?_
   refine qH (_ :: _ :: _ :: _ :: _ :: _) rfl ?_
   refine qF ?_
   refine qC rfl ?_
   refine qX 1 (vs := [.int .u64 _, .int .u64 _, .int .u64 _]) rfl rfl rfl rfl rfl ?_
   refine op_allocF 4 (cs := [_, _, _]) rfl rfl rfl fun b5 hb5 => ?_
   refine qH (_ :: _ :: _ :: _ :: _ :: _) rfl ?_
   refine qJ 4 (v := .agg #[.int .u64 _, .int .u64 _, .int .u64 _]) (vs := [_, _, _]) (c' := [_, _, _]) rfl rfl rfl rfl rfl rfl rfl rfl rfl ?_
   refine qH (_ :: _ :: _ :: _ :: _ :: _) rfl ?_
   refine qF ?_
   refine qF ?_
   refine qC rfl ?_
   refine qA (qB (v := .int .i64 _) rfl) ?_
   refine qN ?_
   refine xp_loopN [6, 24, 25, 26, 27, 28, 29, 30, 31, 32, 33, 34, 35] (α := Nat) (fun i => [(24, .int .i64 i)]) (fun i => _ :: _ :: _ :: _ :: some (b5, .cells #[.int .u64 (jn x y i 0 : Nat), .int .u64 (jn x y i 1 : Nat), .int .u64 (jn x y i 2 : Nat)] 95 (0, 0)) :: _) (fun i h_i => i ≤ 3) (fun i => 3 - i) (0) ⟨rfl, trivial⟩ (rfl) (by omega) ?_
   rintro i T3 h_i E_i J_i
   refine qP (_ :: _ :: _ :: _ :: _ :: _) rfl ?_
   refine qF ?_
   refine qC rfl ?_
   refine qA (qK (v := .bool _) rfl) ?_
   refine qF ?_
   refine wA rfl (fun hi3 => ?_) (fun hi3 => ?_)
   ·skip
    have h3 : i < 3 := ltI (n := 3) hi3
    have bxi := bx.at i
    have byi := bY.at i
    refine qT ?_
    refine qF ?_
    refine qN ?_
    refine qF ?_
    refine qC rfl ?_
    refine qA (qB (v := .int .i64 _) rfl) ?_
    refine qA (qE (v := .int .i64 _) rfl) ?_
    refine zB [] rfl rfl rfl ?_
    refine qD (i := 0) rfl (by decide +kernel) (qB (v := .int .i64 _) rfl) ?_
    refine qD (i := 1) rfl (by decide +kernel) (pv_indexA rfl rfl rfl rfl (by omega) (by omega)) ?_
    refine qL (i := 2) rfl (by decide +kernel) ?_
    refine qI 4 (v := .int .u64 (x.at i : Nat)) rfl rfl rfl (jn_arr x y i h3) ?_
    refine qD (i := 3) rfl (by decide +kernel) (qB (v := .int .i64 _) rfl) ?_
    refine qD (i := 4) rfl (by decide +kernel) (pv_indexA rfl rfl rfl rfl (by omega) (by omega)) ?_
    refine qL (i := 5) rfl (by decide +kernel) ?_
    refine qI 3 (v := .int .u64 (y.at i : Nat)) rfl rfl rfl (fate_arr y i h3) ?_
    refine qD (i := 6) rfl (by decide +kernel) (pv_val (u64_or (x.at i) (y.at i) (by omega) (by omega)) rfl) ?_
    refine qD (i := 7) rfl (by decide +kernel) (pv_indexA rfl rfl rfl rfl (by omega) (by omega)) ?_
    refine wI (i := 8) rfl (by decide +kernel) (by decide +kernel) ?_
    refine qJ 4 (v := .int .u64 _) (vs := [_]) (b := b5) (off := 0 + (i : Int).toNat * 1) rfl rfl rfl rfl rfl rfl (Nat.ble_eq_true_of_le (show 0 + (i : Int).toNat * 1 + 1 ≤ 3 by omega)) rfl (jn_wr x y i h3) ?_
    refine qZ (_ :: _ :: _ :: _ :: _ :: _) rfl ?_
    refine wW rfl ?_
    refine qC rfl ?_
    refine qA (qO rfl (by omega)) ?_
    refine qA (qB (v := .int .i64 _) rfl) ?_
    refine ⟨i + 1, ⟨rfl, trivial⟩, rfl, rfl, E_i, by first | trivial | omega | (refine ⟨?_, ?_⟩ <;> omega), by first | omega | (dsimp only; omega), ?_⟩
    repeat (first | exact qU _ _ _ | refine wB (by decide) ?_ | refine qS rfl ?_ | refine wN rfl ?_)
   ·skip
    have h3 : i = 3 := by have := geI (n := 3) hi3; omega
    subst h3
    refine wU ?_
    refine qF ?_
    refine qC rfl ?_
    refine qA (qB (v := _) rfl) ?_
    refine qX 4 (vs := [.int .u64 _, .int .u64 _, .int .u64 _]) rfl rfl rfl rfl rfl ?_
    refine op_fnM [_, _, _, _, _] _ (vs := _) rfl rfl rfl (Y dn (joinF x y) h_i M2 (mem_allFates.2 ⟨x, hxm, y, hym, rfl⟩) (hI _ _ _ _ E_i U2)) ?_
    rintro _ h6 M6 E6 ⟨rfl, i6⟩
    refine qA (qK (v := .bool _) rfl) ?_
    refine zI rfl (by decide) ?_
    refine zH 3 rfl ?_
    intro hq4 Eq4 _
    refine zH 4 rfl ?_
    intro hq5 Eq5 _
    refine qP (_ :: _ :: _ :: _ :: _ :: _) rfl ?_
    refine qT ?_
    refine ⟨(tn ++ [jy], dn ++ [joinF x y], M6), trivial, rfl, rfl, (zP (zP (zP (zP E_tn E_i) E6) Eq4) Eq5), ⟨W1, hI _ _ _ _ (zP Eq4 Eq5) i6, fun f => by rw [List.mem_append, U3 f, Met.snoc hy, or_assoc]; simp [eq_comm]⟩, by first | omega | (dsimp only; omega), ?_⟩
    repeat (first | exact qU _ _ _ | refine wB (by decide) ?_ | refine qS rfl ?_ | refine wN rfl ?_)
  ·intro hall2
   refine qA (qK (v := .bool _) rfl) ?_
   refine qF ?_
   refine zI rfl (rfl) ?_
   refine zH 1 rfl ?_
   intro hq6 Eq6 _
   refine zH 2 rfl ?_
   intro hq7 Eq7 _
   refine qP (_ :: _ :: _ :: _ :: _ :: _) rfl ?_
   refine wU ?_
   refine ⟨(sn ++ [jx], dn, M2), trivial, rfl, rfl, (zP (zP (zP E_sn E_tn) Eq6) Eq7), ⟨T1, hI _ _ _ _ (zP Eq6 Eq7) U2, fun f => by rw [U3 f, S3 f, Met.snoc hx, Met.all (fun k hk => hall2 k (by rw [encs_len]; exact hk))]⟩, by first | omega | (dsimp only; omega), ?_⟩
   repeat (first | exact qU _ _ _ | refine wB (by decide) ?_ | refine qS rfl ?_ | refine wN rfl ?_)
 ·intro hall
  refine qA (qK (v := .bool _) rfl) ?_
  refine qF ?_
  refine zI rfl (rfl) ?_
  refine wU ?_
  refine qW (vs := []) Try.results45 trivial fun V => ?_
  obtain ⟨h9, E9, e9, V9⟩ := wl_shed [_, _, _, _, _] _ V
  exact ⟨h9, _, e9, V9, zP E_sn E9, done, fun f => by rw [S3 f, Met.all (fun k hk => hall k (by rw [encs_len]; exact hk)), mem_allFates], hI _ _ _ _ E9 S2⟩
theorem fates_ok (s : Season) (SV : SeasonV s) (A : Option Addr) (c mf : Nat) (fm : Nat → Nat) (fl : Nat → List Fl) (A' : Option Addr) (c' mf' : Nat) (fm' : Nat → Nat) (fl' : Nat → List Fl) (h : AH) (X : HalfX h s 1 A mf fm fl) (X' : HalfX h s 2 A' mf' fm' fl') :
  FnT Try.prog 31 #[.agg (halfC s 1 A c mf fm ++ halfC s 2 A' c' mf' fm').toArray] h (fun v h' => Iter2 Try.prog v h' (allFates s) fateV) := by
 refine wL Try.func31 rfl Try.ntmps31 rfl ?_
 refine qF ?_
 refine qC rfl ?_
 refine zF (v := .agg #[.slice _ _ _, .map _, .map _, .map _, .map _, .slice _ _ _, .map _, .map _, .map _, .map _]) (cs := [_, _, _, _, _, _, _, _, _, _]) rfl rfl fun b1 hb1 => ?_
 refine qH [_] rfl ?_
 refine qA (qE (v := _) rfl) ?_
 refine qF ?_
 refine qC rfl ?_
 refine qA (pv_makeFunc (vs := []) (ws := [_]) rfl rfl) ?_
 refine qA (qE (v := _) rfl) ?_
 refine wK ?_
 refine qW (vs := [_]) Try.results31 ⟨qR rfl rfl, trivial⟩ fun V => ?_
 exact ⟨(wE V), fates1_ok s SV A c mf fm fl A' c' mf' fm' fl' b1 _ (X.ext (wE V)) (X'.ext (wE V)) (wl_get V (i := 0) rfl)⟩
end Go.Proofs.Ytgjcepdhclmglaa
namespace Go.Proofs.Ytgjcepdhclmglaa
open Go Go.HL Go.Proofs Go.Wx
variable [Lvl]
set_option maxRecDepth 100000
def firstE (s : Season) : Int := knownM s []
def firstL (s : Season) : List Int := if firstE s = 0 then (List.range s.joints.length).map (firstM s) else []
def FirstI (s : Season) (j : Nat) (pre : Pv) (b9 b10 l : Nat) (r : Loop) (h0 : AH) (done : List Fate) (h : AH) (M : Pv) : Prop :=
 Ext h0 h ∧ M = pre ++ [some (b9, .cells #[.bool (done.any (isF s j))] 4 (0, 0)), some (b10, .cells #[.bool (done.any (noF s j))] 4 (0, 0)), some (l, obL r .ready none)]
theorem ask0 {h : AH} : ∀ (i : Nat) (g : Value) (e' : Int), ([] : List Value)[i]? = some g → ([] : List Int)[i]? = some e' → AskT g h e' := fun i g e' hg _ => by simp at hg
set_option maxHeartbeats 4000000 in
theorem First_ok (s : Season) (Sm : Small s) (A0 A1 A2 A3 : Option Addr) (c0 c1 c2 c3 : Nat) (h : AH) (R : SeasonR h A0 A1 A2 A3 s) :
  FnT Try.prog 12 #[seasonV A0 A1 A2 A3 c0 c1 c2 c3 s] h (fun v h' => ∃ w, v = .tuple #[w, .int .i64 (firstE s)] ∧ SlR h' 1 intC (firstL s) w) := by
 by_cases he : firstE s = 0
 ·have hk := knownM_zero he
  have SV := checkM_zero hk.1
  have hw6 := SV.b.w6
  have hj3 := SV.b.j3
  refine wL Try.func12 rfl Try.ntmps12 rfl ?_
  refine qF ?_
  refine qC rfl ?_
  refine zF (v := .agg #[.slice _ _ _, .slice _ _ _, .slice _ _ _, .slice _ _ _]) (cs := [_, _, _, _]) rfl rfl fun b1 hb1 => ?_
  refine qH [_] rfl ?_
  refine qA (qE (v := .slice _ _ _) rfl) ?_
  refine qA (qE (v := .int .i64 _) rfl) ?_
  refine qF ?_
  refine qC rfl ?_
  refine qX 0 (vs := [.slice _ _ _, .slice _ _ _, .slice _ _ _, .slice _ _ _]) rfl rfl rfl rfl rfl ?_
  refine wP (caps := []) (vs := [.agg #[.slice _ _ _, .slice _ _ _, .slice _ _ _, .slice _ _ _], .slice _ _ _]) rfl rfl rfl (known_yes s A0 A1 A2 A3 c0 c1 c2 c3 h R Sm.h0 Sm.h1 Sm.h2 Sm.h3 [] [] none 0 ⟨fun _ h => (by cases h), Rd.nil _ _⟩ rfl (by simp) ask0 he) ?_
  rintro _ h3 E3 ⟨A, c, mf, fm, fl, A', c', mf', fm', fl', rfl, X, X'⟩
  refine qA (qB (v := .tuple #[.agg #[.slice _ _ _, .map _, .map _, .map _, .map _, .slice _ _ _, .map _, .map _, .map _, .map _], .int .i64 _]) rfl) ?_
  refine qA (qK (v := .agg #[.slice _ _ _, .map _, .map _, .map _, .map _, .slice _ _ _, .map _, .map _, .map _, .map _]) rfl) ?_
  refine qA (qK (v := .int .i64 _) rfl) ?_
  refine wO (cs := [_, _, _, _, _, _, _, _, _, _]) rfl rfl fun b4 hb4 => ?_
  refine qH [_, _] rfl ?_
  refine qJ 1 (v := .agg #[.slice _ _ _, .map _, .map _, .map _, .map _, .slice _ _ _, .map _, .map _, .map _, .map _]) (vs := [_, _, _, _, _, _, _, _, _, _]) (c' := [_, _, _, _, _, _, _, _, _, _]) rfl rfl rfl rfl rfl rfl rfl rfl rfl ?_
  refine qH [_, _] rfl ?_
  refine qA (qE (v := .int .i64 _) rfl) ?_
  refine qF ?_
  refine qF ?_
  refine qC rfl ?_
  refine qA (qB (v := .int .i64 _) rfl) ?_
  refine qA (qK (v := .bool _) rfl) ?_
  refine zI rfl (by decide) ?_
  refine qT ?_
  refine qF ?_
  refine qC rfl ?_
  refine qA (qG rfl rfl rfl rfl 0 rfl) ?_
  refine qI 0 (v := .slice _ _ _) rfl rfl rfl rfl ?_
  refine qA (wV rfl rfl) ?_
  refine qA (qO rfl (by omega)) ?_
  refine wO (cs := [_]) rfl rfl fun b6 hb6 => ?_
  refine qH [_, _, _] rfl ?_
  refine qJ 2 (v := .int .i64 _) (vs := [_]) (c' := [_]) rfl rfl rfl rfl rfl rfl rfl rfl rfl ?_
  refine qH [_, _, _] rfl ?_
  refine qF ?_
  refine qC rfl ?_
  refine qA (qG rfl rfl rfl rfl 2 rfl) ?_
  refine qI 0 (v := .slice _ _ _) rfl rfl rfl rfl ?_
  refine qA (wV rfl rfl) ?_
  refine op_makeSlice (len := 0) (cap := s.joints.length) (zc := [_]) rfl rfl rfl rfl rfl rfl rfl rfl rfl (by omega) (by omega) rfl fun bo hbo => ?_
  refine qH [_, _, _, _] rfl ?_
  have ha0 : AccR 3 1 [] ⟨some (bo, _), some ⟨bo, 0, none⟩, 0, s.joints.length⟩ := .inr ⟨bo, 0, s.joints.length, (List.range (s.joints.length * 1)).map fun i => ([Value.int .i64 0] : List Value)[i % ([Value.int .i64 0] : List Value).length]!, by simp, rfl, rfl, by simp⟩
  refine qA (qE (v := .slice _ _ _) rfl) ?_
  refine qF ?_
  refine qF ?_
  refine qC rfl ?_
  refine qA (qG rfl rfl rfl rfl 2 rfl) ?_
  refine qI 0 (v := .slice _ _ _) rfl rfl rfl rfl ?_
  refine qA (wV rfl rfl) ?_
  refine qA (qB (v := .int .i64 _) rfl) ?_
  refine qN ?_
  refine xp_loopD [7, 8, 9, 10, 11, 12, 13, 14, 15, 17, 37, 38, 39, 40, 41, 42, 43, 44, 45, 46, 47, 48, 49, 50, 51, 52, 53, 54, 55, 56, 57, 58, 59, 60, 61, 62, 63, 64, 65, 66, 67, 68, 69, 70, 71, 72, 73, 74, 75, 76, 77, 78, 79, 80, 81, 82, 83, 84, 85, 86, 87, 88, 89, 90, 91, 92, 93, 94, 95, 96, 97, 98, 99, 100, 101, 102, 103, 104, 105, 106, 107, 108, 109, 110, 111, 112] 4 (α := Nat × Acc) (fun ⟨j, a⟩ => [(37, .int .i64 j), (7, .slice a.A a.n a.c)]) (fun ⟨j, a⟩ L => L.set 3 (a.p)) (fun ⟨j, a⟩ h_j => j ≤ s.joints.length ∧ AccR 3 1 (((List.range j).map (firstM s)).flatMap intC) a) (fun ⟨j, a⟩ => s.joints.length - j) ((0, ⟨some (bo, _), some ⟨bo, 0, none⟩, 0, s.joints.length⟩)) ⟨rfl, rfl, trivial⟩ (rfl) (⟨Nat.zero_le _, ha0⟩) (rfl) ?_
  rintro ⟨j, a⟩ T1 h_j E_j J_j D_j hD_j
  refine qP [_, _, _, _] rfl ?_
  obtain ⟨K1, K2⟩ := J_j
  refine qF ?_
  refine qC rfl ?_
  refine qA (qK (v := .bool _) rfl) ?_
  refine qF ?_
  refine wA rfl (fun ht => ?_) (fun ht => ?_)
  ·skip
   have hlt := ltI ht
   refine qT ?_
   refine qF ?_
   refine qN ?_
   refine qF ?_
   refine qC rfl ?_
   refine qA (qB (v := .int .i64 _) rfl) ?_
   refine wO (cs := [_]) rfl rfl fun b8 hb8 => ?_
   refine qH [_, _, _, _, _] rfl ?_
   refine qJ 4 (v := .int .i64 _) (vs := [_]) (c' := [_]) rfl rfl rfl rfl rfl rfl rfl rfl rfl ?_
   refine qH [_, _, _, _, _] rfl ?_
   refine qF ?_
   refine qC rfl ?_
   refine wO (cs := [_]) rfl rfl fun b9 hb9 => ?_
   refine qH [_, _, _, _, _, _] rfl ?_
   refine wO (cs := [_]) rfl rfl fun b10 hb10 => ?_
   refine qH [_, _, _, _, _, _, _] rfl ?_
   refine qJ 5 (v := .bool _) (vs := [_]) (c' := [_]) rfl rfl rfl rfl rfl rfl rfl rfl rfl ?_
   refine qH [_, _, _, _, _, _, _] rfl ?_
   refine qJ 6 (v := .bool _) (vs := [_]) (c' := [_]) rfl rfl rfl rfl rfl rfl rfl rfl rfl ?_
   refine qH [_, _, _, _, _, _, _] rfl ?_
   refine qF ?_
   refine qF ?_
   refine qC rfl ?_
   refine qX 1 (vs := [.slice _ _ _, .map _, .map _, .map _, .map _, .slice _ _ _, .map _, .map _, .map _, .map _]) rfl rfl rfl rfl rfl ?_
   refine wP (caps := []) (vs := [.agg #[.slice _ _ _, .map _, .map _, .map _, .map _, .slice _ _ _, .map _, .map _, .map _, .map _]]) rfl rfl rfl (fates_ok s SV A c mf fm fl A' c' mf' fm' fl' h_j (X.ext E_j) (X'.ext E_j)) ?_
   rintro y h4 E4 It
   refine qN ?_
   refine xp_rangeFunc rfl ?_
   intro r l lp htm hpr has hbd V0
   refine CallV.mono (It (.yield l) #[] #[] (FirstI s j [_, _, _, _, _] b9 b10 l lp h4) (fun k h1 h2 M E I => ⟨I.1.trans E, I.2⟩) ?_ h4 _ (Ext.refl _) ⟨Ext.refl _, rfl⟩ V0) ?_ (fun _ _ y => y)
   ·intro done f hc M hf I
    obtain ⟨E0, rfl⟩ := I
    have fb := allFates_b hw6 hf
    have fne : ∀ i, i < s.joints.length → listM (f.at i) ≠ [] := fun i hi => listM_ne (allFates_ne SV hf hi) (fb.at i)
    intro V
    refine callV_yield (wl_get V (i := 7) rfl) hpr rfl htm has hbd ?_
    refine round_enter (i := 7) (r := lp) ?_ V
    refine qP [_, _, _, _, _, _, _, _] rfl ?_
    refine qC rfl ?_
    refine wO (cs := [_, _, _]) rfl rfl fun b11 hb11 => ?_
    refine qH [_, _, _, _, _, _, _, _, _] rfl ?_
    refine qJ 8 (v := .agg #[.int .u64 _, .int .u64 _, .int .u64 _]) (vs := [_, _, _]) (c' := [_, _, _]) rfl rfl rfl rfl rfl rfl rfl rfl rfl ?_
    refine qH [_, _, _, _, _, _, _, _, _] rfl ?_
    refine ⟨rfl, none, rfl, ?_⟩
    refine qP [_, _, _, _, _, _, _, _, _] rfl ?_
    refine qN ?_
    refine qF ?_
    refine zB [] rfl rfl rfl ?_
    refine qL (i := 0) rfl (by decide +kernel) ?_
    refine qI 2 (v := .int .i64 _) rfl rfl rfl rfl ?_
    refine qD (i := 1) rfl (by decide +kernel) (qO rfl (by omega)) ?_
    refine qL (i := 2) rfl (by decide +kernel) ?_
    refine qI 2 (v := .int .i64 _) rfl rfl rfl rfl ?_
    refine qD (i := 3) rfl (by decide +kernel) (qO rfl (by omega)) ?_
    refine qD (i := 4) rfl (by decide +kernel) (qE (v := .int .i64 _) rfl) ?_
    refine qD (i := 5) rfl (by decide +kernel) (qE (v := .int .i64 _) rfl) ?_
    refine wW rfl ?_
    refine qF ?_
    refine qF ?_
    refine qC rfl ?_
    refine qA (qG rfl rfl rfl rfl 2 rfl) ?_
    refine qI 0 (v := .slice _ _ _) rfl rfl rfl rfl ?_
    refine qA (wV rfl rfl) ?_
    refine qA (qB (v := .int .i64 _) rfl) ?_
    refine qN ?_
    refine zN [12, 13, 14, 15, 50, 51, 52, 53, 54, 55, 56, 57, 58, 59, 60, 61, 62, 63, 64, 65, 66, 67, 68, 69, 70, 71, 72, 73] 9 (α := Nat) (fun i => [(50, .int .i64 i), (12, .int .i64 (soonP s f j i)), (13, .int .i64 (latP s f j i))]) (fun i => _) (fun i h_i => i ≤ s.joints.length) (fun i => s.joints.length - i) (0) ⟨rfl, intE (by show (s.heats.length : Int) - 1 + 1 = _; unfold soonP; omega), intE (by show (s.heats.length : Int) - 1 + 1 = _; unfold latP; omega), trivial⟩ (rfl) (Nat.zero_le _) ?_
    rintro i T2 h_i E_i J_i
    refine qP [_, _, _, _, _, _, _, _, _] rfl ?_
    refine qF ?_
    refine qC rfl ?_
    refine qA (qK (v := .bool _) rfl) ?_
    refine qF ?_
    refine wA rfl (fun hti => ?_) (fun hti => ?_)
    ·skip
     have hil := ltI hti
     have hi3 : i < 3 := by omega
     have fbi := fb.at i
     refine qT ?_
     refine qF ?_
     refine qN ?_
     refine qF ?_
     refine qC rfl ?_
     refine qA (qB (v := .int .i64 _) rfl) ?_
     refine qA (qE (v := .int .i64 _) rfl) ?_
     refine qF ?_
     refine qC rfl ?_
     refine qA (qB (v := .int .i64 _) rfl) ?_
     refine qA (pv_indexA rfl rfl rfl rfl (by omega) (by omega)) ?_
     refine qI 8 (v := .int .u64 (f.at i : Nat)) rfl rfl rfl (fate_arr f i hi3) ?_
     refine wP (caps := []) (vs := [.int .u64 _]) rfl rfl rfl (list_ok (f.at i) (by omega) h_i) ?_
     rintro _ h5 E5 ⟨B, cB, rfl, RB⟩
     refine qA (qE (v := .slice _ _ _) rfl) ?_
     refine qF ?_
     refine qC rfl ?_
     refine qA (qB (v := .int .i64 _) rfl) ?_
     refine qI 4 (v := .int .i64 _) rfl rfl rfl rfl ?_
     refine qA (qK (v := .bool _) rfl) ?_
     refine wA rfl (fun hij => ?_) (fun hij => ?_)
     ·skip
      have hne : i ≠ j := fun e => by subst e; simp at hij
      have hl0 : 0 < (listM (f.at i)).length := List.length_pos_iff.2 (fne i hil)
      have hl1 : (listM (f.at i)).length - 1 < (listM (f.at i)).length := by omega
      have hl7 : (listM (f.at i)).length ≤ 7 := listN_len (f.at i) 7
      obtain ⟨g, off, hB, hc0⟩ := RB.at (by omega) hl0
      obtain ⟨g', off', hB', hc1⟩ := RB.at (by omega) hl1
      have hix : (((listM (f.at i)).length : Int) - 1).toNat = (listM (f.at i)).length - 1 := by omega
      refine zB [] rfl rfl rfl ?_
      refine qD (i := 0) rfl (by decide +kernel) (qB (v := .int .i64 _) rfl) ?_
      refine qD (i := 1) rfl (by decide +kernel) (qB (v := .slice _ _ _) rfl) ?_
      refine qD (i := 2) rfl (by decide +kernel) (wM rfl hB rfl rfl rfl (by omega) (by omega)) ?_
      refine qL (i := 3) rfl (by decide +kernel) ?_
      refine qV (v := .int .i64 _) rfl rfl (hc0 0 _ rfl) ?_
      refine qD (i := 4) rfl (by decide +kernel) (pv_min rfl rfl) ?_
      refine qD (i := 5) rfl (by decide +kernel) (qB (v := .int .i64 _) rfl) ?_
      refine qD (i := 6) rfl (by decide +kernel) (qB (v := .slice _ _ _) rfl) ?_
      refine qD (i := 7) rfl (by decide +kernel) (qB (v := .slice _ _ _) rfl) ?_
      refine qD (i := 8) rfl (by decide +kernel) (wV rfl rfl) ?_
      refine qD (i := 9) rfl (by decide +kernel) (qO rfl (by omega)) ?_
      refine qD (i := 10) rfl (by decide +kernel) (wM rfl hB' rfl rfl rfl (by omega) (by omega)) ?_
      refine qL (i := 11) rfl (by decide +kernel) ?_
      refine qV (v := .int .i64 _) rfl rfl (by rw [hix]; exact hc1 0 _ rfl) ?_
      refine qD (i := 12) rfl (by decide +kernel) (pv_min rfl rfl) ?_
      refine qD (i := 13) rfl (by decide +kernel) (qE (v := .int .i64 _) rfl) ?_
      refine qD (i := 14) rfl (by decide +kernel) (qE (v := .int .i64 _) rfl) ?_
      refine wW rfl ?_
      refine qC rfl ?_
      refine qA (qO rfl (by omega)) ?_
      refine qA (qB (v := .int .i64 _) rfl) ?_
      refine ⟨i + 1, ⟨rfl, intE (by rw [soonP, if_neg hne]; congr 1; rw [List.headD_eq_head?_getD, List.head?_eq_getElem?, List.getElem?_eq_getElem hl0]; rfl), intE (by rw [latP, if_neg hne]; congr 1; rw [List.getLastD_eq_getLast?, List.getLast?_eq_getElem?, List.getElem?_eq_getElem hl1]; rfl), trivial⟩, rfl, rfl, (zP E_i E5), fun h3 E3 => by first | trivial | omega | (refine ⟨?_, ?_⟩ <;> omega), by first | omega | (dsimp only; omega), ?_⟩
      repeat (first | exact qU _ _ _ | refine wB (by decide) ?_ | refine qS rfl ?_ | refine wN rfl ?_)
     ·skip
      have hne : i = j := by simp at hij; omega
      refine qT ?_
      refine qC rfl ?_
      refine qA (qO rfl (by omega)) ?_
      refine qA (qB (v := .int .i64 _) rfl) ?_
      refine ⟨i + 1, ⟨rfl, intE (by rw [soonP, if_pos hne]), intE (by rw [latP, if_pos hne]), trivial⟩, rfl, rfl, (zP E_i E5), fun h3 E3 => by first | trivial | omega | (refine ⟨?_, ?_⟩ <;> omega), by first | omega | (dsimp only; omega), ?_⟩
      repeat (first | exact qU _ _ _ | refine wB (by decide) ?_ | refine qS rfl ?_ | refine wN rfl ?_)
    ·skip
     have hi : i = s.joints.length := by have := geI hti; omega
     subst hi
     have hj3' : j < 3 := by omega
     have fbj := fb.at j
     refine wU ?_
     refine qF ?_
     refine qC rfl ?_
     refine qI 4 (v := .int .i64 _) rfl rfl rfl rfl ?_
     refine qA (pv_indexA rfl rfl rfl rfl (by omega) (by omega)) ?_
     refine qI 8 (v := .int .u64 (f.at j : Nat)) rfl rfl rfl (fate_arr f j hj3') ?_
     refine wP (caps := []) (vs := [.int .u64 _]) rfl rfl rfl (list_ok (f.at j) (by omega) h_i) ?_
     rintro _ h5 E5 ⟨B, cB, rfl, RB⟩
     have hl7 : (listM (f.at j)).length ≤ 7 := listN_len (f.at j) 7
     refine qA (wV rfl rfl) ?_
     refine qA (qB (v := .int .i64 _) rfl) ?_
     refine qN ?_
     refine xp_loopL [17, 79, 80, 81, 82, 83, 84, 85, 86, 87, 88, 89, 90, 91, 92, 93, 94, 95, 96, 97, 98, 99, 100, 101, 102, 103, 104, 105] 9 (α := Nat) (fun t => [(79, .int .i64 t)]) (fun t L => (L.set 5 (some (b9, .cells #[.bool (done.any (isF s j) || ((listM (f.at j)).take t).any (isW s f j))] 4 (0, 0)))).set 6 (some (b10, .cells #[.bool (done.any (noF s j) || ((listM (f.at j)).take t).any (noW s f j))] 4 (0, 0)))) (fun t h_t => t ≤ (listM (f.at j)).length) (fun t => (listM (f.at j)).length - t) (0) ⟨rfl, trivial⟩ (by simp) (Nat.zero_le _) ?_
     rintro t T3 h_t E_t J_t
     refine qP [_, _, _, _, _, _, _, _, _] rfl ?_
     refine qF ?_
     refine qC rfl ?_
     refine qA (qK (v := .bool _) rfl) ?_
     refine qF ?_
     refine wA rfl (fun htt => ?_) (fun htt => ?_)
     ·skip
      have htl := ltI htt
      obtain ⟨g, off, hB, hct⟩ := (RB.ext E_t).at (by omega) htl
      refine qT ?_
      refine qF ?_
      refine qN ?_
      refine qF ?_
      refine qC rfl ?_
      refine qA (wM rfl hB rfl rfl rfl (by omega) (by omega)) ?_
      refine qV (v := .int .i64 _) rfl rfl ((hct) 0 _ rfl) ?_
      have htk : ((listM (f.at j)).take (t + 1)) = (listM (f.at j)).take t ++ [(listM (f.at j))[t]] := List.take_succ_eq_append_getElem htl
      refine qA (qE (v := .int .i64 _) rfl) ?_
      refine xp_cutB [83, 84, 85, 86, 87, 88, 89, 90, 91, 92, 93] 9 (α := Unit) (fun u => []) (fun u L => L.set 5 (some (b9, .cells #[.bool (done.any (isF s j) || ((listM (f.at j)).take (t + 1)).any (isW s f j))] 4 (0, 0)))) (fun u h_u => True) ?_ ?_
      ·skip
       have hall : (done.any (isF s j) || ((listM (f.at j)).take (t + 1)).any (isW s f j)) = ((done.any (isF s j) || ((listM (f.at j)).take t).any (isW s f j)) || isW s f j (listM (f.at j))[t]) := by rw [htk, List.any_append, ← Bool.or_assoc]; simp
       rcases Bool.eq_false_or_eq_true (done.any (isF s j) || ((listM (f.at j)).take t).any (isW s f j)) with hp | hp
       ·skip
        refine qC rfl ?_
        refine qI 5 (v := .bool _) rfl rfl rfl rfl ?_
        refine qA (qB (v := .bool _) rfl) ?_
        refine wQ rfl hp ?_
        refine wQ rfl hp ?_
        refine wQ rfl hp ?_
        refine wQ rfl hp ?_
        refine guard_un rfl ?_
        refine guard_un rfl ?_
        refine guard_un rfl ?_
        refine wQ rfl hp ?_
        refine qA (wX rfl hp (v := .bool _) rfl) ?_
        refine qJ 5 (v := .bool _) (vs := [_]) (c' := [_]) rfl rfl rfl rfl rfl rfl rfl rfl rfl ?_
        refine qH [_, _, _, _, _, _, _, _, _] rfl ?_
        refine ⟨(), trivial, rfl, by rw [hall, hp]; rfl, (Ext.refl _), fun h3 E3 => by first | trivial | omega | (refine ⟨?_, ?_⟩ <;> omega), ?_⟩
        repeat (first | exact zE _ _ | exact qU _ _ _ | refine wB (by decide) ?_ | refine qS rfl ?_ | refine wN rfl ?_)
       ·skip
        refine qC rfl ?_
        refine qI 5 (v := .bool _) rfl rfl rfl rfl ?_
        refine qA (qB (v := .bool _) rfl) ?_
        refine qQ rfl hp ?_
        refine qA (qB (v := .int .i64 _) rfl) ?_
        refine qQ rfl hp ?_
        refine qI 2 (v := .int .i64 _) rfl rfl rfl rfl ?_
        refine qQ rfl hp ?_
        refine qA (qK (v := .bool _) rfl) ?_
        refine qQ rfl hp ?_
        refine qA (qB (v := .bool _) rfl) ?_
        rcases Bool.eq_false_or_eq_true (decide ((listM (f.at j))[t] ≤ (s.heats.length : Int) - 1)) with hq | hq
        ·skip
         refine qQ rfl hq ?_
         refine qA (qB (v := .int .i64 _) rfl) ?_
         refine qQ rfl hq ?_
         refine qA (qB (v := .int .i64 _) rfl) ?_
         refine qQ rfl hq ?_
         refine qA (qK (v := .bool _) rfl) ?_
         refine qQ rfl hp ?_
         refine qA (wX rfl hq (v := .bool _) rfl) ?_
         refine qA (wY rfl hp (v := .bool _) rfl) ?_
         refine qJ 5 (v := .bool _) (vs := [_]) (c' := [_]) rfl rfl rfl rfl rfl rfl rfl rfl rfl ?_
         refine qH [_, _, _, _, _, _, _, _, _] rfl ?_
         refine ⟨(), trivial, rfl, by rw [hall, hp, isW, hq]; rfl, (Ext.refl _), fun h3 E3 => by first | trivial | omega | (refine ⟨?_, ?_⟩ <;> omega), ?_⟩
         repeat (first | exact zE _ _ | exact qU _ _ _ | refine wB (by decide) ?_ | refine qS rfl ?_ | refine wN rfl ?_)
        ·skip
         refine wQ rfl hq ?_
         refine wQ rfl hq ?_
         refine wQ rfl hq ?_
         refine qQ rfl hp ?_
         refine qA (wY rfl hq (v := .bool _) rfl) ?_
         refine qA (wY rfl hp (v := .bool _) rfl) ?_
         refine qJ 5 (v := .bool _) (vs := [_]) (c' := [_]) rfl rfl rfl rfl rfl rfl rfl rfl rfl ?_
         refine qH [_, _, _, _, _, _, _, _, _] rfl ?_
         refine ⟨(), trivial, rfl, by rw [hall, hp, isW, hq]; rfl, (Ext.refl _), fun h3 E3 => by first | trivial | omega | (refine ⟨?_, ?_⟩ <;> omega), ?_⟩
         repeat (first | exact zE _ _ | exact qU _ _ _ | refine wB (by decide) ?_ | refine qS rfl ?_ | refine wN rfl ?_)
      ·rintro u T4 h_u E_u J_u
       refine qP [_, _, _, _, _, _, _, _, _] rfl ?_
       have hall : (done.any (noF s j) || ((listM (f.at j)).take (t + 1)).any (noW s f j)) = ((done.any (noF s j) || ((listM (f.at j)).take t).any (noW s f j)) || noW s f j (listM (f.at j))[t]) := by rw [htk, List.any_append, ← Bool.or_assoc]; simp
       rcases Bool.eq_false_or_eq_true (done.any (noF s j) || ((listM (f.at j)).take t).any (noW s f j)) with hp | hp
       ·skip
        refine qC rfl ?_
        refine qI 6 (v := .bool _) rfl rfl rfl rfl ?_
        refine qA (qB (v := .bool _) rfl) ?_
        refine wQ rfl hp ?_
        refine wQ rfl hp ?_
        refine wQ rfl hp ?_
        refine qA (wX rfl hp (v := .bool _) rfl) ?_
        refine qA (qB (v := .bool _) rfl) ?_
        refine wQ rfl rfl ?_
        refine wQ rfl rfl ?_
        refine wQ rfl rfl ?_
        refine qA (wX rfl rfl (v := .bool _) rfl) ?_
        refine qJ 6 (v := .bool _) (vs := [_]) (c' := [_]) rfl rfl rfl rfl rfl rfl rfl rfl rfl ?_
        refine qH [_, _, _, _, _, _, _, _, _] rfl ?_
        refine qC rfl ?_
        refine qA (qO rfl (by omega)) ?_
        refine qA (qB (v := .int .i64 _) rfl) ?_
        refine ⟨t + 1, ⟨rfl, trivial⟩, rfl, by rw [hall, hp]; rfl, (zP E_t E_u), fun h3 E3 => by first | trivial | omega | (refine ⟨?_, ?_⟩ <;> omega), by first | omega | (dsimp only; omega), ?_⟩
        repeat (first | exact qU _ _ _ | refine wB (by decide) ?_ | refine qS rfl ?_ | refine wN rfl ?_)
       ·skip
        refine qC rfl ?_
        refine qI 6 (v := .bool _) rfl rfl rfl rfl ?_
        refine qA (qB (v := .bool _) rfl) ?_
        refine qQ rfl hp ?_
        refine qA (qB (v := .int .i64 _) rfl) ?_
        refine qQ rfl hp ?_
        refine qI 2 (v := .int .i64 _) rfl rfl rfl rfl ?_
        refine qQ rfl hp ?_
        refine qA (qK (v := .bool _) rfl) ?_
        refine qA (wY rfl hp (v := .bool _) rfl) ?_
        refine qA (qB (v := .bool _) rfl) ?_
        rcases Bool.eq_false_or_eq_true (decide ((listM (f.at j))[t] > (s.heats.length : Int) - 1)) with hq | hq
        ·skip
         refine wQ rfl hq ?_
         refine wQ rfl hq ?_
         refine wQ rfl hq ?_
         refine qA (wX rfl hq (v := .bool _) rfl) ?_
         refine qJ 6 (v := .bool _) (vs := [_]) (c' := [_]) rfl rfl rfl rfl rfl rfl rfl rfl rfl ?_
         refine qH [_, _, _, _, _, _, _, _, _] rfl ?_
         refine qC rfl ?_
         refine qA (qO rfl (by omega)) ?_
         refine qA (qB (v := .int .i64 _) rfl) ?_
         refine ⟨t + 1, ⟨rfl, trivial⟩, rfl, by rw [hall, hp, noW, hq]; rfl, (zP E_t E_u), fun h3 E3 => by first | trivial | omega | (refine ⟨?_, ?_⟩ <;> omega), by first | omega | (dsimp only; omega), ?_⟩
         repeat (first | exact qU _ _ _ | refine wB (by decide) ?_ | refine qS rfl ?_ | refine wN rfl ?_)
        ·skip
         refine qQ rfl hq ?_
         refine qA (qB (v := .int .i64 _) rfl) ?_
         refine qQ rfl hq ?_
         refine qA (qB (v := .int .i64 _) rfl) ?_
         refine qQ rfl hq ?_
         refine qA (qK (v := .bool _) rfl) ?_
         refine qA (wY rfl hq (v := .bool _) rfl) ?_
         refine qJ 6 (v := .bool _) (vs := [_]) (c' := [_]) rfl rfl rfl rfl rfl rfl rfl rfl rfl ?_
         refine qH [_, _, _, _, _, _, _, _, _] rfl ?_
         refine qC rfl ?_
         refine qA (qO rfl (by omega)) ?_
         refine qA (qB (v := .int .i64 _) rfl) ?_
         refine ⟨t + 1, ⟨rfl, trivial⟩, rfl, by rw [hall, hp, noW, hq]; rfl, (zP E_t E_u), fun h3 E3 => by first | trivial | omega | (refine ⟨?_, ?_⟩ <;> omega), by first | omega | (dsimp only; omega), ?_⟩
         repeat (first | exact qU _ _ _ | refine wB (by decide) ?_ | refine qS rfl ?_ | refine wN rfl ?_)
     ·skip
      have htl : t = (listM (f.at j)).length := by have := geI htt; omega
      subst htl
      refine wU ?_
      intro V2
      refine ⟨rfl, ⟨_, _, rfl⟩, ?_⟩
      have V3 := valid_set (o' := obL lp .ready none) V2 (i := 7) rfl
      obtain ⟨h9, E9, e9, V9⟩ := wl_drop [_] [_, _, _, _, _, _, _, _] V3
      refine ⟨h9, _, e9, V9, zP (zP (zP E_i E5) E_t) E9, rfl, zP (zP E0 (zP (zP E_i E5) E_t)) E9, ?_⟩
      rw [List.take_length, List.any_append, List.any_append]
      simp [isF, noF]
   ·rintro v H ⟨h', M', rfl, V', E', done, hdone, E0, rfl⟩
    refine ⟨h', [_, _, _, _, _, _, _], .ready, none, rfl, V', by simp, fun h'' E'' => ?_⟩
    refine qP [_, _, _, _, _, _, _] rfl ?_
    refine qC rfl ?_
    refine qA (qB (v := .slice _ _ _) rfl) ?_
    refine qI 5 (v := .bool _) rfl rfl rfl rfl ?_
    refine qI 6 (v := .bool _) rfl rfl rfl rfl ?_
    refine wP (caps := []) (vs := [.bool _, .bool _]) rfl rfl rfl (verdict_ok _ _ h'') ?_
    rintro _ h6 E6 rfl
    refine wG (zc := [_]) (vs := [(0, .int .i64 _)]) (cs := [_]) rfl rfl rfl rfl rfl rfl rfl fun b110 hb110 => ?_
    refine qH [_, _, _, _, _, _, _, _] rfl ?_
    refine zK 3 K2 rfl rfl rfl (fun V => rdP V (i := 7) rfl) rfl rfl rfl rfl rfl rfl rfl rfl rfl (by omega) rfl (by rw [wS (m := 1) (fun _ _ => rfl)]; simp; omega) fun a2 h5a E5a ha2 => ?_
    refine qH [_, _, _, _, _, _, _, _] rfl ?_
    refine qA (qE (v := .slice _ _ _) rfl) ?_
    refine qC rfl ?_
    refine qA (qO rfl (by omega)) ?_
    refine qA (qB (v := .int .i64 _) rfl) ?_
    refine ⟨(j + 1, a2), ⟨rfl, rfl, trivial⟩, (by first | exact hD_j | exact allMarks_cons hD_j), rfl, (zP (zP (zP (zP (zP E_j E4) E') E'') E6) E5a), fun h3 E3 => ⟨hlt, by rw [List.range_succ, List.map_append, List.flatMap_append]; rw [any_same hdone, any_same hdone] at ha2; exact ha2⟩, by first | omega | (dsimp only; omega), ?_⟩
    repeat (first | exact qU _ _ _ | refine wB (by decide) ?_ | refine qS rfl ?_ | refine wN rfl ?_)
  ·skip
   have hj : j = s.joints.length := by have := geI ht; omega
   subst hj
   refine wU ?_
   refine qF ?_
   refine qC rfl ?_
   refine qA (qB (v := .slice _ _ _) rfl) ?_
   refine qA (qE (v := .slice _ _ _) rfl) ?_
   refine qA (qE (v := .int .i64 _) rfl) ?_
   refine wK ?_
   refine res_listM (vs := [_, _]) hD_j Try.results12 ⟨qR rfl rfl, qR rfl rfl, trivial⟩ fun hM EM V => ?_
   refine ⟨zP (zP E3 E_j) (zP EM (wE V)), _, by rw [he]; rfl, ?_⟩
   rw [firstL, if_pos he]
   exact AccP.row (i := 3) K2 (by omega) (fun _ _ => rfl) V rfl
 ·skip
  refine wL Try.func12 rfl Try.ntmps12 rfl ?_
  refine qF ?_
  refine qC rfl ?_
  refine zF (v := .agg #[.slice _ _ _, .slice _ _ _, .slice _ _ _, .slice _ _ _]) (cs := [_, _, _, _]) rfl rfl fun b1 hb1 => ?_
  refine qH [_] rfl ?_
  refine qA (qE (v := .slice _ _ _) rfl) ?_
  refine qA (qE (v := .int .i64 _) rfl) ?_
  refine qF ?_
  refine qC rfl ?_
  refine qX 0 (vs := [.slice _ _ _, .slice _ _ _, .slice _ _ _, .slice _ _ _]) rfl rfl rfl rfl rfl ?_
  refine wP (caps := []) (vs := [.agg #[.slice _ _ _, .slice _ _ _, .slice _ _ _, .slice _ _ _], .slice _ _ _]) rfl rfl rfl (known_no s A0 A1 A2 A3 c0 c1 c2 c3 h R Sm.h0 Sm.h1 Sm.h2 Sm.h3 [] [] none 0 ⟨fun _ h => (by cases h), Rd.nil _ _⟩ rfl (by simp) ask0 he) ?_
  rintro _ h3 E3 rfl
  refine qA (qB (v := .tuple #[.agg #[.slice _ _ _, .map _, .map _, .map _, .map _, .slice _ _ _, .map _, .map _, .map _, .map _], .int .i64 _]) rfl) ?_
  refine qA (qK (v := .agg #[.slice _ _ _, .map _, .map _, .map _, .map _, .slice _ _ _, .map _, .map _, .map _, .map _]) rfl) ?_
  refine qA (qK (v := .int .i64 _) rfl) ?_
  refine wO (cs := [_, _, _, _, _, _, _, _, _, _]) rfl rfl fun b4 hb4 => ?_
  refine qH [_, _] rfl ?_
  refine qJ 1 (v := .agg #[.slice _ _ _, .map _, .map _, .map _, .map _, .slice _ _ _, .map _, .map _, .map _, .map _]) (vs := [_, _, _, _, _, _, _, _, _, _]) (c' := [_, _, _, _, _, _, _, _, _, _]) rfl rfl rfl rfl rfl rfl rfl rfl rfl ?_
  refine qH [_, _] rfl ?_
  refine qA (qE (v := .int .i64 _) rfl) ?_
  refine qF ?_
  refine qF ?_
  refine qC rfl ?_
  refine qA (qB (v := .int .i64 _) rfl) ?_
  refine qA (qK (v := .bool _) rfl) ?_
  refine xp_condT rfl (by simpa [firstE] using he) ?_
  refine qF ?_
  refine qC rfl ?_
  refine qA (qB (v := .int .i64 _) rfl) ?_
  refine qA (qE (v := .slice _ _ _) rfl) ?_
  refine qA (qE (v := .int .i64 _) rfl) ?_
  refine wK ?_
  refine qW (vs := [_, _]) Try.results12 ⟨qR rfl rfl, qR rfl rfl, trivial⟩ fun V => ?_
  refine ⟨(zP E3 (wE V)), _, rfl, none, 0, ?_, ?_⟩
  ·rw [firstL, if_neg he]; rfl
  ·rw [firstL, if_neg he]; exact ⟨fun _ h => (by cases h), Rd.nil _ _⟩
end Go.Proofs.Ytgjcepdhclmglaa
namespace Go.Wx
open Go Go.HL
variable [Lvl]
def dangerM (s : Season) : Nat → Nat
 | 0 => 0
 | k + 1 => dangerM s k ||| failsM s k
def failingM (s : Season) : Nat := uptoM (dangerM s s.joints.length) (s.heats.length - 1)
theorem dangerM_lt {s : Season} (h6 : s.heats.length ≤ 6) : ∀ k, dangerM s k < 2 ^ 7
 | 0 => by simp [dangerM]
 | k + 1 => Nat.or_lt_two_pow (dangerM_lt h6 k) (failsM_lt h6 k)
def lookAt (n d : Int) (l : List Int) : Int := l.foldl (fun e i => if d ≤ i then min e i else e) n
def unseenOf (n : Int) (ds ins : List Int) : Int := ds.foldl (fun a d => max a (lookAt n d ins - d)) 0
theorem lookAt_bd (d : Int) : ∀ (l : List Int) (n : Int), min n d ≤ lookAt n d l ∧ lookAt n d l ≤ n
 | [], n => by simp only [lookAt, List.foldl_nil]; omega
 | i :: l, n => by
  have := lookAt_bd d l (if d ≤ i then min n i else n)
  rw [show lookAt n d (i :: l) = lookAt (if d ≤ i then min n i else n) d l from rfl]
  by_cases h : d ≤ i
  ·rw [if_pos h] at this ⊢; omega
  ·rw [if_neg h] at this ⊢; omega
theorem take_snoc {α : Type} {l : List α} {k : Nat} (h : k < l.length) : l.take (k + 1) = l.take k ++ [l[k]] := List.take_succ_eq_append_getElem h
theorem lookAt_snoc (n d i : Int) (l : List Int) : lookAt n d (l ++ [i]) = if d ≤ i then min (lookAt n d l) i else lookAt n d l := by simp [lookAt, List.foldl_append]
theorem unseenOf_snoc (n d : Int) (ds ins : List Int) : unseenOf n (ds ++ [d]) ins = max (unseenOf n ds ins) (lookAt n d ins - d) := by simp [unseenOf, List.foldl_append]
theorem listM_bd {m : Nat} {z : Int} (h : z ∈ listM m) : 0 ≤ z ∧ z ≤ 6 := by
 obtain ⟨i, rfl, h1, _⟩ := listN_mem h
 omega
def combsM (n : Nat) : Nat → Nat → List Int → List (List Int)
 | 0, _, begun => [begun]
 | m + 1, a, begun => (List.range' a (n - a)).flatMap fun i => combsM n m (i + 1) (begun ++ [(i : Int)])
def grownM (f : Nat → List (List Int)) (p : List Int → Bool) (a : Nat) (o : Option (List Int)) : Nat → Option (List Int)
 | 0 => o
 | k + 1 => (grownM f p a o k).or ((f (a + k)).find? p)
theorem grownM_eq (f : Nat → List (List Int)) (p : List Int → Bool) (a : Nat) (o : Option (List Int)) : ∀ k, grownM f p a o k = o.or (((List.range' a k).flatMap f).find? p)
 | 0 => by simp [grownM]
 | k + 1 => by rw [grownM, grownM_eq f p a o k, List.range'_1_concat, List.flatMap_append, List.find?_append, Option.or_assoc]; simp
theorem grownM_stop {f : Nat → List (List Int)} {p : List Int → Bool} {a : Nat} {o : Option (List Int)} {k : Nat} (h : (grownM f p a o k).isSome = true) : ∀ j, grownM f p a o (k + j) = grownM f p a o k
 | 0 => rfl
 | j + 1 => by
  show (grownM f p a o (k + j)).or _ = _
  rw [grownM_stop h j]
  obtain ⟨x, hx⟩ := Option.isSome_iff_exists.1 h
  rw [hx]; rfl
def fewestP (n : Nat) (p : List Int → Bool) (k : Nat) : Option (List Int) := ((List.range k).flatMap fun m => combsM n m 0 []).find? p
theorem fewestP_succ (n : Nat) (p : List Int → Bool) (k : Nat) : fewestP n p (k + 1) = (fewestP n p k).or ((combsM n k 0 []).find? p) := by
 unfold fewestP
 rw [List.range_succ, List.flatMap_append, List.find?_append]
 simp
theorem fewestP_stop {n : Nat} {p : List Int → Bool} {k : Nat} (h : (fewestP n p k).isSome = true) : ∀ j, fewestP n p (k + j) = fewestP n p k
 | 0 => rfl
 | j + 1 => by
  rw [← Nat.add_assoc, fewestP_succ, fewestP_stop h j]
  obtain ⟨x, hx⟩ := Option.isSome_iff_exists.1 h
  rw [hx]; rfl
end Go.Wx
