/- An own logic over the model, its walks and its plain laws, joined of parts BB W23 W24 Ta W25 Tb Tc Td U CC W26 Te W27 W28 Tf Tg W29 W30 W31 Th W32 Ti W33 Tj W34 W35 Tk Tl W37 W38 Tm W39 W40 W41 W46 W47 Tn To Tp Tq Tr W48 HC HE. Conditions: as each theorem states. -/
import Derived.Test.YtgjcepdhclmglaaLa4
import Derived.Test.YtgjcepdhclmglaaLa1
import Derived.Test.YtgjcepdhclmglaaLa2
set_option linter.all false
namespace Go.HL
open Go
variable [Lvl]
section
variable {P : Program} {n : Nat} {ops : Array Oper} {d : Option Tmp} {op : Op} {ty : TypeId} {ps : String} {af : Array Edge} {os : List Oper} {K : Sl → Pv → AH → Prop} {E : Value → Sl → Pv → AH → Prop} {S : Sl} {L : Pv} {h : AH}
theorem wrap_u64 (z : Int) : ∃ r : Nat, r < 2 ^ 64 ∧ IntKind.wrap .u64 z = (r : Int) := by
 have e : IntKind.wrap .u64 z = z % 2 ^ 64 := by simp [IntKind.wrap, IntKind.bits, IntKind.signed]
 have h1 : 0 ≤ z % 2 ^ 64 := Int.emod_nonneg _ (by decide)
 have h2 : z % 2 ^ 64 < 2 ^ 64 := Int.emod_lt_of_pos _ (by decide)
 exact ⟨(z % 2 ^ 64).toNat, by omega, by rw [e]; omega⟩
theorem op_some {z : Int} (hv : pev P (execOp (ev n S) ⟨d, op, ty, ps, af, none⟩) = some (.value (.int .u64 (IntKind.wrap .u64 z))))
  (k : ∀ r : Nat, r < 2 ^ 64 → wpL P n ops os K E (put S d (.int .u64 (r : Int))) L h) : wpL P n ops (⟨d, op, ty, ps, af, none⟩ :: os) K E S L h := by
 obtain ⟨r, hr, e⟩ := wrap_u64 z
 rw [e] at hv
 exact qA hv (k r hr)
theorem dw_some {mask : List Bool} {X : Sl → AH → Prop} {dn ac : List Nat} {i : Nat} {z : Int} (hoi : ops[i]? = some ⟨d, op, ty, ps, af, none⟩) (hok : okS ops dn ac i = true) (hv : pev P (execOp (ev n S) ⟨d, op, ty, ps, af, none⟩) = some (.value (.int .u64 (IntKind.wrap .u64 z))))
  (k : ∀ r : Nat, r < 2 ^ 64 → Dw P n ops mask X (i :: dn) ac (put S d (.int .u64 (r : Int))) L h) : Dw P n ops mask X dn ac S L h := by
 obtain ⟨r, hr, e⟩ := wrap_u64 z
 rw [e] at hv
 exact qD hoi hok hv (k r hr)
theorem pv_rem {t u : TypeId} {x y : Operand} {a b : Nat} {b' : Int} (hx : ev n S x = .int .u64 (a : Int)) (hy : ev n S y = .int .u64 b') (eb : b' = b) (hb : 0 < b) :
  pev P (execOp (ev n S) ⟨d, .binOp .rem t x y u, ty, ps, af, none⟩) = some (.value (.int .u64 ((a % b : Nat) : Int))) := by
 subst eb
 have h0 : ¬ ((b : Nat) : Int) = 0 := by omega
 simp only [execOp, hx, hy, binOp, Op.intDiv, if_neg h0]
 rfl
end
end Go.HL
namespace Go.Proofs.Ytgjcepdhclmglaa
open Go Go.HL Go.Proofs Go.Wx
variable [Lvl]
set_option maxRecDepth 100000
theorem step_ok (b x : Nat) (h : AH) : FnM Try.prog (.func (.func 25) #[] ([] : List Value).toArray) [.pointer (some ⟨b, 0, none⟩)] h [some (b, .cells #[.int .u64 (x : Int)] 67 (0, 0))]
  (fun v h' M' => ∃ x' r : Nat, M' = [some (b, .cells #[.int .u64 (x' : Int)] 67 (0, 0))] ∧ v = .int .u64 (r : Int)) := by
 refine fnM_body rfl rfl Try.func25 rfl Try.ntmps25 rfl ?_
 refine qF ?_
 refine qC rfl ?_
 refine qA (qE (v := .int .u64 _) rfl) ?_
 refine qF ?_
 refine qC rfl ?_
 refine qA (qB (v := .pointer (some ⟨b, 0, none⟩)) rfl) ?_
 refine qA (qB (v := .pointer (some ⟨b, 0, none⟩)) rfl) ?_
 refine qA (qK (v := .pointer (some ⟨b, 0, none⟩)) rfl) ?_
 refine qA (qG rfl rfl rfl rfl 0 rfl) ?_
 refine qI 0 (v := .int .u64 _) rfl rfl rfl rfl ?_
 refine op_some rfl fun r1 hr1 => ?_
 refine op_some rfl fun r2 hr2 => ?_
 refine qA (qK (v := .pointer (some ⟨b, 0, none⟩)) rfl) ?_
 refine qA (qG rfl rfl rfl rfl 0 rfl) ?_
 refine qJ 0 (v := .int .u64 _) (vs := [_]) (c' := [_]) rfl rfl rfl rfl rfl rfl rfl rfl rfl ?_
 refine qH [_] rfl ?_
 refine qF ?_
 refine qC rfl ?_
 refine qA (qB (v := .pointer (some ⟨b, 0, none⟩)) rfl) ?_
 refine qA (qK (v := .pointer (some ⟨b, 0, none⟩)) rfl) ?_
 refine qA (qG rfl rfl rfl rfl 0 rfl) ?_
 refine qI 0 (v := .int .u64 _) rfl rfl rfl rfl ?_
 refine qA (qE (v := .int .u64 _) rfl) ?_
 refine qF ?_
 refine qC rfl ?_
 refine qA (qB (v := .int .u64 _) rfl) ?_
 refine qA (qB (v := .int .u64 _) rfl) ?_
 refine qA (pv_shr _ 33 (.inr rfl) rfl rfl rfl rfl (by omega)) ?_
 refine op_some rfl fun r3 hr3 => ?_
 refine op_some rfl fun r4 hr4 => ?_
 refine qA (qE (v := .int .u64 _) rfl) ?_
 refine qF ?_
 refine qC rfl ?_
 refine qA (qB (v := .int .u64 _) rfl) ?_
 refine qA (qB (v := .int .u64 _) rfl) ?_
 refine qA (pv_shr _ 33 (.inr rfl) rfl rfl rfl rfl (by omega)) ?_
 refine op_some rfl fun r5 hr5 => ?_
 refine op_some rfl fun r6 hr6 => ?_
 refine qA (qE (v := .int .u64 _) rfl) ?_
 refine qF ?_
 refine qC rfl ?_
 refine qA (qB (v := .int .u64 _) rfl) ?_
 refine qA (qB (v := .int .u64 _) rfl) ?_
 refine qA (pv_shr _ 33 (.inr rfl) rfl rfl rfl rfl (by omega)) ?_
 refine op_some rfl fun r7 hr7 => ?_
 refine qA (qE (v := .int .u64 _) rfl) ?_
 refine wK ?_
 refine qW (vs := [_]) Try.results25 ⟨qR rfl rfl, trivial⟩ fun V => ?_
 exact ⟨_, [_], rfl, V, (Ext.refl _), r2, r7, rfl, rfl⟩
theorem Upto_ok (b x : Nat) (n : Int) (hn : n < 2 ^ 40) (h : AH) : FnM Try.prog (.func (.func 7) #[] ([] : List Value).toArray) [.pointer (some ⟨b, 0, none⟩), .int .i64 n] h [some (b, .cells #[.int .u64 (x : Int)] 67 (0, 0))]
  (fun v h' M' => ∃ (x' : Nat) (k : Int), M' = [some (b, .cells #[.int .u64 (x' : Int)] 67 (0, 0))] ∧ v = .int .i64 k ∧ 0 ≤ k ∧ k ≤ max n 0) := by
 refine fnM_body rfl rfl Try.func7 rfl Try.ntmps7 rfl ?_
 refine qF ?_
 refine qC rfl ?_
 refine qA (qE (v := .int .i64 _) rfl) ?_
 refine qF ?_
 refine qF ?_
 refine qC rfl ?_
 refine qA (qB (v := .int .i64 _) rfl) ?_
 refine qA (qK (v := .bool _) rfl) ?_
 refine wA rfl (fun ht => ?_) (fun ht => ?_)
 ·skip
  refine qF ?_
  refine qC rfl ?_
  refine qA (qE (v := .int .i64 _) rfl) ?_
  refine wK ?_
  refine qW (vs := [_]) Try.results7 ⟨qR rfl rfl, trivial⟩ fun V => ?_
  exact ⟨_, [_], rfl, V, (Ext.refl _), x, 0, rfl, rfl, by omega, by omega⟩
 ·skip
  have h1 : 1 ≤ n := by simpa using ht
  refine qT ?_
  refine qF ?_
  refine qC rfl ?_
  refine qA (qB (v := .pointer (some ⟨b, 0, none⟩)) rfl) ?_
  refine zL [] [_] [] (vs := _) rfl rfl rfl ((step_ok b x h)) ?_
  rintro _ h2 _ E2 ⟨x2, r, rfl, rfl⟩
  refine qH [_] rfl ?_
  refine qA (pv_shr _ 11 (.inr rfl) rfl rfl rfl rfl (by omega)) ?_
  refine qA (qB (v := .int .i64 _) rfl) ?_
  refine qA (qO rfl (by omega)) ?_
  refine qA (pv_val (intE (show IntKind.wrap .u64 (n + 1) = (((n + 1).toNat : Nat) : Int) by rw [IntWalk.u64_in _ (by omega)]; omega)) rfl) ?_
  refine qA (pv_rem (b := (n + 1).toNat) rfl rfl rfl (by omega)) ?_
  have hm : r / 2 ^ 11 % (n + 1).toNat < (n + 1).toNat := Nat.mod_lt _ (by omega)
  refine qA (pv_val (intE (show IntKind.wrap .i64 ((r / 2 ^ 11 % (n + 1).toNat : Nat) : Int) = ((r / 2 ^ 11 % (n + 1).toNat : Nat) : Int) by rw [IntWalk.i64_in _ (by omega)])) rfl) ?_
  refine qA (qE (v := .int .i64 _) rfl) ?_
  refine wK ?_
  refine qW (vs := [_]) Try.results7 ⟨qR rfl rfl, trivial⟩ fun V => ?_
  exact ⟨_, [_], rfl, V, E2, x2, _, rfl, rfl, by omega, by omega⟩
theorem Within_ok (b x : Nat) (lo hi : Int) (h1 : -2 ^ 30 ≤ lo) (h2 : lo ≤ hi) (h3 : hi ≤ 2 ^ 30) (h : AH) : FnM Try.prog (.func (.func 21) #[] ([] : List Value).toArray) [.pointer (some ⟨b, 0, none⟩), .int .i64 lo, .int .i64 hi] h [some (b, .cells #[.int .u64 (x : Int)] 67 (0, 0))]
  (fun v h' M' => ∃ (x' : Nat) (k : Int), M' = [some (b, .cells #[.int .u64 (x' : Int)] 67 (0, 0))] ∧ v = .int .i64 k ∧ lo ≤ k ∧ k ≤ hi) := by
 refine fnM_body rfl rfl Try.func21 rfl Try.ntmps21 rfl ?_
 refine qF ?_
 refine qC rfl ?_
 refine qA (qE (v := .int .i64 _) rfl) ?_
 refine qF ?_
 refine qC rfl ?_
 refine qA (qB (v := .int .i64 _) rfl) ?_
 refine qA (qB (v := .pointer (some ⟨b, 0, none⟩)) rfl) ?_
 refine qA (qB (v := .int .i64 _) rfl) ?_
 refine qA (qB (v := .int .i64 _) rfl) ?_
 refine qA (qO rfl (by omega)) ?_
 refine zL [] [_] [] (vs := [.pointer _, .int .i64 _]) rfl rfl rfl ((Upto_ok b x (hi - lo) (by omega) h)) ?_
 rintro _ h2 _ E2 ⟨x2, k, rfl, rfl, k1, k2⟩
 refine qH [_] rfl ?_
 refine qA (qO rfl (by omega)) ?_
 refine qA (qE (v := .int .i64 _) rfl) ?_
 refine wK ?_
 refine qW (vs := [_]) Try.results21 ⟨qR rfl rfl, trivial⟩ fun V => ?_
 exact ⟨_, [_], rfl, V, E2, x2, lo + k, rfl, rfl, by omega, by omega⟩
theorem Of_ok (b x : Nat) (l : List Int) (hl : 0 < l.length) (hl2 : l.length < 2 ^ 20) (A : Option Addr) (c : Nat) (h : AH) (R : Row h 1 intC A l) : FnM Try.prog (.func (.func 23) #[] ([] : List Value).toArray) [.pointer (some ⟨b, 0, none⟩), .slice A l.length c] h [some (b, .cells #[.int .u64 (x : Int)] 67 (0, 0))]
  (fun v h' M' => ∃ (x' : Nat) (k : Int), M' = [some (b, .cells #[.int .u64 (x' : Int)] 67 (0, 0))] ∧ v = .int .i64 k ∧ k ∈ l) := by
 refine fnM_body rfl rfl Try.func23 rfl Try.ntmps23 rfl ?_
 refine qF ?_
 refine qC rfl ?_
 refine qA (qE (v := .int .i64 _) rfl) ?_
 refine qF ?_
 refine qF ?_
 refine qC rfl ?_
 refine qA (qB (v := .slice _ _ _) rfl) ?_
 refine qA (wV rfl rfl) ?_
 refine qA (qK (v := .bool _) rfl) ?_
 refine zI rfl (by first | (rw [decide_eq_false_iff_not]; omega) | (rw [beq_eq_false_iff_ne]; omega)) ?_
 refine qT ?_
 refine qF ?_
 refine qC rfl ?_
 refine qA (qB (v := .slice _ _ _) rfl) ?_
 refine qA (qB (v := .pointer (some ⟨b, 0, none⟩)) rfl) ?_
 refine qA (qB (v := .slice _ _ _) rfl) ?_
 refine qA (wV rfl rfl) ?_
 refine qA (qO rfl (by omega)) ?_
 refine zL [] [_] [] (vs := [.pointer _, .int .i64 _]) rfl rfl rfl ((Upto_ok b x (l.length - 1) (by omega) h)) ?_
 rintro _ h2 _ E2 ⟨x2, k, rfl, rfl, k1, k2⟩
 refine qH [_] rfl ?_
 obtain ⟨q, rfl⟩ : ∃ q : Nat, k = q := ⟨k.toNat, by omega⟩
 have hq : q < l.length := by omega
 obtain ⟨g, off, hA, hc⟩ := (R.ext E2).at (by omega) hq
 refine qA (wM rfl hA rfl rfl rfl (by omega) (by omega)) ?_
 refine qV (v := .int .i64 _) rfl rfl ((hc) 0 _ rfl) ?_
 refine qA (qE (v := .int .i64 _) rfl) ?_
 refine wK ?_
 refine qW (vs := [_]) Try.results23 ⟨qR rfl rfl, trivial⟩ fun V => ?_
 exact ⟨_, [_], rfl, V, E2, x2, l[q], rfl, rfl, List.getElem_mem hq⟩
theorem Near_ok (b x : Nat) (a lo hi d : Int) (ha : -2 ^ 30 ≤ a ∧ a ≤ 2 ^ 30) (hd : 0 ≤ d ∧ d ≤ 2 ^ 30) (h : AH) : FnM Try.prog (.func (.func 22) #[] ([] : List Value).toArray) [.pointer (some ⟨b, 0, none⟩), .int .i64 a, .int .i64 lo, .int .i64 hi, .int .i64 d] h [some (b, .cells #[.int .u64 (x : Int)] 67 (0, 0))]
  (fun v h' M' => ∃ (x' : Nat) (u w : Int), M' = [some (b, .cells #[.int .u64 (x' : Int)] 67 (0, 0))] ∧ v = .agg #[.int .i64 (max lo (a - u)), .int .i64 (min hi (a + w))] ∧ 0 ≤ u ∧ u ≤ d ∧ 0 ≤ w ∧ w ≤ d) := by
 refine fnM_body rfl rfl Try.func22 rfl Try.ntmps22 rfl ?_
 refine qF ?_
 refine qC rfl ?_
 refine wO (cs := [_, _]) rfl rfl fun b10 hb10 => ?_
 refine qH [_, _] rfl ?_
 refine qF ?_
 refine qC rfl ?_
 refine qA (qB (v := .int .i64 _) rfl) ?_
 refine qA (qB (v := .int .i64 _) rfl) ?_
 refine qA (qB (v := .pointer (some ⟨b, 0, none⟩)) rfl) ?_
 refine qA (qB (v := .pointer (some ⟨b, 0, none⟩)) rfl) ?_
 refine qA (qB (v := .int .i64 _) rfl) ?_
 refine zL [] [_] [_] (vs := [.pointer _, .int .i64 _]) rfl rfl rfl ((Upto_ok b x d (by omega) h)) ?_
 rintro _ h2 _ E2 ⟨x2, k2, rfl, rfl, k21, k22⟩
 refine qH [_, _] rfl ?_
 refine wG (zc := [_]) (vs := [(0, .int .i64 _), (1, .int .i64 _), (2, .int .i64 _)]) (cs := [_, _, _]) rfl rfl rfl rfl rfl rfl rfl fun b17 hb17 => ?_
 refine qH [_, _, _] rfl ?_
 refine wp_pub 2 rfl rfl ?_
 intro h3 E3 p3
 refine qH [_, _, _] rfl ?_
 refine zL [] [_] [_, _] (vs := [.pointer _, .slice _ _ _]) rfl rfl rfl ((Of_ok b x2 [0, 0, k2] (by simp) (by simp) _ _ h3 (row_of_block (enc := intC) (m := 1) (l := [0, 0, k2]) (fun _ _ => rfl) p3))) ?_
 rintro _ h4 _ E4 ⟨x4, k4, rfl, rfl, k4m⟩
 refine qH [_, _, _] rfl ?_
 have k4b : 0 ≤ k4 ∧ k4 ≤ d := by simp at k4m; omega
 refine qA (qO rfl (by omega)) ?_
 refine qA (pv_max rfl rfl) ?_
 refine qA (qB (v := .int .i64 _) rfl) ?_
 refine qA (qB (v := .int .i64 _) rfl) ?_
 refine qA (qB (v := .pointer (some ⟨b, 0, none⟩)) rfl) ?_
 refine qA (qB (v := .pointer (some ⟨b, 0, none⟩)) rfl) ?_
 refine qA (qB (v := .int .i64 _) rfl) ?_
 refine zL [] [_] [_, _] (vs := [.pointer _, .int .i64 _]) rfl rfl rfl ((Upto_ok b x4 d (by omega) h4)) ?_
 rintro _ h5 _ E5 ⟨x5, k5, rfl, rfl, k51, k52⟩
 refine qH [_, _, _] rfl ?_
 refine wG (zc := [_]) (vs := [(0, .int .i64 _), (1, .int .i64 _), (2, .int .i64 _)]) (cs := [_, _, _]) rfl rfl rfl rfl rfl rfl rfl fun b27 hb27 => ?_
 refine qH [_, _, _, _] rfl ?_
 refine wp_pub 3 rfl rfl ?_
 intro h6 E6 p6
 refine qH [_, _, _, _] rfl ?_
 refine zL [] [_] [_, _, _] (vs := [.pointer _, .slice _ _ _]) rfl rfl rfl ((Of_ok b x5 [0, 0, k5] (by simp) (by simp) _ _ h6 (row_of_block (enc := intC) (m := 1) (l := [0, 0, k5]) (fun _ _ => rfl) p6))) ?_
 rintro _ h7 _ E7 ⟨x7, k7, rfl, rfl, k7m⟩
 refine qH [_, _, _, _] rfl ?_
 have k7b : 0 ≤ k7 ∧ k7 ≤ d := by simp at k7m; omega
 refine qA (qO rfl (by omega)) ?_
 refine qA (pv_min rfl rfl) ?_
 refine qA (pv_build (zc := [_, _]) (vs := [(0, .int .i64 _), (1, .int .i64 _)]) (cs := [_, _]) rfl rfl rfl rfl rfl rfl) ?_
 refine qJ 1 (v := .agg #[.int .i64 _, .int .i64 _]) (vs := [_, _]) (c' := [_, _]) rfl rfl rfl rfl rfl rfl rfl rfl rfl ?_
 refine qH [_, _, _, _] rfl ?_
 refine wK ?_
 refine qW (vs := [_]) Try.results22 ⟨resV_agg 1 rfl rfl rfl rfl rfl (vs := [.int .i64 _, .int .i64 _]) rfl, trivial⟩ fun V => ?_
 obtain ⟨h9, E9, e9, V9⟩ := wl_drop [_, _, _] [_] V
 exact ⟨h9, _, e9, V9, zP (zP (zP (zP (zP (zP E2 E3) E4) E5) E6) E7) E9, x7, k4, k7, rfl, rfl, k4b.1, k4b.2, k7b.1, k7b.2⟩
theorem NewPot_ok (l : List Int) (hl : l.length < 2 ^ 63) (A : Option Addr) (c : Nat) (h : AH) (R : Row h 1 intC A l) : FnM Try.prog (.func (.func 4) #[] ([] : List Value).toArray) [.slice A l.length c] h []
  (fun v h' M' => ∃ b x : Nat, M' = [some (b, .cells #[.int .u64 (x : Int)] 67 (0, 0))] ∧ v = .pointer (some ⟨b, 0, none⟩)) := by
 refine fnM_body rfl rfl Try.func4 rfl Try.ntmps4 rfl ?_
 refine qF ?_
 refine qC rfl ?_
 refine qA (qE (v := .pointer _) rfl) ?_
 refine qF ?_
 refine qC rfl ?_
 refine qA (pv_build (zc := [_]) (vs := [(0, .int .u64 _)]) (cs := [_]) rfl rfl rfl rfl rfl rfl) ?_
 refine zF (v := .agg #[.int .u64 _]) (cs := [_]) rfl rfl fun b6 hb6 => ?_
 refine qH [_] rfl ?_
 refine qA (qE (v := .pointer (some ⟨b6, 0, none⟩)) rfl) ?_
 refine qF ?_
 refine qF ?_
 refine qC rfl ?_
 refine qA (qE (v := .int .i64 _) rfl) ?_
 refine qN ?_
 refine xp_loopL [4, 7, 8, 9, 10, 11, 12, 13, 14, 15, 16, 17, 18, 19, 20, 21, 22, 23, 24, 25, 26, 27, 28, 29, 30, 31, 32, 33, 34, 35, 36, 37, 38, 39] 1 (α := Nat × Nat) (fun ⟨k, x⟩ => [(4, .int .i64 k)]) (fun ⟨k, x⟩ L => L.set 0 (some (b6, .cells #[.int .u64 (x : Int)] 67 (0, 0)))) (fun ⟨k, x⟩ h_k => k ≤ l.length) (fun ⟨k, x⟩ => l.length - k) ((0, 2611923443488327891)) ⟨rfl, trivial⟩ (rfl) (Nat.zero_le _) ?_
 rintro ⟨k, x⟩ T1 h_k E_k J_k
 refine qP [_] rfl ?_
 refine qF ?_
 refine qF ?_
 refine qC rfl ?_
 refine qA (qB (v := .int .i64 _) rfl) ?_
 refine qA (qB (v := .slice _ _ _) rfl) ?_
 refine qA (wV rfl rfl) ?_
 refine qA (qK (v := .bool _) rfl) ?_
 refine wA rfl (fun ht => ?_) (fun ht => ?_)
 ·skip
  have hlt := ltI ht
  obtain ⟨g, off, hA, hc⟩ := (R.ext E_k).at (by omega) hlt
  refine qT ?_
  refine qF ?_
  refine qN ?_
  refine qF ?_
  refine zB [] rfl rfl rfl ?_
  refine qD (i := 0) rfl (by decide +kernel) (qB (v := .pointer (some ⟨b6, 0, none⟩)) rfl) ?_
  refine qD (i := 1) rfl (by decide +kernel) (qB (v := .pointer (some ⟨b6, 0, none⟩)) rfl) ?_
  refine qD (i := 2) rfl (by decide +kernel) (qK (v := .pointer (some ⟨b6, 0, none⟩)) rfl) ?_
  refine qD (i := 3) rfl (by decide +kernel) (qG rfl rfl rfl rfl 0 rfl) ?_
  refine qL (i := 4) rfl (by decide +kernel) ?_
  refine qI 0 (v := .int .u64 _) rfl rfl rfl rfl ?_
  refine qD (i := 5) rfl (by decide +kernel) (qB (v := .slice _ _ _) rfl) ?_
  refine qD (i := 6) rfl (by decide +kernel) (qB (v := .int .i64 _) rfl) ?_
  refine qD (i := 7) rfl (by decide +kernel) (wM rfl hA rfl rfl rfl (by omega) (by omega)) ?_
  refine qL (i := 8) rfl (by decide +kernel) ?_
  refine qV (v := .int .i64 _) rfl rfl ((hc) 0 _ rfl) ?_
  refine dw_some (i := 9) rfl (by decide +kernel) rfl fun r1 hr1 => ?_
  refine dw_some (i := 10) rfl (by decide +kernel) rfl fun r2 hr2 => ?_
  refine dw_some (i := 11) rfl (by decide +kernel) rfl fun r3 hr3 => ?_
  refine qD (i := 12) rfl (by decide +kernel) (qK (v := .pointer (some ⟨b6, 0, none⟩)) rfl) ?_
  refine qD (i := 13) rfl (by decide +kernel) (qG rfl rfl rfl rfl 0 rfl) ?_
  refine wI (i := 14) rfl (by decide +kernel) (by decide +kernel) ?_
  refine qJ 0 (v := .int .u64 _) (vs := [_]) (c' := [_]) rfl rfl rfl rfl rfl rfl rfl rfl rfl ?_
  refine qZ [_] rfl ?_
  refine wW rfl ?_
  refine zB [] rfl rfl rfl ?_
  refine qD (i := 0) rfl (by decide +kernel) (qB (v := .pointer (some ⟨b6, 0, none⟩)) rfl) ?_
  refine qD (i := 1) rfl (by decide +kernel) (qB (v := .pointer (some ⟨b6, 0, none⟩)) rfl) ?_
  refine qD (i := 2) rfl (by decide +kernel) (qK (v := .pointer (some ⟨b6, 0, none⟩)) rfl) ?_
  refine qD (i := 3) rfl (by decide +kernel) (qG rfl rfl rfl rfl 0 rfl) ?_
  refine qL (i := 4) rfl (by decide +kernel) ?_
  refine qI 0 (v := .int .u64 _) rfl rfl rfl rfl ?_
  refine qD (i := 5) rfl (by decide +kernel) (qB (v := .pointer (some ⟨b6, 0, none⟩)) rfl) ?_
  refine qD (i := 6) rfl (by decide +kernel) (qK (v := .pointer (some ⟨b6, 0, none⟩)) rfl) ?_
  refine qD (i := 7) rfl (by decide +kernel) (qG rfl rfl rfl rfl 0 rfl) ?_
  refine qL (i := 8) rfl (by decide +kernel) ?_
  refine qI 0 (v := .int .u64 _) rfl rfl rfl rfl ?_
  refine qD (i := 9) rfl (by decide +kernel) (pv_shr _ 32 (.inr rfl) rfl rfl rfl rfl (by omega)) ?_
  refine dw_some (i := 10) rfl (by decide +kernel) rfl fun r4 hr4 => ?_
  refine qD (i := 11) rfl (by decide +kernel) (qK (v := .pointer (some ⟨b6, 0, none⟩)) rfl) ?_
  refine qD (i := 12) rfl (by decide +kernel) (qG rfl rfl rfl rfl 0 rfl) ?_
  refine wI (i := 13) rfl (by decide +kernel) (by decide +kernel) ?_
  refine qJ 0 (v := .int .u64 _) (vs := [_]) (c' := [_]) rfl rfl rfl rfl rfl rfl rfl rfl rfl ?_
  refine qZ [_] rfl ?_
  refine wW rfl ?_
  refine qC rfl ?_
  refine qA (qB (v := .int .i64 _) rfl) ?_
  refine qA (qO rfl (by omega)) ?_
  refine qA (qE (v := .int .i64 _) rfl) ?_
  refine ⟨(k + 1, r4), ⟨rfl, trivial⟩, rfl, rfl, E_k, fun h3 E3 => hlt, by first | omega | (dsimp only; omega), ?_⟩
  repeat (first | exact qU _ _ _ | refine wB (by decide) ?_ | refine qS rfl ?_ | refine wN rfl ?_)
 ·skip
  refine wU ?_
  refine qF ?_
  refine qC rfl ?_
  refine qA (qB (v := .pointer (some ⟨b6, 0, none⟩)) rfl) ?_
  refine qA (qE (v := .pointer (some ⟨b6, 0, none⟩)) rfl) ?_
  refine wK ?_
  refine qW (vs := [_]) Try.results4 ⟨qR rfl rfl, trivial⟩ fun V => ?_
  exact ⟨_, [_], rfl, V, E_k, b6, x, rfl, rfl⟩
end Go.Proofs.Ytgjcepdhclmglaa
namespace Go.Proofs.Ytgjcepdhclmglaa
open Go Go.HL Go.Proofs Go.Wx
variable [Lvl]
set_option maxRecDepth 100000
theorem SeenOf_ok (b x : Nat) (W dn : Nat) (hW : 0 < W) (hW2 : W < 2 ^ 20) (f : List Int) (hf : 0 < f.length) (hf2 : f.length < 2 ^ 20) (HA DA FA : Option Addr) (hc dc fc : Nat) (h : AH) (R : Row h 1 intC FA f) :
  FnM Try.prog (.func (.func 24) #[] ([] : List Value).toArray) [.pointer (some ⟨b, 0, none⟩), .agg #[.slice HA W hc, .slice DA dn dc, .slice FA f.length fc]] h [some (b, .cells #[.int .u64 (x : Int)] 67 (0, 0))]
  (fun v h' M' => ∃ (x' : Nat) (r : Seen), M' = [some (b, .cells #[.int .u64 (x' : Int)] 67 (0, 0))] ∧ v = .agg (seenC r).toArray ∧ 0 ≤ r.joint ∧ r.joint < f.length ∧ 0 ≤ r.week ∧ r.week < W ∧ r.failed = decide (f.getD r.joint.toNat 0 ≤ r.week)) := by
 refine fnM_body rfl rfl Try.func24 rfl Try.ntmps24 rfl ?_
 refine qF ?_
 refine qC rfl ?_
 refine zF (v := .agg #[.slice _ _ _, .slice _ _ _, .slice _ _ _]) (cs := [_, _, _]) rfl rfl fun b3 hb3 => ?_
 refine qH [_, _] rfl ?_
 refine wO (cs := [_, _, _]) rfl rfl fun b4 hb4 => ?_
 refine qH [_, _, _] rfl ?_
 refine qF ?_
 refine zB [true, false, false] rfl rfl rfl ?_
 refine qD (i := 0) rfl (by decide +kernel) (qB (v := .pointer (some ⟨b, 0, none⟩)) rfl) ?_
 refine qD (i := 1) rfl (by decide +kernel) (qG rfl rfl rfl rfl 2 rfl) ?_
 refine qL (i := 2) rfl (by decide +kernel) ?_
 refine qI 1 (v := .slice _ _ _) rfl rfl rfl rfl ?_
 refine qD (i := 3) rfl (by decide +kernel) (wV rfl rfl) ?_
 refine qD (i := 4) rfl (by decide +kernel) (qO rfl (by omega)) ?_
 refine qD (i := 6) rfl (by decide +kernel) (qB (v := .pointer (some ⟨b, 0, none⟩)) rfl) ?_
 refine qD (i := 7) rfl (by decide +kernel) (qG rfl rfl rfl rfl 0 rfl) ?_
 refine qL (i := 8) rfl (by decide +kernel) ?_
 refine qI 1 (v := .slice _ _ _) rfl rfl rfl rfl ?_
 refine qD (i := 9) rfl (by decide +kernel) (wV rfl rfl) ?_
 refine qD (i := 10) rfl (by decide +kernel) (qO rfl (by omega)) ?_
 refine zD (i := 5) rfl (by decide +kernel) ?_
 refine zL [] [_] [_, _] (vs := [.pointer _, .int .i64 _]) rfl rfl rfl ((Upto_ok b x (f.length - 1) (by omega) h)) ?_
 rintro _ h2 _ E2 ⟨x2, k, rfl, rfl, k1, k2⟩
 refine ⟨ext_wlm E2 _, ?_⟩
 refine qZ [_, _, _] rfl ?_
 refine wI (i := 11) rfl (by decide +kernel) (by decide +kernel) ?_
 refine zL [] [_] [_, _] (vs := [.pointer _, .int .i64 _]) rfl rfl rfl ((Upto_ok b x2 (W - 1) (by omega) h2)) ?_
 rintro _ h3 _ E3 ⟨x3, w, rfl, rfl, w1, w2⟩
 refine qZ [_, _, _] rfl ?_
 obtain ⟨q, rfl⟩ : ∃ q : Nat, k = q := ⟨k.toNat, by omega⟩
 have hq : q < f.length := by omega
 obtain ⟨g, off, hA, hcq⟩ := (R.ext (zP E2 E3)).at (by omega) hq
 refine qD (i := 12) rfl (by decide +kernel) (pv_build (zc := [_, _, _]) (vs := [(0, .int .i64 _), (1, .int .i64 _)]) (cs := [_, _, _]) rfl rfl rfl rfl rfl rfl) ?_
 refine zD (i := 13) rfl (by decide +kernel) ?_
 refine wO (cs := [_, _, _]) rfl rfl fun b5 hb5 => ?_
 refine ⟨ext_newM hb5 _, ?_⟩
 refine qZ [_, _, _, _] rfl ?_
 refine wI (i := 14) rfl (by decide +kernel) (by decide +kernel) ?_
 refine qJ 3 (v := .agg #[.int .i64 _, .int .i64 _, .bool _]) (vs := [_, _, _]) (c' := [_, _, _]) rfl rfl rfl rfl rfl rfl rfl rfl rfl ?_
 refine qZ [_, _, _, _] rfl ?_
 refine wW rfl ?_
 refine qF ?_
 refine zB [] rfl rfl rfl ?_
 refine qD (i := 0) rfl (by decide +kernel) (qG rfl rfl rfl rfl 2 rfl) ?_
 refine qL (i := 1) rfl (by decide +kernel) ?_
 refine qI 1 (v := .slice _ _ _) rfl rfl rfl rfl ?_
 refine qD (i := 2) rfl (by decide +kernel) (qG rfl rfl rfl rfl 0 rfl) ?_
 refine qL (i := 3) rfl (by decide +kernel) ?_
 refine qI 3 (v := .int .i64 _) rfl rfl rfl rfl ?_
 refine qD (i := 4) rfl (by decide +kernel) (wM rfl hA rfl rfl rfl (by omega) (by omega)) ?_
 refine qL (i := 5) rfl (by decide +kernel) ?_
 refine qV (v := .int .i64 _) rfl rfl ((hcq) 0 _ rfl) ?_
 refine qD (i := 6) rfl (by decide +kernel) (qG rfl rfl rfl rfl 1 rfl) ?_
 refine qL (i := 7) rfl (by decide +kernel) ?_
 refine qI 3 (v := .int .i64 _) rfl rfl rfl rfl ?_
 refine qD (i := 8) rfl (by decide +kernel) (qK (v := .bool _) rfl) ?_
 refine qD (i := 9) rfl (by decide +kernel) (qG rfl rfl rfl rfl 2 rfl) ?_
 refine wI (i := 10) rfl (by decide +kernel) (by decide +kernel) ?_
 refine qJ 3 (v := .bool _) (vs := [_]) (c' := [_, _, _]) rfl rfl rfl rfl rfl rfl rfl rfl rfl ?_
 refine qZ [_, _, _, _] rfl ?_
 refine wW rfl ?_
 refine qF ?_
 refine qC rfl ?_
 refine qX 3 (vs := [.int .i64 _, .int .i64 _, .bool _]) rfl rfl rfl rfl rfl ?_
 refine qJ 2 (v := .agg #[.int .i64 _, .int .i64 _, .bool _]) (vs := [_, _, _]) (c' := [_, _, _]) rfl rfl rfl rfl rfl rfl rfl rfl rfl ?_
 refine qH [_, _, _, _] rfl ?_
 refine wK ?_
 refine qW (vs := [_]) Try.results24 ⟨resV_agg 2 rfl rfl rfl rfl rfl (vs := [.int .i64 _, .int .i64 _, .bool _]) rfl, trivial⟩ fun V => ?_
 obtain ⟨h9, E9, e9, V9⟩ := wl_drop [_, _, _] [_] V
 refine ⟨h9, _, e9, V9, zP (zP E2 E3) E9, x3, ⟨q, w, decide (f[q] ≤ w)⟩, rfl, rfl, by simp, by simp; omega, w1, by simp; omega, ?_⟩
 simp [List.getD_eq_getElem?_getD, List.getElem?_eq_getElem hq]
end Go.Proofs.Ytgjcepdhclmglaa
namespace Go.Wx
open Go Go.HL
variable [Lvl]
def NearR (t lo hi d : Int) (r : Rg) : Prop := ∃ u w : Int, 0 ≤ u ∧ u ≤ d ∧ 0 ≤ w ∧ w ≤ d ∧ r = ⟨max lo (t - u), min hi (t + w)⟩
structure NearL (ts : List Int) (rs : List Rg) : Prop where
 len : rs.length = ts.length
 at' : ∀ (i : Nat) t r, ts[i]? = some t → rs[i]? = some r → NearR t (-50) 100 1 r
theorem NearL.nil : NearL [] [] := ⟨rfl, fun i t r h => by simp at h⟩
theorem NearL.snoc {ts : List Int} {rs : List Rg} (n : NearL ts rs) {t : Int} {r : Rg} (h : NearR t (-50) 100 1 r) : NearL (ts ++ [t]) (rs ++ [r]) := by
 refine ⟨by simp [n.len], fun i t' r' h1 h2 => ?_⟩
 by_cases hi : i < ts.length
 ·rw [List.getElem?_append_left hi] at h1
  rw [List.getElem?_append_left (by rw [n.len]; exact hi)] at h2
  exact n.at' i t' r' h1 h2
 ·have hl := (List.getElem?_eq_some_iff.1 h1).1
  have hi2 : i = ts.length := by simp at hl; omega
  subst hi2
  rw [List.getElem?_append_right (by omega)] at h1
  rw [List.getElem?_append_right (by rw [n.len]; omega)] at h2
  simp [n.len] at h1 h2
  subst h1 h2
  exact h
def coldN (x : List Int) (lo : Int) (k : Nat) : Nat := ((x.take k).filter fun t => decide (t ≤ lo)).length
def failW (x : List Int) (hi lo many life : Int) (w : Nat) : Bool := decide (x.getD w 0 ≥ hi) || decide ((w : Int) = life) || (decide (x.getD w 0 ≤ lo) && decide ((coldN x lo (w + 1) : Int) = many))
def failP (x : List Int) (hi lo many life : Int) : Nat → Nat
 | 0 => x.length
 | k + 1 => if failW x hi lo many life (x.length - (k + 1)) then x.length - (k + 1) else failP x hi lo many life k
def failT (x : List Int) (hi lo many life : Int) : Nat := failP x hi lo many life x.length
theorem coldN_succ {x : List Int} {lo : Int} {k : Nat} (hk : k < x.length) : coldN x lo (k + 1) = coldN x lo k + if x[k] ≤ lo then 1 else 0 := by
 unfold coldN
 rw [take_snoc hk, List.filter_append, List.length_append]
 by_cases h : x[k] ≤ lo <;> simp [h]
theorem coldN_le (x : List Int) (lo : Int) (k : Nat) : coldN x lo k ≤ k := by
 unfold coldN
 exact Nat.le_trans (List.length_filter_le _ _) (by simp; omega)
structure JointT (ht dt : List Int) (j : Joint) (f : Int) (hi lo many life : Int) : Prop where
 k : (j.kind = 1 ∧ 25 ≤ hi ∧ hi ≤ 38 ∧ -5 ≤ lo ∧ lo ≤ 8) ∨ (j.kind = 2 ∧ 60 ≤ hi ∧ hi ≤ 72 ∧ 28 ≤ lo ∧ lo ≤ 42)
 m : 1 ≤ many ∧ many ≤ 3
 l : 0 ≤ life ∧ life ≤ 9
 h1 : NearR hi (-50) 100 1 j.high
 h2 : NearR lo (-50) 100 1 j.low
 h3 : NearR many 1 6 1 j.weeks
 h4 : NearR life 0 9 2 j.life
 f : f = (failT (if j.kind = 1 then ht else dt) hi lo many life : Nat)
structure JointsT (ht dt : List Int) (js : List Joint) (fs : List Int) : Prop where
 len : fs.length = js.length
 at' : ∀ (i : Nat) j f, js[i]? = some j → fs[i]? = some f → ∃ hi lo many life, JointT ht dt j f hi lo many life
theorem JointsT.nil {ht dt : List Int} : JointsT ht dt [] [] := ⟨rfl, fun i j f h => by simp at h⟩
theorem JointsT.snoc {ht dt : List Int} {js : List Joint} {fs : List Int} (n : JointsT ht dt js fs) {j : Joint} {f hi lo many life : Int} (h : JointT ht dt j f hi lo many life) : JointsT ht dt (js ++ [j]) (fs ++ [f]) := by
 refine ⟨by simp [n.len], fun i j' f' h1 h2 => ?_⟩
 by_cases hi' : i < js.length
 ·rw [List.getElem?_append_left hi'] at h1
  rw [List.getElem?_append_left (by rw [n.len]; exact hi')] at h2
  exact n.at' i j' f' h1 h2
 ·have hl := (List.getElem?_eq_some_iff.1 h1).1
  have hi2 : i = js.length := by simp at hl; omega
  subst hi2
  rw [List.getElem?_append_right (by omega)] at h1
  rw [List.getElem?_append_right (by rw [n.len]; omega)] at h2
  simp [n.len] at h1 h2
  subst h1 h2
  exact ⟨_, _, _, _, h⟩
def SeenT (w : Nat) (fs : List Int) (r : Seen) : Prop := 0 ≤ r.joint ∧ r.joint < fs.length ∧ 0 ≤ r.week ∧ r.week < w ∧ r.failed = decide (fs.getD r.joint.toNat 0 ≤ r.week)
structure SeasonT (weeks joints reports : Nat) (s : Season) (ht dt fs : List Int) : Prop where
 w1 : 1 ≤ ht.length
 ww : ht.length ≤ weeks
 dl : dt.length = ht.length
 hn : NearL ht s.heats
 dn : NearL dt s.damps
 hb : ∀ t ∈ ht, -5 ≤ t ∧ t ≤ 35
 db : ∀ t ∈ dt, 30 ≤ t ∧ t ≤ 70
 jl : s.joints.length ≤ joints
 js : JointsT ht dt s.joints fs
 rl : s.reports.length ≤ reports
 rs : ∀ r ∈ s.reports, SeenT ht.length fs r
structure WA where
 i : Int
 x : Nat
 ht : List Int
 dt : List Int
 hs : List Rg
 ds : List Rg
 a1 : Acc
 a2 : Acc
 a3 : Acc
 a4 : Acc
structure WOk (weeks : Nat) (q : WA) : Prop where
 i0 : 0 ≤ q.i
 iw : q.i + q.ht.length ≤ weeks
 pos : 1 ≤ q.i + q.ht.length
 dl : q.dt.length = q.ht.length
 hn : NearL q.ht q.hs
 dn : NearL q.dt q.ds
 hb : ∀ t ∈ q.ht, -5 ≤ t ∧ t ≤ 35
 db : ∀ t ∈ q.dt, 30 ≤ t ∧ t ≤ 70
end Go.Wx
namespace Go.Proofs.Ytgjcepdhclmglaa
open Go Go.HL Go.Proofs Go.Wx
variable [Lvl]
set_option maxRecDepth 100000
structure WAc (q : WA) : Prop where
 r1 : AccR 3 1 (q.ht.flatMap intC) q.a1
 r2 : AccR 3 1 (q.dt.flatMap intC) q.a2
 r3 : AccR 41 2 (q.hs.flatMap rgC) q.a3
 r4 : AccR 41 2 (q.ds.flatMap rgC) q.a4
theorem memS {α : Type} {l : List α} {p : α → Prop} (h : ∀ x ∈ l, p x) {y : α} (hy : p y) : ∀ x ∈ l ++ [y], p x := fun x hx => by
 rcases List.mem_append.1 hx with h1 | h1
 ·exact h x h1
 ·rw [List.mem_singleton.1 h1]; exact hy
structure CutJ where
 x : Nat
 hi : Int
 lo : Int
 A : Option Addr
 c : Nat
 l : List Int
theorem perm_two {α : Type} (l1 l2 l3 : List α) (p q : α) : (l1 ++ p :: (l2 ++ q :: l3)).Perm (p :: q :: (l1 ++ (l2 ++ l3))) := by
 refine List.perm_middle.trans (List.Perm.cons p ?_)
 rw [← List.append_assoc, ← List.append_assoc]
 exact List.perm_middle
theorem wl_two {h : AH} {a p q : Option (Nat × Obj)} (l1 l2 l3 : Pv) (V : Valid h (a :: (l1 ++ p :: (l2 ++ q :: l3)))) : ∃ h', Ext h h' ∧ wl h (a :: (l1 ++ p :: (l2 ++ q :: l3))) = wl h' [a, p, q] ∧ Valid h' [a, p, q] := by
 obtain ⟨e, V'⟩ := wl_perm (L' := [a, p, q] ++ (l1 ++ (l2 ++ l3))) (((perm_two l1 l2 l3 p q).cons a).filterMap _) V
 obtain ⟨h', E, e2, V2⟩ := wl_drop (l1 ++ (l2 ++ l3)) [a, p, q] V'
 exact ⟨h', E, e.trans e2, V2⟩
def wa0 (i : Int) (x : Nat) : WA := ⟨i, x, [], [], [], [], acc0, acc0, acc0, acc0⟩
set_option maxHeartbeats 8000000 in
theorem SeasonOf_okM (b x weeks joints reports : Nat) (hw : 1 ≤ weeks) (hw2 : weeks ≤ 6) (hj : joints ≤ 3) (hr : reports ≤ 100) (h : AH) :
  FnM Try.prog (.func (.func 5) #[] ([] : List Value).toArray) [.pointer (some ⟨b, 0, none⟩), .int .i64 weeks, .int .i64 joints, .int .i64 reports] h [some (b, .cells #[.int .u64 (x : Int)] 67 (0, 0))]
  (fun v h' M' => ∃ (x' : Nat) (s : Season) (ht dt fs : List Int) (u w : Value) (a5 a7 : Acc), M' = [some (b, .cells #[.int .u64 (x' : Int)] 67 (0, 0)), a5.p, a7.p] ∧ v = .tuple #[u, w] ∧ SeasonT weeks joints reports s ht dt fs
   ∧ AccR 43 9 (s.joints.flatMap jointC) a5 ∧ AccR 36 3 (s.reports.flatMap seenC) a7
   ∧ (∃ A0 c0 A1 c1, u = .agg #[.slice A0 s.heats.length c0, .slice A1 s.damps.length c1, .slice a5.A s.joints.length a5.c, .slice a7.A s.reports.length a7.c] ∧ Row h' 2 rgC A0 s.heats ∧ Row h' 2 rgC A1 s.damps)
   ∧ ∃ HA hc DA dc FA fc, w = .agg #[.slice HA ht.length hc, .slice DA dt.length dc, .slice FA fs.length fc] ∧ Row h' 1 intC HA ht ∧ Row h' 1 intC DA dt ∧ Row h' 1 intC FA fs) := by
 refine fnM_body rfl rfl Try.func5 rfl Try.ntmps5 rfl ?_
 refine qF ?_
 refine qC rfl ?_
 refine wO (cs := [_, _, _, _]) rfl rfl fun b8 hb8 => ?_
 refine qH [_, _] rfl ?_
 refine wO (cs := [_, _, _]) rfl rfl fun b9 hb9 => ?_
 refine qH [_, _, _] rfl ?_
 refine qF ?_
 refine qC rfl ?_
 refine wO (cs := [_, _, _, _]) rfl rfl fun b10 hb10 => ?_
 refine qH [_, _, _, _] rfl ?_
 refine qF ?_
 refine qC rfl ?_
 refine wO (cs := [_, _, _]) rfl rfl fun b11 hb11 => ?_
 refine qH [_, _, _, _, _] rfl ?_
 refine goes_more ?_
 refine qP [_, _, _, _, _, _] rfl ?_
 refine goes_more ?_
 refine qP [_, _, _, _, _, _, _] rfl ?_
 refine goes_more ?_
 refine qP [_, _, _, _, _, _, _, _] rfl ?_
 refine goes_more ?_
 refine qP [_, _, _, _, _, _, _, _, _] rfl ?_
 refine qF ?_
 refine qF ?_
 refine qC rfl ?_
 refine qA (qB (v := .pointer (some ⟨b, 0, none⟩)) rfl) ?_
 refine qA (qB (v := .int .i64 _) rfl) ?_
 refine zL [] [_] [_, _, _, _, _, _, _, _] (vs := [.pointer _, .int .i64 _, .int .i64 _]) rfl rfl rfl ((Within_ok b x 1 weeks (by omega) (by omega) (by omega) h)) ?_
 rintro _ h1 _ E1 ⟨x1, i0, rfl, rfl, i01, i02⟩
 refine qH [_, _, _, _, _, _, _, _, _] rfl ?_
 refine qA (qE (v := .int .i64 _) rfl) ?_
 refine qN ?_
 refine xp_loopL [12, 13, 14, 30, 31, 32, 33, 34, 35, 36, 37, 38, 39, 40, 41, 42, 43, 44, 45, 46, 47, 48, 49, 50, 51, 52, 53, 54, 55, 56, 57, 58, 59, 60, 61, 62, 63, 64, 65] 9 (α := WA) (fun q => [(12, .int .i64 q.i)]) (fun q L => ((((((L.set 0 (some (b, .cells #[.int .u64 (q.x : Int)] 67 (0, 0)))).set 3 (some (b10, .cells #[.slice q.a3.A q.a3.n q.a3.c, .slice q.a4.A q.a4.n q.a4.c, .slice none 0 0, .slice none 0 0] 29 (0, 0)))).set 4 (some (b11, .cells #[.slice q.a1.A q.a1.n q.a1.c, .slice q.a2.A q.a2.n q.a2.c, .slice none 0 0] 31 (0, 0)))).set 5 (q.a1.p)).set 6 (q.a2.p)).set 7 (q.a3.p)).set 8 (q.a4.p)) (fun q h_q => WOk weeks q ∧ WAc q) (fun q => q.i.toNat) (wa0 i0 x1) ⟨rfl, trivial⟩ (rfl) (⟨⟨by show 0 ≤ i0; omega, by show i0 + 0 ≤ _; omega, by show 1 ≤ i0 + 0; omega, rfl, NearL.nil, NearL.nil, fun _ h => (by cases h), fun _ h => (by cases h)⟩, ⟨accR0, accR0, accR0, accR0⟩⟩) ?_
 rintro q T1 h_q E_q J_q
 refine qP [_, _, _, _, _, _, _, _, _] rfl ?_
 obtain ⟨⟨j1, j2, j3, j4, j5, j6, j7, j8⟩, ⟨r1, r2, r3, r4⟩⟩ := J_q
 refine qF ?_
 refine qF ?_
 refine qC rfl ?_
 refine qA (qB (v := .int .i64 _) rfl) ?_
 refine qA (qK (v := .bool _) rfl) ?_
 refine wA rfl (fun ht => ?_) (fun ht => ?_)
 ·skip
  have hi : 0 < q.i := of_decide_eq_true ht
  have hl : q.ht.length ≤ 6 := by omega
  refine qT ?_
  refine qF ?_
  refine qN ?_
  refine qF ?_
  refine qC rfl ?_
  refine qA (qB (v := .pointer (some ⟨b, 0, none⟩)) rfl) ?_
  refine zL [] [_] [_, _, _, _, _, _, _, _] (vs := [.pointer _, .int .i64 _, .int .i64 _]) rfl rfl rfl ((Within_ok b q.x (-5) 35 (by omega) (by omega) (by omega) h_q)) ?_
  rintro _ h2 _ E2 ⟨x2, t, rfl, rfl, t1, t2⟩
  refine qH [_, _, _, _, _, _, _, _, _] rfl ?_
  refine qA (qB (v := .pointer (some ⟨b, 0, none⟩)) rfl) ?_
  refine zL [] [_] [_, _, _, _, _, _, _, _] (vs := [.pointer _, .int .i64 _, .int .i64 _]) rfl rfl rfl ((Within_ok b x2 30 70 (by omega) (by omega) (by omega) h2)) ?_
  rintro _ h3 _ E3 ⟨x3, d, rfl, rfl, d1, d2⟩
  refine qH [_, _, _, _, _, _, _, _, _] rfl ?_
  refine qA (qE (v := .int .i64 _) rfl) ?_
  refine qA (qE (v := .int .i64 _) rfl) ?_
  refine qF ?_
  refine zB [false, false, false, false, false, true, true] rfl rfl rfl ?_
  refine qD (i := 0) rfl (by decide +kernel) (qG rfl rfl rfl rfl 0 rfl) ?_
  refine qL (i := 1) rfl (by decide +kernel) ?_
  refine qI 4 (v := .slice _ _ _) rfl rfl rfl rfl ?_
  refine qD (i := 2) rfl (by decide +kernel) (qB (v := .int .i64 _) rfl) ?_
  refine qD (i := 5) rfl (by decide +kernel) (qG rfl rfl rfl rfl 1 rfl) ?_
  refine qL (i := 6) rfl (by decide +kernel) ?_
  refine qI 4 (v := .slice _ _ _) rfl rfl rfl rfl ?_
  refine qD (i := 7) rfl (by decide +kernel) (qB (v := .int .i64 _) rfl) ?_
  refine zD (i := 3) rfl (by decide +kernel) ?_
  refine wG (zc := [_]) (vs := [(0, .int .i64 _)]) (cs := [_]) rfl rfl rfl rfl rfl rfl rfl fun b41 hb41 => ?_
  refine ⟨ext_newM hb41 _, ?_⟩
  refine qZ [_, _, _, _, _, _, _, _, _, _] rfl ?_
  refine zD (i := 4) rfl (by decide +kernel) ?_
  refine zK 5 r1 rfl rfl rfl (fun V => rdP V (i := 9) rfl) rfl rfl rfl rfl rfl rfl rfl rfl rfl (by omega) rfl (by rw [wS (m := 1) (fun _ _ => rfl)]; simp; omega) fun a1 h2a E2a ra1 => ?_
  refine ⟨ext_wlm E2a _, ?_⟩
  refine qZ [_, _, _, _, _, _, _, _, _, _] rfl ?_
  refine qD (i := 10) rfl (by decide +kernel) (qG rfl rfl rfl rfl 0 rfl) ?_
  refine zD (i := 8) rfl (by decide +kernel) ?_
  refine wG (zc := [_]) (vs := [(0, .int .i64 _)]) (cs := [_]) rfl rfl rfl rfl rfl rfl rfl fun b46 hb46 => ?_
  refine ⟨ext_newM hb46 _, ?_⟩
  refine qZ [_, _, _, _, _, _, _, _, _, _, _] rfl ?_
  refine wI (i := 9) rfl (by decide +kernel) (by decide +kernel) ?_
  refine zK 6 r2 rfl rfl rfl (fun V => rdP V (i := 10) rfl) rfl rfl rfl rfl rfl rfl rfl rfl rfl (by omega) rfl (by rw [wS (m := 1) (fun _ _ => rfl)]; simp; omega) fun a2 h3a E3a ra2 => ?_
  refine qZ [_, _, _, _, _, _, _, _, _, _, _] rfl ?_
  refine wI (i := 11) rfl (by decide +kernel) (by decide +kernel) ?_
  refine qJ 4 (v := .slice _ _ _) (vs := [_]) (c' := [_, _, _]) rfl rfl rfl rfl rfl rfl rfl rfl rfl ?_
  refine qZ [_, _, _, _, _, _, _, _, _, _, _] rfl ?_
  refine qD (i := 12) rfl (by decide +kernel) (qG rfl rfl rfl rfl 1 rfl) ?_
  refine wI (i := 13) rfl (by decide +kernel) (by decide +kernel) ?_
  refine qJ 4 (v := .slice _ _ _) (vs := [_]) (c' := [_, _, _]) rfl rfl rfl rfl rfl rfl rfl rfl rfl ?_
  refine qZ [_, _, _, _, _, _, _, _, _, _, _] rfl ?_
  refine wW rfl ?_
  refine zB [true, false, false, false, false, false, false, true, true] rfl rfl rfl ?_
  refine qD (i := 0) rfl (by decide +kernel) (qG rfl rfl rfl rfl 0 rfl) ?_
  refine qL (i := 1) rfl (by decide +kernel) ?_
  refine qI 3 (v := .slice _ _ _) rfl rfl rfl rfl ?_
  refine qD (i := 2) rfl (by decide +kernel) (qB (v := .pointer (some ⟨b, 0, none⟩)) rfl) ?_
  refine qD (i := 3) rfl (by decide +kernel) (qB (v := .int .i64 _) rfl) ?_
  refine qD (i := 7) rfl (by decide +kernel) (qG rfl rfl rfl rfl 1 rfl) ?_
  refine qL (i := 8) rfl (by decide +kernel) ?_
  refine qI 3 (v := .slice _ _ _) rfl rfl rfl rfl ?_
  refine qD (i := 9) rfl (by decide +kernel) (qB (v := .pointer (some ⟨b, 0, none⟩)) rfl) ?_
  refine qD (i := 10) rfl (by decide +kernel) (qB (v := .int .i64 _) rfl) ?_
  refine zD (i := 4) rfl (by decide +kernel) ?_
  refine zL [] [_] [_, _, _, _, _, _, _, _, _, _] (vs := [.pointer _, .int .i64 _, .int .i64 _, .int .i64 _, .int .i64 _]) rfl rfl rfl ((Near_ok b x3 t (-50) 100 1 (by omega) (by omega) h3a)) ?_
  rintro _ h4 _ E4 ⟨x4, u4, w4, rfl, rfl, u41, u42, w41, w42⟩
  refine ⟨ext_wlm E4 _, ?_⟩
  refine qZ [_, _, _, _, _, _, _, _, _, _, _] rfl ?_
  refine zD (i := 5) rfl (by decide +kernel) ?_
  refine wG (zc := [_, _]) (vs := [(0, .agg #[.int .i64 _, .int .i64 _])]) (cs := [_, _]) rfl rfl rfl rfl rfl rfl rfl fun b55 hb55 => ?_
  refine ⟨ext_newM hb55 _, ?_⟩
  refine qZ [_, _, _, _, _, _, _, _, _, _, _, _] rfl ?_
  refine zD (i := 6) rfl (by decide +kernel) ?_
  refine zK 7 r3 rfl rfl rfl (fun V => rdP V (i := 11) rfl) rfl rfl rfl rfl rfl rfl rfl rfl rfl (by omega) rfl (by rw [wS (m := 2) (fun _ _ => rfl), j5.len]; simp; omega) fun a3 h4a E4a ra3 => ?_
  refine ⟨ext_wlm E4a _, ?_⟩
  refine qZ [_, _, _, _, _, _, _, _, _, _, _, _] rfl ?_
  refine qD (i := 14) rfl (by decide +kernel) (qG rfl rfl rfl rfl 0 rfl) ?_
  refine zD (i := 11) rfl (by decide +kernel) ?_
  refine zL [] [_] [_, _, _, _, _, _, _, _, _, _, _] (vs := [.pointer _, .int .i64 _, .int .i64 _, .int .i64 _, .int .i64 _]) rfl rfl rfl ((Near_ok b x4 d (-50) 100 1 (by omega) (by omega) h4a)) ?_
  rintro _ h5 _ E5 ⟨x5, u5, w5, rfl, rfl, u51, u52, w51, w52⟩
  refine ⟨ext_wlm E5 _, ?_⟩
  refine qZ [_, _, _, _, _, _, _, _, _, _, _, _] rfl ?_
  refine zD (i := 12) rfl (by decide +kernel) ?_
  refine wG (zc := [_, _]) (vs := [(0, .agg #[.int .i64 _, .int .i64 _])]) (cs := [_, _]) rfl rfl rfl rfl rfl rfl rfl fun b62 hb62 => ?_
  refine ⟨ext_newM hb62 _, ?_⟩
  refine qZ [_, _, _, _, _, _, _, _, _, _, _, _, _] rfl ?_
  refine wI (i := 13) rfl (by decide +kernel) (by decide +kernel) ?_
  refine zK 8 r4 rfl rfl rfl (fun V => rdP V (i := 12) rfl) rfl rfl rfl rfl rfl rfl rfl rfl rfl (by omega) rfl (by rw [wS (m := 2) (fun _ _ => rfl), j6.len, j4]; simp; omega) fun a4 h5a E5a ra4 => ?_
  refine qZ [_, _, _, _, _, _, _, _, _, _, _, _, _] rfl ?_
  refine wI (i := 15) rfl (by decide +kernel) (by decide +kernel) ?_
  refine qJ 3 (v := .slice _ _ _) (vs := [_]) (c' := [_, _, _, _]) rfl rfl rfl rfl rfl rfl rfl rfl rfl ?_
  refine qZ [_, _, _, _, _, _, _, _, _, _, _, _, _] rfl ?_
  refine qD (i := 16) rfl (by decide +kernel) (qG rfl rfl rfl rfl 1 rfl) ?_
  refine wI (i := 17) rfl (by decide +kernel) (by decide +kernel) ?_
  refine qJ 3 (v := .slice _ _ _) (vs := [_]) (c' := [_, _, _, _]) rfl rfl rfl rfl rfl rfl rfl rfl rfl ?_
  refine qZ [_, _, _, _, _, _, _, _, _, _, _, _, _] rfl ?_
  refine wW rfl ?_
  refine qC rfl ?_
  refine qA (qB (v := .int .i64 _) rfl) ?_
  refine qA (qO rfl (by omega)) ?_
  refine qA (qE (v := .int .i64 _) rfl) ?_
  refine ⟨⟨q.i - 1, x5, q.ht ++ [t], q.dt ++ [d], q.hs ++ [⟨max (-50) (t - u4), min 100 (t + w4)⟩], q.ds ++ [⟨max (-50) (d - u5), min 100 (d + w5)⟩], a1, a2, a3, a4⟩, ⟨rfl, trivial⟩, rfl, rfl, (zP (zP (zP (zP (zP (zP (zP (zP E_q E2) E3) E2a) E3a) E4) E4a) E5) E5a), fun h3 E3 => ⟨⟨by show 0 ≤ q.i - 1; omega, by show q.i - 1 + ((q.ht ++ [t]).length : Nat) ≤ _; simp; omega, by show 1 ≤ q.i - 1 + ((q.ht ++ [t]).length : Nat); simp; omega, by simp [j4], j5.snoc ⟨u4, w4, u41, u42, w41, w42, rfl⟩, j6.snoc ⟨u5, w5, u51, u52, w51, w52, rfl⟩, memS j7 ⟨t1, t2⟩, memS j8 ⟨d1, d2⟩⟩, ⟨by rw [List.flatMap_append]; exact ra1, by rw [List.flatMap_append]; exact ra2, by rw [List.flatMap_append]; exact ra3, by rw [List.flatMap_append]; exact ra4⟩⟩, by first | omega | (dsimp only; omega), ?_⟩
  repeat (first | exact qU _ _ _ | refine wB (by decide) ?_ | refine qS rfl ?_ | refine wN rfl ?_)
 ·skip
  have hi0 : q.i = 0 := by have := of_decide_eq_false ht; omega
  obtain ⟨qi, qx, wt, dt, hs, ds, ⟨p1, A1, n1, c1⟩, ⟨p2, A2, n2, c2⟩, ⟨p3, A3, n3, c3⟩, ⟨p4, A4, n4, c4⟩⟩ := q
  dsimp only at *
  have hwl : wt.length ≤ 6 := by omega
  obtain rfl : n1 = wt.length := by have := AccR.len r1; rw [wS (m := 1) (fun _ _ => rfl)] at this; dsimp only at this; omega
  obtain rfl : n2 = dt.length := by have := AccR.len r2; rw [wS (m := 1) (fun _ _ => rfl)] at this; dsimp only at this; omega
  obtain rfl : n3 = hs.length := by have := AccR.len r3; rw [wS (m := 2) (fun _ _ => rfl)] at this; dsimp only at this; omega
  obtain rfl : n4 = ds.length := by have := AccR.len r4; rw [wS (m := 2) (fun _ _ => rfl)] at this; dsimp only at this; omega
  refine goes_pubO 5 rfl ?_
  intro g1 G1 P1
  refine qP [_, _, _, _, _, _, _, _, _] rfl ?_
  refine goes_pubO 6 rfl ?_
  intro g2 G2 P2
  refine qP [_, _, _, _, _, _, _, _, _] rfl ?_
  refine goes_pubO 7 rfl ?_
  intro g3 G3 P3
  refine qP [_, _, _, _, _, _, _, _, _] rfl ?_
  refine goes_pubO 8 rfl ?_
  intro g4 G4 P4
  refine qP [_, _, _, _, _, _, _, _, _] rfl ?_
  have R1 : Row g4 1 intC A1 wt := ⟨fun _ _ => rfl, (AccR.rd r1 P1).ext (zP (zP G2 G3) G4)⟩
  have R2 : Row g4 1 intC A2 dt := ⟨fun _ _ => rfl, (AccR.rd r2 P2).ext (zP G3 G4)⟩
  have R3 : Row g4 2 rgC A3 hs := ⟨fun _ _ => rfl, (AccR.rd r3 P3).ext G4⟩
  have R4 : Row g4 2 rgC A4 ds := ⟨fun _ _ => rfl, AccR.rd r4 P4⟩
  refine goes_more ?_
  refine qP [_, _, _, _, _, _, _, _, _, _] rfl ?_
  refine goes_more ?_
  refine qP [_, _, _, _, _, _, _, _, _, _, _] rfl ?_
  refine wU ?_
  refine qF ?_
  refine qF ?_
  refine qC rfl ?_
  refine qA (qB (v := .pointer (some ⟨b, 0, none⟩)) rfl) ?_
  refine qA (qB (v := .int .i64 _) rfl) ?_
  refine zL [] [_] [_, _, _, _, _, _, _, _, _, _] (vs := [.pointer _, .int .i64 _]) rfl rfl rfl ((Upto_ok b qx joints (by omega) g4)) ?_
  rintro _ k1 _ F1 ⟨y1, i1, rfl, rfl, i11, i12⟩
  refine qH [_, _, _, _, _, _, _, _, _, _, _] rfl ?_
  refine qA (qE (v := .int .i64 _) rfl) ?_
  refine qN ?_
  refine xp_loopL [15, 16, 17, 18, 19, 20, 21, 22, 23, 24, 25, 69, 70, 71, 72, 73, 74, 75, 76, 77, 78, 79, 80, 81, 82, 83, 84, 85, 86, 87, 88, 89, 90, 91, 92, 93, 94, 95, 96, 97, 98, 99, 100, 101, 102, 103, 104, 105, 106, 107, 108, 109, 110, 111, 112, 113, 114, 115, 116, 117, 118, 119, 120, 121, 122, 123, 124, 125, 126, 127, 128, 129, 130, 131, 132, 133, 134, 135, 136, 137, 138, 139, 140, 141, 142, 143, 144, 145, 146, 147, 148, 149, 150, 151, 152, 153, 154, 155, 156, 157, 158, 159, 160, 161, 162, 163, 164, 165, 166, 167, 168, 169, 170, 171, 172] 11 (α := Int × Nat × List Joint × List Int × Acc × Acc) (fun ⟨i, y, js, fs, a5, a6⟩ => [(15, .int .i64 i)]) (fun ⟨i, y, js, fs, a5, a6⟩ L => ((((L.set 0 (some (b, .cells #[.int .u64 (y : Int)] 67 (0, 0)))).set 3 (some (b10, .cells #[.slice A3 hs.length c3, .slice A4 ds.length c4, .slice a5.A a5.n a5.c, .slice none 0 0] 29 (0, 0)))).set 4 (some (b11, .cells #[.slice A1 wt.length c1, .slice A2 dt.length c2, .slice a6.A a6.n a6.c] 31 (0, 0)))).set 9 (a5.p)).set 10 (a6.p)) (fun ⟨i, y, js, fs, a5, a6⟩ h_i => (0 ≤ i ∧ i + js.length ≤ joints) ∧ JointsT wt dt js fs ∧ AccR 43 9 (js.flatMap jointC) a5 ∧ AccR 3 1 (fs.flatMap intC) a6) (fun ⟨i, y, js, fs, a5, a6⟩ => i.toNat) ((i1, y1, [], [], acc0, acc0)) ⟨rfl, trivial⟩ (rfl) (⟨⟨i11, by simp; omega⟩, JointsT.nil, accR0, accR0⟩) ?_
  rintro ⟨i, y, js, fs, a5, a6⟩ T6 h_i E_i J_i
  refine qP [_, _, _, _, _, _, _, _, _, _, _] rfl ?_
  obtain ⟨⟨m1, m2⟩, m3, r5, r6⟩ := J_i
  have fl := m3.len
  refine qF ?_
  refine qF ?_
  refine qC rfl ?_
  refine qA (qB (v := .int .i64 _) rfl) ?_
  refine qA (qK (v := .bool _) rfl) ?_
  refine wA rfl (fun ht2 => ?_) (fun ht2 => ?_)
  ·skip
   have hi2 : 0 < i := of_decide_eq_true ht2
   refine qT ?_
   refine qF ?_
   refine qN ?_
   refine qF ?_
   refine qC rfl ?_
   refine qA (qB (v := .pointer (some ⟨b, 0, none⟩)) rfl) ?_
   refine zL [] [_] [_, _, _, _, _, _, _, _, _, _] (vs := [.pointer _, .int .i64 _, .int .i64 _]) rfl rfl rfl ((Within_ok b y 1 2 (by omega) (by omega) (by omega) h_i)) ?_
   rintro _ k2 _ F2 ⟨y2, kd, rfl, rfl, kd1, kd2⟩
   refine qH [_, _, _, _, _, _, _, _, _, _, _] rfl ?_
   refine qA (pv_build (zc := [_, _, _, _, _, _, _, _, _]) (vs := [(0, .int .i64 _)]) (cs := [_, _, _, _, _, _, _, _, _]) rfl rfl rfl rfl rfl rfl) ?_
   refine wO (cs := [_, _, _, _, _, _, _, _, _]) rfl rfl fun b16 hb16 => ?_
   refine qH [_, _, _, _, _, _, _, _, _, _, _, _] rfl ?_
   refine qJ 11 (v := .agg #[.int .i64 _, .int .i64 _, .int .i64 _, .int .i64 _, .int .i64 _, .int .i64 _, .int .i64 _, .int .i64 _, .int .i64 _]) (vs := [_, _, _, _, _, _, _, _, _]) (c' := [_, _, _, _, _, _, _, _, _]) rfl rfl rfl rfl rfl rfl rfl rfl rfl ?_
   refine qH [_, _, _, _, _, _, _, _, _, _, _, _] rfl ?_
   refine qF ?_
   refine zB [true] rfl rfl rfl ?_
   refine qD (i := 0) rfl (by decide +kernel) (qG rfl rfl rfl rfl 0 rfl) ?_
   refine qL (i := 1) rfl (by decide +kernel) ?_
   refine qI 4 (v := .slice _ _ _) rfl rfl rfl rfl ?_
   refine qD (i := 2) rfl (by decide +kernel) (qB (v := .pointer (some ⟨b, 0, none⟩)) rfl) ?_
   refine qD (i := 4) rfl (by decide +kernel) (qB (v := .pointer (some ⟨b, 0, none⟩)) rfl) ?_
   refine zD (i := 3) rfl (by decide +kernel) ?_
   refine zL [] [_] [_, _, _, _, _, _, _, _, _, _, _] (vs := [.pointer _, .int .i64 _, .int .i64 _]) rfl rfl rfl ((Within_ok b y2 25 38 (by omega) (by omega) (by omega) k2)) ?_
   rintro _ k3 _ F3 ⟨y3, hi3, rfl, rfl, hi31, hi32⟩
   refine ⟨ext_wlm F3 _, ?_⟩
   refine qZ [_, _, _, _, _, _, _, _, _, _, _, _] rfl ?_
   refine zD (i := 5) rfl (by decide +kernel) ?_
   refine zL [] [_] [_, _, _, _, _, _, _, _, _, _, _] (vs := [.pointer _, .int .i64 _, .int .i64 _]) rfl rfl rfl ((Within_ok b y3 (-5) 8 (by omega) (by omega) (by omega) k3)) ?_
   rintro _ k4 _ F4 ⟨y4, lo4, rfl, rfl, lo41, lo42⟩
   refine ⟨ext_wlm F4 _, ?_⟩
   refine qZ [_, _, _, _, _, _, _, _, _, _, _, _] rfl ?_
   refine qD (i := 6) rfl (by decide +kernel) (qE (v := .slice _ _ _) rfl) ?_
   refine qD (i := 7) rfl (by decide +kernel) (qE (v := .int .i64 _) rfl) ?_
   refine qD (i := 8) rfl (by decide +kernel) (qE (v := .int .i64 _) rfl) ?_
   refine wW rfl ?_
   refine xp_cutB [17, 18, 19, 82, 83, 84, 85, 86, 87, 88, 89, 90] 12 (α := CutJ) (fun z => [(17, .slice z.A z.l.length z.c), (18, .int .i64 z.hi), (19, .int .i64 z.lo)]) (fun z L => L.set 0 (some (b, .cells #[.int .u64 (z.x : Int)] 67 (0, 0)))) (fun z h_z => Row h_z 1 intC z.A z.l ∧ ((kd = 1 ∧ z.l = wt ∧ 25 ≤ z.hi ∧ z.hi ≤ 38 ∧ -5 ≤ z.lo ∧ z.lo ≤ 8) ∨ (kd = 2 ∧ z.l = dt ∧ 60 ≤ z.hi ∧ z.hi ≤ 72 ∧ 28 ≤ z.lo ∧ z.lo ≤ 42))) ?_ ?_
   ·skip
    refine qF ?_
    refine qC rfl ?_
    refine qA (qG rfl rfl rfl rfl 0 rfl) ?_
    refine qI 11 (v := .int .i64 _) rfl rfl rfl rfl ?_
    refine qA (qK (v := .bool _) rfl) ?_
    refine wA rfl (fun hkd => ?_) (fun hkd => ?_)
    ·skip
     have hkd' : kd = 2 := by simpa using hkd
     refine zB [true] rfl rfl rfl ?_
     refine qD (i := 0) rfl (by decide +kernel) (qG rfl rfl rfl rfl 1 rfl) ?_
     refine qL (i := 1) rfl (by decide +kernel) ?_
     refine qI 4 (v := .slice _ _ _) rfl rfl rfl rfl ?_
     refine qD (i := 2) rfl (by decide +kernel) (qB (v := .pointer (some ⟨b, 0, none⟩)) rfl) ?_
     refine qD (i := 4) rfl (by decide +kernel) (qB (v := .pointer (some ⟨b, 0, none⟩)) rfl) ?_
     refine zD (i := 3) rfl (by decide +kernel) ?_
     refine zL [] [_] [_, _, _, _, _, _, _, _, _, _, _] (vs := [.pointer _, .int .i64 _, .int .i64 _]) rfl rfl rfl ((Within_ok b y4 60 72 (by omega) (by omega) (by omega) k4)) ?_
     rintro _ k5 _ F5 ⟨y5, hi5, rfl, rfl, hi51, hi52⟩
     refine ⟨ext_wlm F5 _, ?_⟩
     refine qZ [_, _, _, _, _, _, _, _, _, _, _, _] rfl ?_
     refine zD (i := 5) rfl (by decide +kernel) ?_
     refine zL [] [_] [_, _, _, _, _, _, _, _, _, _, _] (vs := [.pointer _, .int .i64 _, .int .i64 _]) rfl rfl rfl ((Within_ok b y5 28 42 (by omega) (by omega) (by omega) k5)) ?_
     rintro _ k6 _ F6 ⟨y6, lo6, rfl, rfl, lo61, lo62⟩
     refine ⟨ext_wlm F6 _, ?_⟩
     refine qZ [_, _, _, _, _, _, _, _, _, _, _, _] rfl ?_
     refine qD (i := 6) rfl (by decide +kernel) (qE (v := .slice _ _ _) rfl) ?_
     refine qD (i := 7) rfl (by decide +kernel) (qE (v := .int .i64 _) rfl) ?_
     refine qD (i := 8) rfl (by decide +kernel) (qE (v := .int .i64 _) rfl) ?_
     refine wW rfl ?_
     refine ⟨⟨y6, hi5, lo6, A2, c2, dt⟩, ⟨rfl, rfl, rfl, trivial⟩, rfl, rfl, (zP F5 F6), fun h3 E3 => ⟨(R2.ext (zP (zP (zP (zP (zP (zP F1 E_i) F2) F3) F4) F5) F6)).ext E3, .inr ⟨hkd', rfl, hi51, hi52, lo61, lo62⟩⟩, ?_⟩
     repeat (first | exact zE _ _ | exact qU _ _ _ | refine wB (by decide) ?_ | refine qS rfl ?_ | refine wN rfl ?_)
    ·skip
     have hkd0 : ¬ kd = 2 := by simpa using hkd
     have hkd' : kd = 1 := by omega
     refine qT ?_
     refine ⟨⟨y4, hi3, lo4, A1, c1, wt⟩, ⟨rfl, rfl, rfl, trivial⟩, rfl, rfl, (Ext.refl _), fun h3 E3 => ⟨(R1.ext (zP (zP (zP (zP F1 E_i) F2) F3) F4)).ext E3, .inl ⟨hkd', rfl, hi31, hi32, lo41, lo42⟩⟩, ?_⟩
     repeat (first | exact zE _ _ | exact qU _ _ _ | refine wB (by decide) ?_ | refine qS rfl ?_ | refine wN rfl ?_)
   ·rintro z T7 h_z E_z J_z
    refine qP [_, _, _, _, _, _, _, _, _, _, _, _] rfl ?_
    obtain ⟨zx, hi, lo, WA', wc, l⟩ := z
    dsimp only at *
    obtain ⟨RW, hcase⟩ := J_z
    have hll : l.length = wt.length := by
     rcases hcase with h | h
     ·rw [h.2.1]
     ·rw [h.2.1, j4]
    have hhi : 25 ≤ hi ∧ hi ≤ 72 := by omega
    have hlo : -5 ≤ lo ∧ lo ≤ 42 := by omega
    refine qF ?_
    refine qC rfl ?_
    refine qA (qB (v := .pointer (some ⟨b, 0, none⟩)) rfl) ?_
    refine zL [] [_] [_, _, _, _, _, _, _, _, _, _, _] (vs := [.pointer _, .int .i64 _, .int .i64 _]) rfl rfl rfl ((Within_ok b zx 1 3 (by omega) (by omega) (by omega) h_z)) ?_
    rintro _ k7 _ F7 ⟨y7, many, rfl, rfl, many1, many2⟩
    refine qH [_, _, _, _, _, _, _, _, _, _, _, _] rfl ?_
    refine qA (qB (v := .pointer (some ⟨b, 0, none⟩)) rfl) ?_
    refine qA (qB (v := .pointer (some ⟨b, 0, none⟩)) rfl) ?_
    refine zL [] [_] [_, _, _, _, _, _, _, _, _, _, _] (vs := [.pointer _, .int .i64 _]) rfl rfl rfl ((Upto_ok b y7 9 (by omega) k7)) ?_
    rintro _ k8 _ F8 ⟨y8, u8, rfl, rfl, u81, u82⟩
    refine qH [_, _, _, _, _, _, _, _, _, _, _, _] rfl ?_
    refine wG (zc := [_]) (vs := [(0, .int .i64 _), (1, .int .i64 _)]) (cs := [_, _]) rfl rfl rfl rfl rfl rfl rfl fun b96 hb96 => ?_
    refine qH [_, _, _, _, _, _, _, _, _, _, _, _, _] rfl ?_
    refine wp_pub 12 rfl rfl ?_
    intro k9 F9 p9
    refine qH [_, _, _, _, _, _, _, _, _, _, _, _, _] rfl ?_
    refine zL [] [_] [_, _, _, _, _, _, _, _, _, _, _, _] (vs := [.pointer _, .slice _ _ _]) rfl rfl rfl ((Of_ok b y8 [u8, 9] (by simp) (by simp) _ _ k9 (row_of_block (enc := intC) (m := 1) (l := [u8, 9]) (fun _ _ => rfl) p9))) ?_
    rintro _ k10 _ F10 ⟨y10, life, rfl, rfl, lifem⟩
    refine qH [_, _, _, _, _, _, _, _, _, _, _, _, _] rfl ?_
    have hlife : 0 ≤ life ∧ life ≤ 9 := by simp at lifem; omega
    refine qA (qE (v := .int .i64 _) rfl) ?_
    refine qA (qE (v := .int .i64 _) rfl) ?_
    refine qF ?_
    refine qC rfl ?_
    refine qA (qB (v := .pointer (some ⟨b, 0, none⟩)) rfl) ?_
    refine qA (qB (v := .int .i64 _) rfl) ?_
    refine zL [] [_] [_, _, _, _, _, _, _, _, _, _, _, _] (vs := [.pointer _, .int .i64 _, .int .i64 _, .int .i64 _, .int .i64 _]) rfl rfl rfl ((Near_ok b y10 hi (-50) 100 1 (by omega) (by omega) k10)) ?_
    rintro _ k11 _ F11 ⟨y11, u11, w11, rfl, rfl, u111, u112, w111, w112⟩
    refine qH [_, _, _, _, _, _, _, _, _, _, _, _, _] rfl ?_
    refine qA (qB (v := .pointer (some ⟨b, 0, none⟩)) rfl) ?_
    refine qA (qB (v := .int .i64 _) rfl) ?_
    refine zL [] [_] [_, _, _, _, _, _, _, _, _, _, _, _] (vs := [.pointer _, .int .i64 _, .int .i64 _, .int .i64 _, .int .i64 _]) rfl rfl rfl ((Near_ok b y11 lo (-50) 100 1 (by omega) (by omega) k11)) ?_
    rintro _ k12 _ F12 ⟨y12, u12, w12, rfl, rfl, u121, u122, w121, w122⟩
    refine qH [_, _, _, _, _, _, _, _, _, _, _, _, _] rfl ?_
    refine qA (qG rfl rfl rfl rfl 1 rfl) ?_
    refine qJ 11 (v := .agg #[.int .i64 _, .int .i64 _]) (vs := [_, _]) (c' := [_, _, _, _, _, _, _, _, _]) rfl rfl rfl rfl rfl rfl rfl rfl rfl ?_
    refine qH [_, _, _, _, _, _, _, _, _, _, _, _, _] rfl ?_
    refine qA (qG rfl rfl rfl rfl 3 rfl) ?_
    refine qJ 11 (v := .agg #[.int .i64 _, .int .i64 _]) (vs := [_, _]) (c' := [_, _, _, _, _, _, _, _, _]) rfl rfl rfl rfl rfl rfl rfl rfl rfl ?_
    refine qH [_, _, _, _, _, _, _, _, _, _, _, _, _] rfl ?_
    refine qF ?_
    refine qC rfl ?_
    refine qA (qB (v := .pointer (some ⟨b, 0, none⟩)) rfl) ?_
    refine qA (qB (v := .int .i64 _) rfl) ?_
    refine zL [] [_] [_, _, _, _, _, _, _, _, _, _, _, _] (vs := [.pointer _, .int .i64 _, .int .i64 _, .int .i64 _, .int .i64 _]) rfl rfl rfl ((Near_ok b y12 many 1 6 1 (by omega) (by omega) k12)) ?_
    rintro _ k13 _ F13 ⟨y13, u13, w13, rfl, rfl, u131, u132, w131, w132⟩
    refine qH [_, _, _, _, _, _, _, _, _, _, _, _, _] rfl ?_
    refine qA (qB (v := .pointer (some ⟨b, 0, none⟩)) rfl) ?_
    refine qA (qB (v := .int .i64 _) rfl) ?_
    refine zL [] [_] [_, _, _, _, _, _, _, _, _, _, _, _] (vs := [.pointer _, .int .i64 _, .int .i64 _, .int .i64 _, .int .i64 _]) rfl rfl rfl ((Near_ok b y13 life 0 9 2 (by omega) (by omega) k13)) ?_
    rintro _ k14 _ F14 ⟨y14, u14, w14, rfl, rfl, u141, u142, w141, w142⟩
    refine qH [_, _, _, _, _, _, _, _, _, _, _, _, _] rfl ?_
    refine qA (qG rfl rfl rfl rfl 5 rfl) ?_
    refine qJ 11 (v := .agg #[.int .i64 _, .int .i64 _]) (vs := [_, _]) (c' := [_, _, _, _, _, _, _, _, _]) rfl rfl rfl rfl rfl rfl rfl rfl rfl ?_
    refine qH [_, _, _, _, _, _, _, _, _, _, _, _, _] rfl ?_
    refine qA (qG rfl rfl rfl rfl 7 rfl) ?_
    refine qJ 11 (v := .agg #[.int .i64 _, .int .i64 _]) (vs := [_, _]) (c' := [_, _, _, _, _, _, _, _, _]) rfl rfl rfl rfl rfl rfl rfl rfl rfl ?_
    refine qH [_, _, _, _, _, _, _, _, _, _, _, _, _] rfl ?_
    refine qF ?_
    refine qC rfl ?_
    refine qA (qG rfl rfl rfl rfl 2 rfl) ?_
    refine qI 3 (v := .slice _ _ _) rfl rfl rfl rfl ?_
    refine qX 11 (vs := [.int .i64 _, .int .i64 _, .int .i64 _, .int .i64 _, .int .i64 _, .int .i64 _, .int .i64 _, .int .i64 _, .int .i64 _]) rfl rfl rfl rfl rfl ?_
    refine wG (zc := [_, _, _, _, _, _, _, _, _]) (vs := [(0, .agg #[.int .i64 _, .int .i64 _, .int .i64 _, .int .i64 _, .int .i64 _, .int .i64 _, .int .i64 _, .int .i64 _, .int .i64 _])]) (cs := [_, _, _, _, _, _, _, _, _]) rfl rfl rfl rfl rfl rfl rfl fun b117 hb117 => ?_
    refine qH [_, _, _, _, _, _, _, _, _, _, _, _, _, _] rfl ?_
    refine zK 9 r5 rfl rfl rfl (fun V => rdP V (i := 13) rfl) rfl rfl rfl rfl rfl rfl rfl rfl rfl (by omega) rfl (by rw [wS (m := 9) (fun _ _ => rfl)]; simp; omega) fun a5' h8a E8a ra5 => ?_
    refine qH [_, _, _, _, _, _, _, _, _, _, _, _, _, _] rfl ?_
    refine qA (qG rfl rfl rfl rfl 2 rfl) ?_
    refine qJ 3 (v := .slice _ _ _) (vs := [_]) (c' := [_, _, _, _]) rfl rfl rfl rfl rfl rfl rfl rfl rfl ?_
    refine qH [_, _, _, _, _, _, _, _, _, _, _, _, _, _] rfl ?_
    refine qF ?_
    refine qC rfl ?_
    refine qA (qB (v := .slice _ _ _) rfl) ?_
    refine qA (wV rfl rfl) ?_
    refine qA (qE (v := .int .i64 _) rfl) ?_
    refine qA (qE (v := .int .i64 _) rfl) ?_
    refine qF ?_
    refine qF ?_
    refine qC rfl ?_
    refine qA (qB (v := .slice _ _ _) rfl) ?_
    refine qA (wV rfl rfl) ?_
    refine qA (qO rfl (by omega)) ?_
    refine qA (qE (v := .int .i64 _) rfl) ?_
    refine qN ?_
    refine zN [22, 23, 24, 25, 125, 126, 127, 128, 129, 130, 131, 132, 133, 134, 135, 136, 137, 138, 139, 140, 141, 142, 143, 144, 145, 146, 147, 148, 149, 150, 151, 152, 153, 154, 155, 156, 157, 158, 159, 160, 161, 162, 163, 164, 165, 166] 14 (α := Nat) (fun kk => [(24, .int .i64 ((l.length : Int) - 1 - kk)), (22, .int .i64 (failP l hi lo many life kk : Nat))]) (fun kk => _) (fun kk h_kk => kk ≤ l.length) (fun kk => l.length - kk) (0) ⟨intE (by omega), rfl, trivial⟩ (rfl) (Nat.zero_le _) ?_
    rintro kk T9 h_kk E_kk J_kk
    refine qP [_, _, _, _, _, _, _, _, _, _, _, _, _, _] rfl ?_
    refine qF ?_
    refine qF ?_
    refine qC rfl ?_
    refine qA (qB (v := .int .i64 _) rfl) ?_
    refine qA (qK (v := .bool _) rfl) ?_
    refine wA rfl (fun hw3 => ?_) (fun hw3 => ?_)
    ·skip
     have hkl : kk < l.length := by have := of_decide_eq_true hw3; omega
     have hwn : l.length - (kk + 1) < l.length := by omega
     have hsub : (l.length : Int) - 1 - kk = ((l.length - (kk + 1) : Nat) : Int) := by omega
     rw [hsub]
     have hgd : l.getD (l.length - (kk + 1)) 0 = l[l.length - (kk + 1)] := by rw [List.getD_eq_getElem?_getD, List.getElem?_eq_getElem hwn]; rfl
     refine qT ?_
     refine qF ?_
     refine qN ?_
     refine qF ?_
     refine qC rfl ?_
     refine qA (qE (v := .int .i64 _) rfl) ?_
     refine qF ?_
     refine qF ?_
     refine qC rfl ?_
     refine qA (qE (v := .int .i64 _) rfl) ?_
     refine qN ?_
     refine zN [23, 25, 129, 130, 131, 132, 133, 134, 135, 136, 137, 138, 139, 140, 141] 14 (α := Nat) (fun v => [(25, .int .i64 v), (23, .int .i64 (coldN l lo v : Nat))]) (fun v => _) (fun v h_v => v ≤ l.length - (kk + 1) + 1) (fun v => l.length - (kk + 1) + 1 - v) (0) ⟨rfl, intE (by simp [coldN]), trivial⟩ (rfl) (Nat.zero_le _) ?_
     rintro v T10 h_v E_v J_v
     refine qP [_, _, _, _, _, _, _, _, _, _, _, _, _, _] rfl ?_
     have hcn := coldN_le l lo v
     refine qF ?_
     refine qF ?_
     refine qC rfl ?_
     refine qA (qB (v := .int .i64 _) rfl) ?_
     refine qA (qB (v := .int .i64 _) rfl) ?_
     refine qA (qK (v := .bool _) rfl) ?_
     refine wA rfl (fun hv3 => ?_) (fun hv3 => ?_)
     ·skip
      have hvl : v < l.length := by have := of_decide_eq_true hv3; omega
      have hvw : v ≤ l.length - (kk + 1) := by have := of_decide_eq_true hv3; omega
      have hcs := coldN_succ (x := l) (lo := lo) hvl
      obtain ⟨gv, offv, hAv, hcv⟩ := (RW.ext (zP (zP (zP (zP (zP (zP (zP (zP (zP (zP F7 F8) F9) F10) F11) F12) F13) F14) E8a) E_kk) E_v)).at (by omega) hvl
      refine qT ?_
      refine qF ?_
      refine qN ?_
      refine qF ?_
      refine qC rfl ?_
      refine qA (qB (v := .slice _ _ _) rfl) ?_
      refine qA (qB (v := .int .i64 _) rfl) ?_
      refine qA (wM rfl hAv rfl rfl rfl (by omega) (by omega)) ?_
      refine qV (v := .int .i64 _) rfl rfl ((hcv) 0 _ rfl) ?_
      refine qA (qB (v := .int .i64 _) rfl) ?_
      refine qA (qK (v := .bool _) rfl) ?_
      refine wA rfl (fun hcold => ?_) (fun hcold => ?_)
      ·skip
       have hc1 : l[v] ≤ lo := of_decide_eq_true hcold
       refine qC rfl ?_
       refine qA (qB (v := .int .i64 _) rfl) ?_
       refine qA (qO rfl (by omega)) ?_
       refine qA (qE (v := .int .i64 _) rfl) ?_
       refine qC rfl ?_
       refine qA (qB (v := .int .i64 _) rfl) ?_
       refine qA (qO rfl (by omega)) ?_
       refine qA (qE (v := .int .i64 _) rfl) ?_
       refine ⟨v + 1, ⟨rfl, intE (by rw [hcs, if_pos hc1]; simp), trivial⟩, rfl, rfl, E_v, fun h3 E3 => by omega, by first | omega | (dsimp only; omega), ?_⟩
       repeat (first | exact qU _ _ _ | refine wB (by decide) ?_ | refine qS rfl ?_ | refine wN rfl ?_)
      ·skip
       have hc1 : ¬ l[v] ≤ lo := of_decide_eq_false hcold
       refine qT ?_
       refine qC rfl ?_
       refine qA (qB (v := .int .i64 _) rfl) ?_
       refine qA (qO rfl (by omega)) ?_
       refine qA (qE (v := .int .i64 _) rfl) ?_
       refine ⟨v + 1, ⟨rfl, intE (by rw [hcs, if_neg hc1]; simp), trivial⟩, rfl, rfl, E_v, fun h3 E3 => by omega, by first | omega | (dsimp only; omega), ?_⟩
       repeat (first | exact qU _ _ _ | refine wB (by decide) ?_ | refine qS rfl ?_ | refine wN rfl ?_)
     ·skip
      have hve : v = l.length - (kk + 1) + 1 := by have := of_decide_eq_false hv3; omega
      subst hve
      obtain ⟨gw, offw, hAw, hcw⟩ := (RW.ext (zP (zP (zP (zP (zP (zP (zP (zP (zP (zP F7 F8) F9) F10) F11) F12) F13) F14) E8a) E_kk) E_v)).at (by omega) hwn
      have hfp : failP l hi lo many life (kk + 1) = if failW l hi lo many life (l.length - (kk + 1)) then l.length - (kk + 1) else failP l hi lo many life kk := rfl
      refine wU ?_
      refine qF ?_
      refine qC rfl ?_
      refine qA (qB (v := .slice _ _ _) rfl) ?_
      refine qA (qB (v := .int .i64 _) rfl) ?_
      refine qA (wM rfl hAw rfl rfl rfl (by omega) (by omega)) ?_
      refine qV (v := .int .i64 _) rfl rfl ((hcw) 0 _ rfl) ?_
      refine qA (qB (v := .int .i64 _) rfl) ?_
      refine qA (qK (v := .bool _) rfl) ?_
      refine qA (qB (v := .bool _) rfl) ?_
      rcases Bool.eq_false_or_eq_true (decide (l[l.length - (kk + 1)] ≥ hi)) with c1 | c1
      ·skip
       have hfw : failW l hi lo many life (l.length - (kk + 1)) = true := by unfold failW; rw [hgd, c1]; rfl
       refine wQ rfl c1 ?_
       refine wQ rfl c1 ?_
       refine wQ rfl c1 ?_
       refine qA (wX rfl c1 (v := .bool _) rfl) ?_
       refine qA (qB (v := .bool _) rfl) ?_
       refine wQ rfl rfl ?_
       refine wQ rfl rfl ?_
       refine wQ rfl rfl ?_
       refine wQ rfl rfl ?_
       refine wQ rfl rfl ?_
       refine wQ rfl rfl ?_
       refine wQ rfl rfl ?_
       refine guard_un rfl ?_
       refine guard_un rfl ?_
       refine guard_un rfl ?_
       refine wQ rfl rfl ?_
       refine qA (wX rfl rfl (v := .bool _) rfl) ?_
       refine xp_condT rfl (rfl) ?_
       refine qC rfl ?_
       refine qA (qB (v := .int .i64 _) rfl) ?_
       refine qA (qE (v := .int .i64 _) rfl) ?_
       refine qC rfl ?_
       refine qA (qB (v := .int .i64 _) rfl) ?_
       refine qA (qO rfl (by omega)) ?_
       refine qA (qE (v := .int .i64 _) rfl) ?_
       refine ⟨kk + 1, ⟨intE (by omega), intE (by rw [hfp, if_pos hfw]), trivial⟩, rfl, rfl, (zP E_kk E_v), fun h3 E3 => by omega, by first | omega | (dsimp only; omega), ?_⟩
       repeat (first | exact qU _ _ _ | refine wB (by decide) ?_ | refine qS rfl ?_ | refine wN rfl ?_)
      ·skip
       refine qQ rfl c1 ?_
       refine qA (qB (v := .int .i64 _) rfl) ?_
       refine qQ rfl c1 ?_
       refine qA (qB (v := .int .i64 _) rfl) ?_
       refine qQ rfl c1 ?_
       refine qA (qK (v := .bool _) rfl) ?_
       refine qA (wY rfl c1 (v := .bool _) rfl) ?_
       refine qA (qB (v := .bool _) rfl) ?_
       rcases Bool.eq_false_or_eq_true (decide (((l.length - (kk + 1) : Nat) : Int) = life)) with c2 | c2
       ·skip
        have hfw : failW l hi lo many life (l.length - (kk + 1)) = true := by unfold failW; rw [hgd, c1, c2]; rfl
        refine wQ rfl c2 ?_
        refine wQ rfl c2 ?_
        refine wQ rfl c2 ?_
        refine wQ rfl c2 ?_
        refine wQ rfl c2 ?_
        refine wQ rfl c2 ?_
        refine wQ rfl c2 ?_
        refine guard_un rfl ?_
        refine guard_un rfl ?_
        refine guard_un rfl ?_
        refine wQ rfl c2 ?_
        refine qA (wX rfl c2 (v := .bool _) rfl) ?_
        refine xp_condT rfl (rfl) ?_
        refine qC rfl ?_
        refine qA (qB (v := .int .i64 _) rfl) ?_
        refine qA (qE (v := .int .i64 _) rfl) ?_
        refine qC rfl ?_
        refine qA (qB (v := .int .i64 _) rfl) ?_
        refine qA (qO rfl (by omega)) ?_
        refine qA (qE (v := .int .i64 _) rfl) ?_
        refine ⟨kk + 1, ⟨intE (by omega), intE (by rw [hfp, if_pos hfw]), trivial⟩, rfl, rfl, (zP E_kk E_v), fun h3 E3 => by omega, by first | omega | (dsimp only; omega), ?_⟩
        repeat (first | exact qU _ _ _ | refine wB (by decide) ?_ | refine qS rfl ?_ | refine wN rfl ?_)
       ·skip
        refine qQ rfl c2 ?_
        refine qA (qB (v := .slice _ _ _) rfl) ?_
        refine qQ rfl c2 ?_
        refine qA (qB (v := .int .i64 _) rfl) ?_
        refine qQ rfl c2 ?_
        refine qA (wM rfl hAw rfl rfl rfl (by omega) (by omega)) ?_
        refine qQ rfl c2 ?_
        refine qV (v := .int .i64 _) rfl rfl ((hcw) 0 _ rfl) ?_
        refine qQ rfl c2 ?_
        refine qA (qB (v := .int .i64 _) rfl) ?_
        refine qQ rfl c2 ?_
        refine qA (qK (v := .bool _) rfl) ?_
        refine qQ rfl c2 ?_
        refine qA (qB (v := .bool _) rfl) ?_
        rcases Bool.eq_false_or_eq_true (decide (l[l.length - (kk + 1)] ≤ lo)) with c3 | c3
        ·skip
         refine qQ rfl c3 ?_
         refine qA (qB (v := .int .i64 _) rfl) ?_
         refine qQ rfl c3 ?_
         refine qA (qB (v := .int .i64 _) rfl) ?_
         refine qQ rfl c3 ?_
         refine qA (qK (v := .bool _) rfl) ?_
         refine qQ rfl c2 ?_
         refine qA (wX rfl c3 (v := .bool _) rfl) ?_
         refine qA (wY rfl c2 (v := .bool _) rfl) ?_
         refine wA rfl (fun c4 => ?_) (fun c4 => ?_)
         ·skip
          have hfw : failW l hi lo many life (l.length - (kk + 1)) = true := by unfold failW; rw [hgd, c1, c2, c3, show decide ((coldN l lo (l.length - (kk + 1) + 1) : Int) = many) = true from by simpa using c4]; rfl
          refine qC rfl ?_
          refine qA (qB (v := .int .i64 _) rfl) ?_
          refine qA (qE (v := .int .i64 _) rfl) ?_
          refine qC rfl ?_
          refine qA (qB (v := .int .i64 _) rfl) ?_
          refine qA (qO rfl (by omega)) ?_
          refine qA (qE (v := .int .i64 _) rfl) ?_
          refine ⟨kk + 1, ⟨intE (by omega), intE (by rw [hfp, if_pos hfw]), trivial⟩, rfl, rfl, (zP E_kk E_v), fun h3 E3 => by omega, by first | omega | (dsimp only; omega), ?_⟩
          repeat (first | exact qU _ _ _ | refine wB (by decide) ?_ | refine qS rfl ?_ | refine wN rfl ?_)
         ·skip
          have hfw : ¬ failW l hi lo many life (l.length - (kk + 1)) = true := by unfold failW; rw [hgd, c1, c2, c3, show decide ((coldN l lo (l.length - (kk + 1) + 1) : Int) = many) = false from by simpa using c4]; simp
          refine qT ?_
          refine qC rfl ?_
          refine qA (qB (v := .int .i64 _) rfl) ?_
          refine qA (qO rfl (by omega)) ?_
          refine qA (qE (v := .int .i64 _) rfl) ?_
          refine ⟨kk + 1, ⟨intE (by omega), intE (by rw [hfp, if_neg hfw]), trivial⟩, rfl, rfl, (zP E_kk E_v), fun h3 E3 => by omega, by first | omega | (dsimp only; omega), ?_⟩
          repeat (first | exact qU _ _ _ | refine wB (by decide) ?_ | refine qS rfl ?_ | refine wN rfl ?_)
        ·skip
         have hfw : ¬ failW l hi lo many life (l.length - (kk + 1)) = true := by unfold failW; rw [hgd, c1, c2, c3]; simp
         refine wQ rfl c3 ?_
         refine wQ rfl c3 ?_
         refine wQ rfl c3 ?_
         refine qQ rfl c2 ?_
         refine qA (wY rfl c3 (v := .bool _) rfl) ?_
         refine qA (wY rfl c2 (v := .bool _) rfl) ?_
         refine zI rfl (rfl) ?_
         refine qT ?_
         refine qC rfl ?_
         refine qA (qB (v := .int .i64 _) rfl) ?_
         refine qA (qO rfl (by omega)) ?_
         refine qA (qE (v := .int .i64 _) rfl) ?_
         refine ⟨kk + 1, ⟨intE (by omega), intE (by rw [hfp, if_neg hfw]), trivial⟩, rfl, rfl, (zP E_kk E_v), fun h3 E3 => by omega, by first | omega | (dsimp only; omega), ?_⟩
         repeat (first | exact qU _ _ _ | refine wB (by decide) ?_ | refine qS rfl ?_ | refine wN rfl ?_)
    ·skip
     have hkk : kk = l.length := by have := of_decide_eq_false hw3; omega
     subst hkk
     refine wU ?_
     refine qC rfl ?_
     refine qA (qG rfl rfl rfl rfl 2 rfl) ?_
     refine qI 4 (v := .slice _ _ _) rfl rfl rfl rfl ?_
     refine qA (qB (v := .int .i64 _) rfl) ?_
     refine wG (zc := [_]) (vs := [(0, .int .i64 _)]) (cs := [_]) rfl rfl rfl rfl rfl rfl rfl fun b170 hb170 => ?_
     refine qH [_, _, _, _, _, _, _, _, _, _, _, _, _, _, _] rfl ?_
     refine zK 10 r6 rfl rfl rfl (fun V => rdP V (i := 14) rfl) rfl rfl rfl rfl rfl rfl rfl rfl rfl (by omega) rfl (by rw [wS (m := 1) (fun _ _ => rfl), fl]; simp; omega) fun a6' h11a E11a ra6 => ?_
     refine qH [_, _, _, _, _, _, _, _, _, _, _, _, _, _, _] rfl ?_
     have hJT : JointT wt dt ⟨kd, ⟨max (-50) (hi - u11), min 100 (hi + w11)⟩, ⟨max (-50) (lo - u12), min 100 (lo + w12)⟩, ⟨max 1 (many - u13), min 6 (many + w13)⟩, ⟨max 0 (life - u14), min 9 (life + w14)⟩⟩ (failP l hi lo many life l.length : Nat) hi lo many life := by
      refine ⟨?_, ⟨many1, many2⟩, hlife, ⟨u11, w11, u111, u112, w111, w112, rfl⟩, ⟨u12, w12, u121, u122, w121, w122, rfl⟩, ⟨u13, w13, u131, u132, w131, w132, rfl⟩, ⟨u14, w14, u141, u142, w141, w142, rfl⟩, ?_⟩
      ·rcases hcase with c | c
       ·exact .inl ⟨c.1, c.2.2⟩
       ·exact .inr ⟨c.1, c.2.2⟩
      ·rcases hcase with c | c
       ·rw [c.1, if_pos rfl, ← c.2.1]; rfl
       ·rw [c.1, if_neg (by show ¬ (2 : Int) = 1; decide), ← c.2.1]; rfl
     refine qA (qG rfl rfl rfl rfl 2 rfl) ?_
     refine qJ 4 (v := .slice _ _ _) (vs := [_]) (c' := [_, _, _]) rfl rfl rfl rfl rfl rfl rfl rfl rfl ?_
     refine qH [_, _, _, _, _, _, _, _, _, _, _, _, _, _, _] rfl ?_
     refine qC rfl ?_
     refine qA (qB (v := .int .i64 _) rfl) ?_
     refine qA (qO rfl (by omega)) ?_
     refine qA (qE (v := .int .i64 _) rfl) ?_
     refine ⟨(i - 1, y14, js ++ [⟨kd, ⟨max (-50) (hi - u11), min 100 (hi + w11)⟩, ⟨max (-50) (lo - u12), min 100 (lo + w12)⟩, ⟨max 1 (many - u13), min 6 (many + w13)⟩, ⟨max 0 (life - u14), min 9 (life + w14)⟩⟩], fs ++ [((failP l hi lo many life l.length : Nat) : Int)], a5', a6'), ⟨rfl, trivial⟩, rfl, rfl, (zP (zP (zP (zP (zP (zP (zP (zP (zP (zP (zP (zP (zP (zP (zP E_i F2) F3) F4) E_z) F7) F8) F9) F10) F11) F12) F13) F14) E8a) E_kk) E11a), fun h3 E3 => ⟨⟨by omega, by simp; omega⟩, m3.snoc hJT, by rw [List.flatMap_append]; exact ra5, by rw [List.flatMap_append]; exact ra6⟩, by first | omega | (dsimp only; omega), ?_⟩
     repeat (first | exact qU _ _ _ | refine wB (by decide) ?_ | refine qS rfl ?_ | refine wN rfl ?_)
  ·skip
   have hi0' : i = 0 := by have := of_decide_eq_false ht2; omega
   obtain ⟨p5, A5, n5, c5⟩ := a5
   obtain ⟨p6, A6, n6, c6⟩ := a6
   dsimp only at *
   obtain rfl : n5 = js.length := by have := AccR.len r5; rw [wS (m := 9) (fun _ _ => rfl)] at this; dsimp only at this; omega
   obtain rfl : n6 = fs.length := by have := AccR.len r6; rw [wS (m := 1) (fun _ _ => rfl)] at this; dsimp only at this; omega
   refine goes_pubO 10 rfl ?_
   intro g6 G6 P6
   refine qP [_, _, _, _, _, _, _, _, _, _, _] rfl ?_
   have R6 : Row g6 1 intC A6 fs := ⟨fun _ _ => rfl, AccR.rd r6 P6⟩
   refine goes_more ?_
   refine qP [_, _, _, _, _, _, _, _, _, _, _, _] rfl ?_
   refine wU ?_
   refine qF ?_
   refine qF ?_
   refine qC rfl ?_
   refine qA (qB (v := .pointer (some ⟨b, 0, none⟩)) rfl) ?_
   refine qA (qB (v := .int .i64 _) rfl) ?_
   refine zL [] [_] [_, _, _, _, _, _, _, _, _, _, _] (vs := [.pointer _, .int .i64 _]) rfl rfl rfl ((Upto_ok b y reports (by omega) g6)) ?_
   rintro _ k20 _ F20 ⟨y20, i20, rfl, rfl, i201, i202⟩
   refine qH [_, _, _, _, _, _, _, _, _, _, _, _] rfl ?_
   refine qA (qE (v := .int .i64 _) rfl) ?_
   refine qN ?_
   refine xp_loopL [26, 176, 177, 178, 179, 180, 181, 182, 183, 184, 185, 186, 187, 188, 189, 190, 191, 192, 193] 12 (α := Int × Nat × List Seen × Acc) (fun ⟨e, y, rs, a7⟩ => [(26, .int .i64 e)]) (fun ⟨e, y, rs, a7⟩ L => ((L.set 0 (some (b, .cells #[.int .u64 (y : Int)] 67 (0, 0)))).set 3 (some (b10, .cells #[.slice A3 hs.length c3, .slice A4 ds.length c4, .slice A5 js.length c5, .slice a7.A a7.n a7.c] 29 (0, 0)))).set 11 (a7.p)) (fun ⟨e, y, rs, a7⟩ h_e => (0 ≤ e ∧ e + rs.length ≤ reports) ∧ (∀ r ∈ rs, SeenT wt.length fs r) ∧ AccR 36 3 (rs.flatMap seenC) a7) (fun ⟨e, y, rs, a7⟩ => e.toNat) ((i20, y20, [], acc0)) ⟨rfl, trivial⟩ (rfl) (⟨⟨i201, by simp; omega⟩, fun _ h => (by cases h), accR0⟩) ?_
   rintro ⟨e, y, rs, a7⟩ T12 h_e E_e J_e
   refine qP [_, _, _, _, _, _, _, _, _, _, _, _] rfl ?_
   obtain ⟨⟨s1, s2⟩, s3, r7⟩ := J_e
   refine qF ?_
   refine qF ?_
   refine qC rfl ?_
   refine qA (qB (v := .int .i64 _) rfl) ?_
   refine qA (qK (v := .bool _) rfl) ?_
   refine qA (qB (v := .bool _) rfl) ?_
   rcases Bool.eq_false_or_eq_true (decide (e > 0)) with he | he
   ·skip
    have he' : 0 < e := of_decide_eq_true he
    refine qQ rfl he ?_
    refine qA (qG rfl rfl rfl rfl 2 rfl) ?_
    refine qQ rfl he ?_
    refine qI 3 (v := .slice _ _ _) rfl rfl rfl rfl ?_
    refine qQ rfl he ?_
    refine qA (wV rfl rfl) ?_
    refine qQ rfl he ?_
    refine qA (qK (v := .bool _) rfl) ?_
    refine qA (wX rfl he (v := .bool _) rfl) ?_
    refine wA rfl (fun hjl => ?_) (fun hjl => ?_)
    ·skip
     have hjl' : 0 < fs.length := by have := of_decide_eq_true hjl; omega
     refine qT ?_
     refine qF ?_
     refine qN ?_
     refine zB [true, false, false, false, false, false, false, false, false, false, false, true] rfl rfl rfl ?_
     refine qD (i := 0) rfl (by decide +kernel) (qG rfl rfl rfl rfl 3 rfl) ?_
     refine qL (i := 1) rfl (by decide +kernel) ?_
     refine qI 3 (v := .slice _ _ _) rfl rfl rfl rfl ?_
     refine qD (i := 2) rfl (by decide +kernel) (qB (v := .pointer (some ⟨b, 0, none⟩)) rfl) ?_
     refine qL (i := 3) rfl (by decide +kernel) ?_
     refine qX 4 (vs := [.slice _ _ _, .slice _ _ _, .slice _ _ _]) rfl rfl rfl rfl rfl ?_
     refine zD (i := 4) rfl (by decide +kernel) ?_
     refine zL [] [_] [_, _, _, _, _, _, _, _, _, _, _] (vs := [.pointer _, .agg #[.slice _ _ _, .slice _ _ _, .slice _ _ _]]) rfl rfl rfl ((SeenOf_ok b y wt.length dt.length (by omega) (by omega) fs hjl' (by omega) A1 A2 A6 c1 c2 c6 h_e (R6.ext (zP F20 E_e)))) ?_
     rintro _ k21 _ F21 ⟨y21, sr, rfl, rfl, sr1⟩
     refine ⟨ext_wlm F21 _, ?_⟩
     refine qZ [_, _, _, _, _, _, _, _, _, _, _, _] rfl ?_
     refine zD (i := 5) rfl (by decide +kernel) ?_
     refine wG (zc := [_, _, _]) (vs := [(0, .agg #[.int .i64 _, .int .i64 _, .bool _])]) (cs := [_, _, _]) rfl rfl rfl rfl rfl rfl rfl fun b191 hb191 => ?_
     refine ⟨ext_newM hb191 _, ?_⟩
     refine qZ [_, _, _, _, _, _, _, _, _, _, _, _, _] rfl ?_
     refine wI (i := 6) rfl (by decide +kernel) (by decide +kernel) ?_
     refine zK 11 r7 rfl rfl rfl (fun V => rdP V (i := 12) rfl) rfl rfl rfl rfl rfl rfl rfl rfl rfl (by omega) rfl (by rw [wS (m := 3) (fun _ _ => rfl)]; simp; omega) fun a7' h13a E13a ra7 => ?_
     refine qZ [_, _, _, _, _, _, _, _, _, _, _, _, _] rfl ?_
     refine qD (i := 7) rfl (by decide +kernel) (qG rfl rfl rfl rfl 3 rfl) ?_
     refine wI (i := 8) rfl (by decide +kernel) (by decide +kernel) ?_
     refine qJ 3 (v := .slice _ _ _) (vs := [_]) (c' := [_, _, _, _]) rfl rfl rfl rfl rfl rfl rfl rfl rfl ?_
     refine qZ [_, _, _, _, _, _, _, _, _, _, _, _, _] rfl ?_
     refine wW rfl ?_
     refine qC rfl ?_
     refine qA (qB (v := .int .i64 _) rfl) ?_
     refine qA (qO rfl (by omega)) ?_
     refine qA (qE (v := .int .i64 _) rfl) ?_
     refine ⟨(e - 1, y21, rs ++ [sr], a7'), ⟨rfl, trivial⟩, rfl, rfl, (zP (zP E_e F21) E13a), fun h3 E3 => ⟨⟨by omega, by simp; omega⟩, memS s3 sr1, by rw [List.flatMap_append]; exact ra7⟩, by first | omega | (dsimp only; omega), ?_⟩
     repeat (first | exact qU _ _ _ | refine wB (by decide) ?_ | refine qS rfl ?_ | refine wN rfl ?_)
    ·skip
     obtain ⟨p7, A7, n7, c7⟩ := a7
     dsimp only at *
     obtain rfl : n7 = rs.length := by have := AccR.len r7; rw [wS (m := 3) (fun _ _ => rfl)] at this; dsimp only at this; omega
     refine wU ?_
     refine qF ?_
     refine zB [false, true, true] rfl rfl rfl ?_
     refine qL (i := 0) rfl (by decide +kernel) ?_
     refine qX 3 (vs := [.slice _ _ _, .slice _ _ _, .slice _ _ _, .slice _ _ _]) rfl rfl rfl rfl rfl ?_
     refine qL (i := 1) rfl (by decide +kernel) ?_
     refine qX 4 (vs := [.slice _ _ _, .slice _ _ _, .slice _ _ _]) rfl rfl rfl rfl rfl ?_
     refine zD (i := 2) rfl (by decide +kernel) ?_
     refine qJ 1 (v := .agg #[.slice _ _ _, .slice _ _ _, .slice _ _ _, .slice _ _ _]) (vs := [_, _, _, _]) (c' := [_, _, _, _]) rfl rfl rfl rfl rfl rfl rfl rfl rfl ?_
     refine ⟨Ext.refl _, ?_⟩
     refine qZ [_, _, _, _, _, _, _, _, _, _, _, _] rfl ?_
     refine wI (i := 3) rfl (by decide +kernel) (by decide +kernel) ?_
     refine qJ 2 (v := .agg #[.slice _ _ _, .slice _ _ _, .slice _ _ _]) (vs := [_, _, _]) (c' := [_, _, _]) rfl rfl rfl rfl rfl rfl rfl rfl rfl ?_
     refine qZ [_, _, _, _, _, _, _, _, _, _, _, _] rfl ?_
     refine wW rfl ?_
     refine wK ?_
     refine qW (vs := [_, _]) Try.results5 ⟨resV_agg 1 rfl rfl rfl rfl rfl (vs := [.slice _ _ _, .slice _ _ _, .slice _ _ _, .slice _ _ _]) rfl, resV_agg 2 rfl rfl rfl rfl rfl (vs := [.slice _ _ _, .slice _ _ _, .slice _ _ _]) rfl, trivial⟩ fun V => ?_
     obtain ⟨h9, E9, e9, V9⟩ := wl_two [_, _, _, _, _, _, _, _] [_] [] V
     exact ⟨h9, _, e9, V9, zP (zP (zP (zP (zP (zP (zP (zP (zP (zP (zP E1 E_q) G1) G2) G3) G4) F1) E_i) G6) F20) E_e) E9, y, ⟨hs, ds, js, rs⟩, wt, dt, fs, _, _, ⟨p5, A5, js.length, c5⟩, ⟨p7, A7, rs.length, c7⟩, rfl, rfl, ⟨by omega, by omega, j4, j5, j6, j7, j8, by show js.length ≤ _; omega, m3, by show rs.length ≤ _; omega, s3⟩, r5, r7, ⟨A3, c3, A4, c4, rfl, (R3.ext (zP (zP (zP (zP F1 E_i) G6) F20) E_e)).ext E9, (R4.ext (zP (zP (zP (zP F1 E_i) G6) F20) E_e)).ext E9⟩, A1, c1, A2, c2, A6, c6, rfl, (R1.ext (zP (zP (zP (zP F1 E_i) G6) F20) E_e)).ext E9, (R2.ext (zP (zP (zP (zP F1 E_i) G6) F20) E_e)).ext E9, (R6.ext (zP F20 E_e)).ext E9⟩
   ·skip
    refine wQ rfl he ?_
    refine wQ rfl he ?_
    refine wQ rfl he ?_
    refine wQ rfl he ?_
    refine qA (wY rfl he (v := .bool _) rfl) ?_
    refine zI rfl (rfl) ?_
    obtain ⟨p7, A7, n7, c7⟩ := a7
    dsimp only at *
    obtain rfl : n7 = rs.length := by have := AccR.len r7; rw [wS (m := 3) (fun _ _ => rfl)] at this; dsimp only at this; omega
    refine wU ?_
    refine qF ?_
    refine zB [false, true, true] rfl rfl rfl ?_
    refine qL (i := 0) rfl (by decide +kernel) ?_
    refine qX 3 (vs := [.slice _ _ _, .slice _ _ _, .slice _ _ _, .slice _ _ _]) rfl rfl rfl rfl rfl ?_
    refine qL (i := 1) rfl (by decide +kernel) ?_
    refine qX 4 (vs := [.slice _ _ _, .slice _ _ _, .slice _ _ _]) rfl rfl rfl rfl rfl ?_
    refine zD (i := 2) rfl (by decide +kernel) ?_
    refine qJ 1 (v := .agg #[.slice _ _ _, .slice _ _ _, .slice _ _ _, .slice _ _ _]) (vs := [_, _, _, _]) (c' := [_, _, _, _]) rfl rfl rfl rfl rfl rfl rfl rfl rfl ?_
    refine ⟨Ext.refl _, ?_⟩
    refine qZ [_, _, _, _, _, _, _, _, _, _, _, _] rfl ?_
    refine wI (i := 3) rfl (by decide +kernel) (by decide +kernel) ?_
    refine qJ 2 (v := .agg #[.slice _ _ _, .slice _ _ _, .slice _ _ _]) (vs := [_, _, _]) (c' := [_, _, _]) rfl rfl rfl rfl rfl rfl rfl rfl rfl ?_
    refine qZ [_, _, _, _, _, _, _, _, _, _, _, _] rfl ?_
    refine wW rfl ?_
    refine wK ?_
    refine qW (vs := [_, _]) Try.results5 ⟨resV_agg 1 rfl rfl rfl rfl rfl (vs := [.slice _ _ _, .slice _ _ _, .slice _ _ _, .slice _ _ _]) rfl, resV_agg 2 rfl rfl rfl rfl rfl (vs := [.slice _ _ _, .slice _ _ _, .slice _ _ _]) rfl, trivial⟩ fun V => ?_
    obtain ⟨h9, E9, e9, V9⟩ := wl_two [_, _, _, _, _, _, _, _] [_] [] V
    exact ⟨h9, _, e9, V9, zP (zP (zP (zP (zP (zP (zP (zP (zP (zP (zP E1 E_q) G1) G2) G3) G4) F1) E_i) G6) F20) E_e) E9, y, ⟨hs, ds, js, rs⟩, wt, dt, fs, _, _, ⟨p5, A5, js.length, c5⟩, ⟨p7, A7, rs.length, c7⟩, rfl, rfl, ⟨by omega, by omega, j4, j5, j6, j7, j8, by show js.length ≤ _; omega, m3, by show rs.length ≤ _; omega, s3⟩, r5, r7, ⟨A3, c3, A4, c4, rfl, (R3.ext (zP (zP (zP (zP F1 E_i) G6) F20) E_e)).ext E9, (R4.ext (zP (zP (zP (zP F1 E_i) G6) F20) E_e)).ext E9⟩, A1, c1, A2, c2, A6, c6, rfl, (R1.ext (zP (zP (zP (zP F1 E_i) G6) F20) E_e)).ext E9, (R2.ext (zP (zP (zP (zP F1 E_i) G6) F20) E_e)).ext E9, (R6.ext (zP F20 E_e)).ext E9⟩
end Go.Proofs.Ytgjcepdhclmglaa
namespace Go.Wx
open Go Go.HL
variable [Lvl]
theorem list_ends : ∀ m : Fin 128, ∀ w : Fin 7, m.val ≠ 0 → (decide (uptoM m.val w.val ≠ 0) = decide ((listM m.val).headD 0 ≤ (w.val : Int))) ∧ (decide (m.val ≠ uptoM m.val w.val) = decide ((listM m.val).getLastD 0 > (w.val : Int))) ∧ (listM m.val).headD 0 ≤ (listM m.val).getLastD 0 := by decide +kernel
theorem firstErr_all {α : Type} {f : α → Int} : ∀ {l : List α}, (∀ x ∈ l, f x = 0) → firstErr f l = 0
 | [], _ => rfl
 | y :: l, h => by
  rw [firstErr, if_neg (by simp [h y (List.mem_cons_self ..)])]
  exact firstErr_all fun x hx => h x (List.mem_cons_of_mem _ hx)
theorem checkRange_of {x : Rg} {lo hi : Int} (h : lo ≤ x.mn ∧ x.mn ≤ x.mx ∧ x.mx ≤ hi) : checkRangeM x lo hi = 0 := by
 unfold checkRangeM inM
 rw [if_neg (by simp; omega), if_neg (by simp; omega), if_neg (by omega)]
theorem checkWeather_of {x : Rg} (h : -50 ≤ x.mn ∧ x.mn ≤ x.mx ∧ x.mx ≤ 100 ∧ x.mx - x.mn ≤ 2) : checkWeatherM x = 0 := by
 unfold checkWeatherM
 rw [checkRange_of ⟨h.1, h.2.1, h.2.2.1⟩, if_neg (by simp), if_neg (by omega)]
theorem NearR.bd {t lo hi d : Int} {r : Rg} (n : NearR t lo hi d r) (h1 : lo ≤ t) (h2 : t ≤ hi) : lo ≤ r.mn ∧ r.mn ≤ t ∧ t ≤ r.mx ∧ r.mx ≤ hi ∧ r.mx - r.mn ≤ 2 * d := by
 obtain ⟨u, w, a, b, c, e, rfl⟩ := n
 dsimp only
 omega
theorem NearL.mem {ts : List Int} {rs : List Rg} (n : NearL ts rs) {r : Rg} (h : r ∈ rs) : ∃ t ∈ ts, NearR t (-50) 100 1 r := by
 obtain ⟨i, hi⟩ := List.mem_iff_getElem?.1 h
 have hl := (List.getElem?_eq_some_iff.1 hi).1
 have hl' : i < ts.length := by rw [← n.len]; exact hl
 have ht : ts[i]? = some ts[i] := List.getElem?_eq_getElem hl'
 exact ⟨ts[i], List.getElem_mem _, n.at' i _ r ht hi⟩
section
variable {weeks joints reports : Nat} {s : Season} {ht dt fs : List Int} (T : SeasonT weeks joints reports s ht dt fs) (hw : weeks ≤ 6) (hj : joints ≤ 3) (hr : reports ≤ 5)
include T hw hj hr
theorem check_T : checkM s = 0 := by
 have h1 := T.w1
 have h2 := T.ww
 have h3 := T.hn.len
 have h4 := T.dn.len
 have h5 := T.dl
 have h6 := T.jl
 have h7 := T.rl
 have hwt : firstErr checkWeatherM (s.heats ++ s.damps) = 0 := firstErr_all fun r h => by
  rcases List.mem_append.1 h with h | h
  ·obtain ⟨t, ht', n⟩ := T.hn.mem h
   have := T.hb t ht'
   have := n.bd (by omega) (by omega)
   exact checkWeather_of (by omega)
  ·obtain ⟨t, ht', n⟩ := T.dn.mem h
   have := T.db t ht'
   have := n.bd (by omega) (by omega)
   exact checkWeather_of (by omega)
 have hjt : firstErr checkJointM s.joints = 0 := firstErr_all fun j h => by
  obtain ⟨i, hi⟩ := List.mem_iff_getElem?.1 h
  have hl := (List.getElem?_eq_some_iff.1 hi).1
  have hl' : i < fs.length := by rw [T.js.len]; exact hl
  have hf : fs[i]? = some fs[i] := List.getElem?_eq_getElem hl'
  obtain ⟨a, b, c, d, J⟩ := T.js.at' i j _ hi hf
  have k := J.k
  have m := J.m
  have l := J.l
  have n1 := J.h1.bd (by omega) (by omega)
  have n2 := J.h2.bd (by omega) (by omega)
  have n3 := J.h3.bd (by omega) (by omega)
  have n4 := J.h4.bd (by omega) (by omega)
  unfold checkJointM inM
  rw [if_neg (by simp; omega), checkWeather_of (x := j.high) (by omega), if_neg (by simp), checkWeather_of (x := j.low) (by omega), if_neg (by simp), checkRange_of (x := j.weeks) (by omega), if_neg (by simp), checkRange_of (x := j.life) (by omega)]
 have hrt : firstErr (checkSeenM s) s.reports = 0 := firstErr_all fun r h => by
  obtain ⟨a, b, c, d, _⟩ := T.rs r h
  have := T.js.len
  unfold checkSeenM inM
  rw [if_neg (by simp; omega), if_neg (by simp; omega)]
 unfold checkM
 rw [if_neg (by omega), if_neg (by omega), if_neg (by omega), if_neg (by omega), hwt, if_neg (by simp), if_neg (by omega), hjt, if_neg (by simp), if_neg (by omega), hrt]
end
def skyOf (l : List Int) : Sky := ⟨l.getD 0 0, l.getD 1 0, l.getD 2 0, l.getD 3 0, l.getD 4 0, l.getD 5 0⟩
theorem skyOf_at (l : List Int) : ∀ w, w < 6 → (skyOf l).at w = l.getD w 0
 | 0, _ => rfl
 | 1, _ => rfl
 | 2, _ => rfl
 | 3, _ => rfl
 | 4, _ => rfl
 | 5, _ => rfl
 | w + 6, h => by omega
theorem Sky.ext_at {x y : Sky} (h : ∀ i, i < 6 → x.at i = y.at i) : x = y := by
 obtain ⟨a0, a1, a2, a3, a4, a5⟩ := x
 obtain ⟨b0, b1, b2, b3, b4, b5⟩ := y
 have h0 := h 0 (by omega); have h1 := h 1 (by omega); have h2 := h 2 (by omega); have h3 := h 3 (by omega); have h4 := h 4 (by omega); have h5 := h 5 (by omega)
 simp only [Sky.at] at h0 h1 h2 h3 h4 h5
 rw [h0, h1, h2, h3, h4, h5]
theorem Sky.at_set (x : Sky) (v : Int) {k i : Nat} (hk : k < 6) (hi : i < 6) : (x.set k v).at i = if i = k then v else x.at i := by
 match k, hk, i, hi with
 | 0, _, i, hi => match i, hi with | 0, _ => rfl | 1, _ => rfl | 2, _ => rfl | 3, _ => rfl | 4, _ => rfl | 5, _ => rfl | i + 6, h => omega
 | 1, _, i, hi => match i, hi with | 0, _ => rfl | 1, _ => rfl | 2, _ => rfl | 3, _ => rfl | 4, _ => rfl | 5, _ => rfl | i + 6, h => omega
 | 2, _, i, hi => match i, hi with | 0, _ => rfl | 1, _ => rfl | 2, _ => rfl | 3, _ => rfl | 4, _ => rfl | 5, _ => rfl | i + 6, h => omega
 | 3, _, i, hi => match i, hi with | 0, _ => rfl | 1, _ => rfl | 2, _ => rfl | 3, _ => rfl | 4, _ => rfl | 5, _ => rfl | i + 6, h => omega
 | 4, _, i, hi => match i, hi with | 0, _ => rfl | 1, _ => rfl | 2, _ => rfl | 3, _ => rfl | 4, _ => rfl | 5, _ => rfl | i + 6, h => omega
 | 5, _, i, hi => match i, hi with | 0, _ => rfl | 1, _ => rfl | 2, _ => rfl | 3, _ => rfl | 4, _ => rfl | 5, _ => rfl | i + 6, h => omega
 | k + 6, h, _, _ => omega
theorem mem_skies {y : Sky} : ∀ (rs : List Rg) (k : Nat) (x : Sky), k + rs.length ≤ 6 → (∀ (i : Nat) r, rs[i]? = some r → r.mn ≤ y.at (k + i) ∧ y.at (k + i) ≤ r.mx) → (∀ i, i < 6 → i < k ∨ k + rs.length ≤ i → y.at i = x.at i) → y ∈ skiesM rs k x
 | [], k, x, _, _, h => by
  rw [skiesM, List.mem_singleton]
  exact Sky.ext_at fun i hi => h i hi (by simp; omega)
 | r :: rs, k, x, hl, hr, h => by
  rw [List.length_cons] at hl h
  rw [skiesM, List.mem_flatMap]
  have h0 := hr 0 r rfl
  refine ⟨y.at k, mem_rangeI.2 (by rw [Nat.add_zero] at h0; omega), mem_skies rs (k + 1) _ (by omega) (fun i q hq => ?_) (fun i hi hc => ?_)⟩
  ·have := hr (i + 1) q (by simpa using hq)
   rw [show k + 1 + i = k + (i + 1) by omega]
   exact this
  ·rw [Sky.at_set x _ (by omega) hi]
   split
   ·rename_i e; rw [e]
   ·exact h i hi (by omega)
end Go.Wx
namespace Go.Wx
open Go Go.HL
variable [Lvl]
theorem failP_spec (x : List Int) (hi lo many life : Int) : ∀ k, k ≤ x.length → x.length - k ≤ failP x hi lo many life k ∧ failP x hi lo many life k ≤ x.length ∧ (failP x hi lo many life k < x.length → failW x hi lo many life (failP x hi lo many life k) = true) ∧ ∀ w, x.length - k ≤ w → w < failP x hi lo many life k → failW x hi lo many life w = false
 | 0, _ => ⟨by simp [failP], by simp [failP], fun h => absurd h (by simp [failP]), fun w h1 h2 => by simp [failP] at h2; omega⟩
 | k + 1, hk => by
  obtain ⟨a, b, c, d⟩ := failP_spec x hi lo many life k (by omega)
  unfold failP
  split
  ·rename_i h
   exact ⟨Nat.le_refl _, by omega, fun _ => h, fun w h1 h2 => by omega⟩
  ·rename_i h
   refine ⟨by omega, b, c, fun w h1 h2 => ?_⟩
   by_cases hw : w = x.length - (k + 1)
   ·rw [hw]; simpa using h
   ·exact d w (by omega) h2
theorem failT_eq {x : List Int} {hi lo many life : Int} {f : Nat} (h1 : f ≤ x.length) (h2 : f < x.length → failW x hi lo many life f = true) (h3 : ∀ w, w < f → failW x hi lo many life w = false) : failT x hi lo many life = f := by
 obtain ⟨_, b, c, d⟩ := failP_spec x hi lo many life x.length (Nat.le_refl _)
 unfold failT
 rcases Nat.lt_trichotomy (failP x hi lo many life x.length) f with h | h | h
 ·have := h3 _ h
  rw [c (by omega)] at this
  cases this
 ·exact h
 ·have := d f (by omega) h
  rw [h2 (by omega)] at this
  cases this
theorem coldM_cold (l : List Int) (c : Int) : ∀ k, k ≤ l.length → l.length ≤ 6 → (coldM (skyOf l) c k).length = coldN l c k
 | 0, _, _ => rfl
 | k + 1, hk, h6 => by
  have hkl : k < l.length := by omega
  rw [coldM_succ, coldN_succ hkl, ← coldM_cold l c k (by omega) h6, skyOf_at l k (by omega), List.getD_eq_getElem?_getD, List.getElem?_eq_getElem hkl]
  show (if l[k] ≤ c then _ else _ : List Int).length = _
  split <;> simp
theorem coldM_at (x : Sky) (c : Int) (w n : Nat) (hw : w < n) (hc : x.at w ≤ c) : (coldM x c n)[(coldM x c w).length]? = some (w : Int) := by
 induction n with
 | zero => omega
 | succ n ih =>
  rw [coldM_succ]
  by_cases h : w = n
  ·subst h
   rw [if_pos hc, List.getElem?_append_right (Nat.le_refl _)]
   simp
  ·have := ih (by omega)
   split
   ·rw [List.getElem?_append_left (List.getElem?_eq_some_iff.1 this).1]; exact this
   ·exact this
end Go.Wx
namespace Go.Wx
open Go Go.HL
variable [Lvl]
theorem listN_pair (m : Nat) : ∀ k, (listN m k).Pairwise (· < ·)
 | 0 => by simp [listN]
 | k + 1 => by
  rw [listN_succ]
  split
  ·rw [List.pairwise_append]
   refine ⟨listN_pair m k, by simp, fun a ha b hb => ?_⟩
   obtain ⟨i, rfl, hi, _⟩ := listN_mem ha
   simp at hb
   subst hb
   omega
  ·exact listN_pair m k
theorem mem_listN {m k : Nat} {z : Int} : z ∈ listN m k ↔ ∃ i : Nat, z = i ∧ i < k ∧ m.testBit i = true := by
 refine ⟨listN_mem, ?_⟩
 rintro ⟨i, rfl, hi, hb⟩
 unfold listN
 simp only [List.mem_map, List.mem_filter, List.mem_range]
 exact ⟨i, ⟨hi, hb⟩, rfl⟩
theorem when0_spec (x : Sky) (n : Nat) (h : Int) (hn : n ≤ 6) : when0 x n h ≤ n ∧ (when0 x n h < n → h ≤ x.at (when0 x n h)) ∧ ∀ w, w < n → h ≤ x.at w → when0 x n h ≤ w := by
 unfold when0
 have hp := listN_pair (hotM x h n) 7
 have hm := @mem_listN _ (hotM x h n) 7
 split
 ·rename_i e
  refine ⟨Nat.le_refl _, fun h => absurd h (by omega), fun w hw hh => ?_⟩
  have : (w : Int) ∈ listN (hotM x h n) 7 := hm.2 ⟨w, rfl, by omega, by rw [hotM_bit]; simp [hw, hh]⟩
  rw [show listN (hotM x h n) 7 = [] from e] at this
  cases this
 ·rename_i w l e
  rw [show listN (hotM x h n) 7 = w :: l from e] at hp hm
  obtain ⟨i, rfl, hi, hb⟩ := hm.1 (List.mem_cons_self ..)
  rw [hotM_bit] at hb
  simp at hb
  refine ⟨by simp; omega, fun _ => by simpa using hb.2, fun w hw hh => ?_⟩
  have : (w : Int) ∈ (i : Int) :: l := hm.2 ⟨w, rfl, by omega, by rw [hotM_bit]; simp [hw, hh]⟩
  rcases List.mem_cons.1 this with h1 | h1
  ·simp; omega
  ·have := (List.pairwise_cons.1 hp).1 _ h1
   simp; omega
theorem coldM_pair (x : Sky) (c : Int) : ∀ k, (coldM x c k).Pairwise (· < ·)
 | 0 => by simp [coldM]
 | k + 1 => by
  rw [coldM_succ]
  split
  ·rw [List.pairwise_append]
   refine ⟨coldM_pair x c k, by simp, fun a ha b hb => ?_⟩
   obtain ⟨i, rfl, hi, _⟩ := coldM_mem ha
   simp at hb
   subst hb
   omega
  ·exact coldM_pair x c k
theorem pair_inj {l : List Int} (hp : l.Pairwise (· < ·)) {i j : Nat} {z : Int} (hi : l[i]? = some z) (hj : l[j]? = some z) : i = j := by
 obtain ⟨h1, e1⟩ := List.getElem?_eq_some_iff.1 hi
 obtain ⟨h2, e2⟩ := List.getElem?_eq_some_iff.1 hj
 rw [List.pairwise_iff_getElem] at hp
 rcases Nat.lt_trichotomy i j with h | h | h
 ·have := hp i j h1 h2 h; omega
 ·exact h
 ·have := hp j i h2 h1 h; omega
theorem when1_spec (l : List Int) (hl : l.length ≤ 6) (c : Int) (many : Nat) (hm : 1 ≤ many) : when1 (skyOf l) l.length c many ≤ l.length ∧ (when1 (skyOf l) l.length c many < l.length → (skyOf l).at (when1 (skyOf l) l.length c many) ≤ c ∧ coldN l c (when1 (skyOf l) l.length c many + 1) = many) ∧ ∀ w, w < l.length → (skyOf l).at w ≤ c → coldN l c (w + 1) = many → when1 (skyOf l) l.length c many = w := by
 have step : ∀ w, w < l.length → (skyOf l).at w ≤ c → coldN l c (w + 1) = (coldM (skyOf l) c w).length + 1 := by
  intro w hw hc
  rw [← coldM_cold l c (w + 1) (by omega) hl, coldM_succ, if_pos hc]
  simp
 have third : ∀ w, w < l.length → (skyOf l).at w ≤ c → coldN l c (w + 1) = many → when1 (skyOf l) l.length c many = w := by
  intro w hw hc he
  have h1 := coldM_at (skyOf l) c w l.length hw hc
  rw [step w hw hc] at he
  have h2 := (List.getElem?_eq_some_iff.1 h1).1
  unfold when1
  rw [if_pos (by omega), show many - 1 = (coldM (skyOf l) c w).length from by omega, List.getD_eq_getElem?_getD, h1]
  rfl
 unfold when1 at third ⊢
 by_cases h : many ≤ (coldM (skyOf l) c l.length).length
 ·rw [if_pos h] at third ⊢
  have hx : (coldM (skyOf l) c l.length)[many - 1]? = some ((coldM (skyOf l) c l.length)[many - 1]'(by omega)) := List.getElem?_eq_getElem (by omega)
  obtain ⟨w, hw, h1, h2⟩ := coldM_mem (List.getElem_mem (show many - 1 < (coldM (skyOf l) c l.length).length by omega))
  rw [hw] at hx
  have h3 := coldM_at (skyOf l) c w l.length h1 h2
  have h4 := pair_inj (coldM_pair _ _ _) hx h3
  rw [List.getD_eq_getElem?_getD, hx] at third ⊢
  refine ⟨by simp; omega, fun _ => ?_, third⟩
  simp only [Option.getD_some, Int.toNat_natCast]
  exact ⟨h2, by rw [step w h1 h2]; omega⟩
 ·rw [if_neg h] at third ⊢
  exact ⟨Nat.le_refl _, fun h => absurd h (by omega), third⟩
theorem weekM_T (l : List Int) (hl : l.length ≤ 6) (hi lo : Int) (many life : Nat) (hm : 1 ≤ many) : failT l hi lo many life = weekM (skyOf l) l.length hi lo many life := by
 obtain ⟨a1, a2, a3⟩ := when0_spec (skyOf l) l.length hi hl
 obtain ⟨b1, b2, b3⟩ := when1_spec l hl lo many hm
 have hat : ∀ w, w < l.length → l.getD w 0 = (skyOf l).at w := fun w hw => (skyOf_at l w (by omega)).symm
 refine failT_eq (weekM_le ..) (fun h => ?_) (fun w hw => ?_)
 ·unfold failW
  rw [hat _ h]
  simp only [Bool.or_eq_true, Bool.and_eq_true, decide_eq_true_eq]
  generalize he : weekM (skyOf l) l.length hi lo many life = f at h ⊢
  unfold weekM at he
  have : f = when0 (skyOf l) l.length hi ∨ f = when1 (skyOf l) l.length lo many ∨ f = life := by omega
  rcases this with e | e | e
  ·left; left; rw [e]; exact a2 (by omega)
  ·right; rw [e] at h ⊢; have := b2 h; exact ⟨this.1, by exact_mod_cast this.2⟩
  ·left; right; exact_mod_cast e
 ·have hwn : w < l.length := Nat.lt_of_lt_of_le hw (weekM_le ..)
  unfold weekM at hw
  unfold failW
  rw [hat _ hwn]
  rw [Bool.eq_false_iff]
  intro hc
  simp only [Bool.or_eq_true, Bool.and_eq_true, decide_eq_true_eq] at hc
  rcases hc with (h | h) | ⟨h1, h2⟩
  ·have := a3 w hwn h; omega
  ·omega
  ·have := b3 w hwn h1 (by exact_mod_cast h2); omega
theorem uptoM_bit (m k w : Nat) : (uptoM m k).testBit w = (m.testBit w && decide (w ≤ k)) := by
 unfold uptoM
 rw [Nat.testBit_and, Nat.testBit_two_pow_sub_one]
 congr 1
 rw [decide_eq_decide]
 omega
theorem toldStep_bit (j : Int) (m : Nat) (r : Seen) (w : Nat) (hw : w < 64) (hm : m < 2 ^ 64) (hr : 0 ≤ r.week) : (toldStep j m r).testBit w = (m.testBit w && (!decide (r.joint = j) || (r.failed == decide ((w : Int) ≤ r.week)))) := by
 have hwk : decide (w ≤ r.week.toNat) = decide ((w : Int) ≤ r.week) := by rw [decide_eq_decide]; omega
 unfold toldStep
 by_cases h : r.joint = j
 ·rw [if_neg (by simp [h])]
  cases hf : r.failed with
  | true => simp [uptoM_bit, h, hwk]
  | false =>
   have hu : uptoM m r.week.toNat < 2 ^ 64 := uptoM_lt hm
   simp only [h, Bool.false_eq_true, if_false, decide_true, Bool.not_true, Bool.false_or]
   rw [Nat.testBit_and, show 2 ^ 64 - 1 - uptoM m r.week.toNat = 2 ^ 64 - (uptoM m r.week.toNat + 1) from by omega, Nat.testBit_two_pow_sub_succ hu, uptoM_bit, hwk]
   cases m.testBit w <;> simp [hw]
 ·rw [if_pos h]; simp [h]
theorem toldW_bit (s : Season) (h6 : s.heats.length ≤ 6) (hr : ∀ r ∈ s.reports, 0 ≤ r.week) (i w : Nat) (hw : w < 64) : (toldW s i).testBit w = (decide (w ≤ s.heats.length) && s.reports.all fun r => !decide (r.joint = (i : Int)) || (r.failed == decide ((w : Int) ≤ r.week))) := by
 have key : ∀ (l : List Seen) (m : Nat), m < 2 ^ 64 → (∀ r ∈ l, 0 ≤ r.week) → (l.foldl (toldStep i) m).testBit w = (m.testBit w && l.all fun r => !decide (r.joint = (i : Int)) || (r.failed == decide ((w : Int) ≤ r.week))) := by
  intro l
  induction l with
  | nil => intro m _ _; simp
  | cons r l ih =>
   intro m hm hr
   rw [List.foldl_cons, ih _ (toldStep_lt hm) (fun q hq => hr q (List.mem_cons_of_mem _ hq)), toldStep_bit _ _ _ _ hw hm (hr r (List.mem_cons_self ..)), List.all_cons, Bool.and_assoc]
 have h2 : 2 ^ (s.heats.length + 1) ≤ 2 ^ 7 := Nat.pow_le_pow_right (by omega) (by omega)
 unfold toldW toldM
 rw [List.take_length, key _ _ (by omega) hr, Nat.testBit_two_pow_sub_one]
 congr 1
 rw [decide_eq_decide]
 omega
theorem mem_failuresM {j : Joint} {x : Sky} {n : Nat} {y : Fl} : y ∈ failuresM j x n ↔ ∃ h c many life : Int, (j.high.mn ≤ h ∧ h ≤ j.high.mx) ∧ (j.low.mn ≤ c ∧ c ≤ j.low.mx) ∧ (j.weeks.mn ≤ many ∧ many ≤ j.weeks.mx) ∧ (j.life.mn ≤ life ∧ life ≤ j.life.mx) ∧ y = failM x n h c many.toNat life.toNat := by
 unfold failuresM fails1 fails2 fails3 fails4
 simp only [List.mem_flatMap, List.mem_map, mem_rangeI]
 constructor
 ·rintro ⟨h, h1, c, h2, m, h3, l, h4, rfl⟩
  exact ⟨h, c, m, l, by omega, by omega, by omega, by omega, rfl⟩
 ·rintro ⟨h, c, m, l, h1, h2, h3, h4, rfl⟩
  exact ⟨h, by omega, c, by omega, m, by omega, l, by omega, rfl⟩
theorem mem_okAll {s : Season} {n : Int} {x : Sky} : x ∈ okK s n (allSkies s n).length ↔ x ∈ allSkies s n ∧ okM s n x = true := by
 unfold okK
 rw [List.take_length, List.mem_filter]
theorem mem_pushAll (x : Sky) : ∀ (l acc : List Sky), x ∈ l.foldl pushSky acc ↔ x ∈ acc ∨ x ∈ l
 | [], acc => by simp
 | y :: l, acc => by
  rw [List.foldl_cons, mem_pushAll x l]
  unfold pushSky
  split
  ·rename_i h
   have hy : y ∈ acc := List.mem_of_getLast? h
   constructor
   ·rintro (h | h) <;> simp [h]
   ·rintro (h | h)
    ·exact .inl h
    ·rcases List.mem_cons.1 h with e | h
     ·exact .inl (e ▸ hy)
     ·exact .inr h
  ·simp only [List.mem_append, List.mem_cons, List.not_mem_nil, or_false, or_assoc]
theorem mem_skM {s : Season} {n : Int} {x : Sky} : x ∈ skM s n ↔ x ∈ allSkies s n ∧ okM s n x = true := by
 show x ∈ (okK s n (allSkies s n).length).foldl pushSky [] ↔ _
 rw [mem_pushAll, mem_okAll]
 simp
theorem okM_iff {s : Season} {n : Int} {x : Sky} : okM s n x = true ↔ ∀ (i : Nat) j, s.joints[i]? = some j → j.kind = n → surv s n x i ≠ [] := by
 unfold okM
 rw [List.all_eq_true]
 constructor
 ·intro h i j hj hk e
  have hl := (List.getElem?_eq_some_iff.1 hj).1
  have := h i (List.mem_range.2 hl)
  unfold kindAt at this
  rw [hj] at this
  simp [hk, fateM, e, maskM] at this
 ·intro h i hi
  rw [List.mem_range] at hi
  have hj : s.joints[i]? = some s.joints[i] := List.getElem?_eq_getElem hi
  unfold kindAt
  rw [hj]
  by_cases hk : s.joints[i].kind = n
  ·have := h i _ hj hk
   simp [fateM, maskM_zero, this]
  ·simp [hk]
theorem mayM_iff {s : Season} : mayM s = true ↔ (∃ x, x ∈ skM s 1) ∧ (∃ x, x ∈ skM s 2) := by
 unfold mayM
 rw [Bool.and_eq_true, decide_eq_true_eq, decide_eq_true_eq, List.length_pos_iff_exists_mem, List.length_pos_iff_exists_mem]
section
variable {weeks joints reports : Nat} {s : Season} {ht dt fs : List Int} (T : SeasonT weeks joints reports s ht dt fs) (hw : weeks ≤ 6)
include T hw
end
end Go.Wx
namespace Go.HL
open Go Go.Wx Go.RowKit
def lawK (t : Nat) (h0 : AH) : Post
 | .normal, S, D, L, h => D = [] ∧ (Valid h L → Ext h0 (wl h L)) ∧ S t = .bool true
 | .ret, S, D, L, h => D = [] ∧ (Valid h L → Ext h0 (wl h L)) ∧ S t = .bool true
 | _, _, _, _, _ => False
theorem below_of {w w' : World} (se : SameEnv w w') (e : Ext (absH w.heap) (absH w'.heap)) : Below w.heap.size w w' := by
 have hb : ∀ k, k < w.heap.size → w'.heap[k]? = w.heap[k]? := by
  intro k hk
  have h1 : absH w.heap k = some w.heap[k] := Array.getElem?_eq_getElem hk
  have h2 : w'.heap[k]? = some w.heap[k] := e k _ h1
  rw [h2]
  exact (Array.getElem?_eq_getElem hk).symm
 refine ⟨se.os, se.tape, se.output, ?_, hb⟩
 rcases Nat.lt_or_ge w'.heap.size w.heap.size with h1 | h1
 ·have h2 := hb w'.heap.size h1
  rw [Array.getElem?_eq_getElem h1] at h2
  simp at h2
 ·exact h1
theorem calls_body {P : Program} {f : FuncId} {fn : Func} {c : Code} {args : Array Value} {n t : Nat} {w : World} (hf : P.funcs[f]? = some fn) (hb : fn.body = some c) (hn : fn.ntmps = n) (ha : Nat.ble args.size n = true) (hr : fn.results = #[.tmp t]) (ht : Nat.blt t n = true)
  (x : ∀ h, h = absH w.heap → @xp ⟨false, none, none⟩ P n none c (lawK t h) (argS args) [] [] h) : Calls P f args w (fun e w' => e = .returned (.bool true) ∧ Below w.heap.size w w') := by
 letI : Lvl := ⟨false, none, none⟩
 intro cs
 have he : Frame.enter P f args .normal = mk { (default : Frame) with fn := f, kind := .normal, roundOf := none } n (argS args) [] [.code c] := by
  simp [Frame.enter, mk, hf, hb, hn, enter_tmps n args (Nat.le_of_ble_eq_true ha)]
 have hres : ∀ (S : Sl) (w' : World), S t = .bool true → (results fn (arr n S)).run P w' = .ok (.bool true) w' := by
  intro S w' hs
  unfold results
  rw [hr, List.mapM_toArray]
  have e1 : (arr n S).getD t undef = .bool true := by rw [arr_getD, if_pos (Nat.lt_of_lt_of_le (Nat.lt_succ_self t) (Nat.le_of_ble_eq_true ht)), hs]
  show Result.ok ((arr n S).getD t undef) w' = _
  rw [e1]
 have x1 := x _ rfl (absH w.heap) (by have := Fits.nil (valid_nil (Fin.abs w.heap)); rw [wl_nil] at this; exact this) { (default : Frame) with fn := f, kind := .normal, roundOf := none } rfl [] cs
 have x2 : Rch P (fun fr cs' H => cs' = cs ∧ fr.mode = .returning ∧ fr.defers = [] ∧ fr.kind = .normal ∧ fr.fn = f ∧ (∃ S, fr.tmps = arr n S ∧ S t = .bool true) ∧ Ext (absH w.heap) H) (mk { (default : Frame) with fn := f, kind := .normal, roundOf := none } n (argS args) [] [.code c]) cs (absH w.heap) := by
  refine x1.bind ?_
  rintro fr cs' H ⟨rfl, e, S', D', L', h', V', kk, a⟩
  cases e with
  | normal =>
   obtain ⟨rfl, ex, hs⟩ := kk
   have a' : fr = mk { (default : Frame) with fn := f, kind := .normal, roundOf := none } n S' [] [] := a
   subst a'
   have hH : H = wl h' L' := by rw [V'.eq]; exact hun_nil _
   subst hH
   refine .ctl (fr' := { mk { (default : Frame) with fn := f, kind := .normal, roundOf := none } n S' [] [] with mode := .returning }) (cs' := cs') (fun w => by simp [stepG, stepG.exec, mk]) (.done ⟨rfl, rfl, rfl, rfl, rfl, ⟨S', rfl, hs⟩, ex V'.valid⟩)
  | ret =>
   obtain ⟨rfl, ex, hs⟩ := kk
   obtain ⟨todo, rfl⟩ := a.1 rfl
   have hH : H = wl h' L' := by rw [V'.eq]; exact hun_nil _
   subst hH
   exact .done ⟨rfl, rfl, rfl, rfl, rfl, ⟨S', rfl, hs⟩, ex V'.valid⟩
  | _ => exact kk.elim
 obtain ⟨fr', cs', w', st, se, rfl, hm, hd, hk, hfn, ⟨S, htm, hs⟩, ex⟩ := x2.lone rfl rfl rfl w rfl
 refine ⟨.returned (.bool true), w', fr', ⟨rfl, below_of se ex⟩, ?_, hfn, hm, hd, hk, fn, by rw [hfn]; exact hf, by rw [htm]; exact hres S w' hs⟩
 rw [he]
 exact st
variable [Lvl]
theorem row_of {w : World} {a : Option Addr} {len cap : Nat} {zs : List Int} (h : (a = none ∧ len = 0 ∧ cap = 0 ∧ zs = []) ∨
  ∃ x, a = some x ∧ len ≤ cap ∧ cap ≤ maxLen ∧ zs.length = cap ∧ (∀ i, i < zs.length → w.cell? (x.add i) = some (.int .i64 (zs.getD i 0))) ∧ ∀ n ∈ zs, (Lit.int .i64 n).wf = true) :
  ∃ l : List Int, l.length = len ∧ Row (absH w.heap) 1 intC a l ∧ len ≤ maxLen ∧ ∀ n ∈ l, (Lit.int .i64 n).wf = true := by
 rcases h with ⟨rfl, rfl, rfl, rfl⟩ | ⟨x, rfl, hl, hm, hz, hc, hw⟩
 ·exact ⟨[], rfl, ⟨fun _ h => (by cases h), Rd.nil _ _⟩, Nat.zero_le _, fun _ h => (by cases h)⟩
 ·refine ⟨zs.take len, by rw [List.length_take]; omega, ⟨fun _ _ => rfl, ?_⟩, by omega, fun n hn => hw n (List.mem_of_mem_take hn)⟩
  have hflat : ∀ l : List Int, l.flatMap intC = l.map (Value.int .i64) := by
   intro l
   induction l with
   | nil => rfl
   | cons a l ih => simp [List.flatMap_cons, ih, intC]
  rw [hflat]
  intro hne
  have hpos : 0 < zs.length := by
   rcases Nat.eq_zero_or_pos zs.length with h0 | h0
   ·rw [List.eq_nil_of_length_eq_zero h0] at hne; simp at hne
   ·exact h0
  obtain ⟨g, off, sp⟩ := x
  have h0 := hc 0 hpos
  have hsp : sp = none := by
   cases sp with
   | none => rfl
   | some s =>
    exfalso
    have : w.cell? ((⟨g, off, some s⟩ : Addr).add 0) = none := by
     simp only [Addr.add]
     rw [cell_abs]
     unfold cellA
     split <;> simp
    rw [this] at h0
    cases h0
  subst hsp
  refine ⟨g, off, rfl, fun j u hu => ?_⟩
  have hj : j < zs.length := by
   have := (List.getElem?_eq_some_iff.1 hu).1
   rw [List.length_map, List.length_take] at this
   omega
  have h1 := hc j hj
  rw [cell_abs, add_none] at h1
  rw [h1]
  rw [List.getElem?_map, List.getElem?_take] at hu
  split at hu
  ·rw [List.getElem?_eq_getElem hj] at hu
   simp only [Option.map_some, Option.some.injEq] at hu
   rw [← hu]
   simp [List.getD_eq_getElem?_getD, hj]
  ·cases hu
end Go.HL
namespace Go.HL
open Go
variable [Lvl]
variable {P : Program} {n : Nat} {ops : Array Oper} {i : Nat} {d : Option Tmp} {op : Op} {ty : TypeId} {ps : String} {af : Array Edge} {S : Sl} {L : Pv} {h : AH} {mask : List Bool} {X : Sl → AH → Prop} {dn ac : List Nat}
theorem dw_effG {j : Nat} {want t : Bool} (hoi : ops[i]? = some ⟨d, op, ty, ps, af, some (j, want)⟩) (hok : okE ops dn i = true)
  (ht : ev n S (.tmp (((ops[j]?).bind (·.dst)).getD n)) = .bool t) (hb : t = want) (w : wpL P n ops [⟨d, op, ty, ps, af, none⟩] (fun S' L' h' => Ext (wl h (rmM mask L)) (wl h' (rmM mask L')) ∧ Dw P n ops mask X (i :: dn) (i :: ac) S' L' h') (fun _ _ _ _ => False) S L h) : Dw P n ops mask X dn ac S L h := by
 intro V G hG
 unfold okE at hok
 rw [hoi] at hok
 simp only [Bool.and_eq_true] at hok
 obtain ⟨⟨hr, hbl⟩, hap⟩ := hok
 obtain ⟨m, hm⟩ := left_pos hr
 obtain ⟨hi, hdi⟩ := ready_lt hr
 rw [hm]
 refine take_any hoi m dn ac G S (wl h L) (fin_wl V) hm hr ?_ ?_ (fun g hg => (hG g hg).2.1) ?_ ?_
 ·intro x hx
  have := List.all_eq_true.1 hbl x ((el_mem _ _).1 hx)
  simpa using this
 ·intro g hg _
  exact (hG g hg).2.1 _ _ (ext_rm V) (hG g hg).2.2
 ·intro j oj hoj hji hdj hbj
  have hjl : j < ops.size := (Array.getElem?_eq_some_iff.1 hoj).1
  have := List.all_eq_true.1 hap j (by simpa using hjl)
  rw [hoj, hdj, hbj] at this
  simp only [Bool.or_false, Bool.or_eq_true, beq_iff_eq, Bool.and_eq_true, Option.isNone_iff_eq_none] at this
  obtain ⟨⟨h1, h2⟩, h3⟩ := this.resolve_left hji
  exact ⟨h1, h2, h3⟩
 ·refine ⟨some t, by rw [ht]; rfl, fun _ => ?_, fun hn => absurd (congrArg some hb) hn⟩
  show opW P n ⟨d, op, ty, ps, af, none⟩ S (wl h L) _ noE
  refine opW_mono ?_ ?_ (w V)
  ·rintro v H ⟨L', h', rfl, V', hE, hD⟩
   have hG' : ∀ g ∈ G, ((∀ H, g.2 H) ∨ (isLd ops g.1 = true ∧ el g.1 (i :: dn) = true)) ∧ (∀ H1 H2, Ext H1 H2 → g.2 H1 → g.2 H2) ∧ g.2 (wl h' (rmM mask L')) := by
    intro g hg
    obtain ⟨h1, h2, h3⟩ := hG g hg
    exact ⟨h1.imp id (fun e => ⟨e.1, by simp [el_cons, e.2]⟩), h2, h2 _ _ hE h3⟩
   refine ⟨fun g hg _ => (hG' g hg).2.1 _ _ (ext_rm V') (hG' g hg).2.2, ?_⟩
   have := hD V' G hG'
   rw [left_cons hi hdi hm] at this
   exact this
  ·rintro v H ⟨L', h', rfl, V', y⟩; exact y
theorem dw_lastG {j : Nat} {want t : Bool} (hoi : ops[i]? = some ⟨d, op, ty, ps, af, some (j, want)⟩) (hok : okE ops dn i = true) (hl : okL ops dn i = true)
  (ht : ev n S (.tmp (((ops[j]?).bind (·.dst)).getD n)) = .bool t) (hb : t = want) (w : wpL P n ops [⟨d, op, ty, ps, af, none⟩] (fun S' L' h' => Dw P n ops mask X (i :: dn) (i :: ac) S' L' h') (fun _ _ _ _ => False) S L h) : Dw P n ops mask X dn ac S L h := by
 intro V G hG
 unfold okE at hok
 rw [hoi] at hok
 simp only [Bool.and_eq_true] at hok
 obtain ⟨⟨hr, hbl⟩, hap⟩ := hok
 obtain ⟨m, hm⟩ := left_pos hr
 obtain ⟨hi, hdi⟩ := ready_lt hr
 rw [hm]
 refine take_any hoi m dn ac G S (wl h L) (fin_wl V) hm hr ?_ ?_ (fun g hg => (hG g hg).2.1) ?_ ?_
 ·intro x hx
  have := List.all_eq_true.1 hbl x ((el_mem _ _).1 hx)
  simpa using this
 ·intro g hg _
  exact (hG g hg).2.1 _ _ (ext_rm V) (hG g hg).2.2
 ·intro j oj hoj hji hdj hbj
  have hjl : j < ops.size := (Array.getElem?_eq_some_iff.1 hoj).1
  have := List.all_eq_true.1 hap j (by simpa using hjl)
  rw [hoj, hdj, hbj] at this
  simp only [Bool.or_false, Bool.or_eq_true, beq_iff_eq, Bool.and_eq_true, Option.isNone_iff_eq_none] at this
  obtain ⟨⟨h1, h2⟩, h3⟩ := this.resolve_left hji
  exact ⟨h1, h2, h3⟩
 ·refine ⟨some t, by rw [ht]; rfl, fun _ => ?_, fun hn => absurd (congrArg some hb) hn⟩
  show opW P n ⟨d, op, ty, ps, af, none⟩ S (wl h L) _ noE
  refine opW_mono ?_ ?_ (w V)
  ·rintro v H ⟨L', h', rfl, V', hD⟩
   -- the facts that are still asked hold everywhere
   have hdead : ∀ g ∈ G, (∀ H, g.2 H) ∨ ¬ alive ops (i :: ac) g.1 := by
    intro g hg
    rcases (hG g hg).1 with h1 | ⟨h1, h2⟩
    ·exact .inl h1
    ·right
     intro a
     have := List.all_eq_true.1 hl g.1 ((el_mem _ _).1 h2)
     rw [h1] at this
     simp only [Bool.not_true, Bool.false_or] at this
     have := a i this
     simp [el_cons] at this
   refine ⟨fun g hg a => ((hdead g hg).resolve_right (fun n => n a)) _, ?_⟩
   have hall : ∀ (m : Nat) (dn' ac' : List Nat) (S' : Sl) (H' : AH), (∀ k, el k (i :: ac) = true → el k ac' = true) → WG P n ops m dn' ac' [] X S' H' → WG P n ops m dn' ac' G X S' H' := by
    intro m
    induction m with
    | zero => intro dn' ac' S' H' _ w; exact w
    | succ m ih =>
     intro dn' ac' S' H' hsub w j oj hoj hrj
     refine T1_mono (fun S2 H2 y => ⟨fun g hg a => ?_, ih _ _ _ _ (fun k hk => by simp [el_cons, hsub k hk]) y.2⟩) (w j oj hoj hrj)
     exact ((hdead g hg).resolve_right (fun n => n (alive_less (fun k hk => by simp [el_cons, hsub k hk]) a))) _
   have := hD V' [] (fun g hg => by cases hg)
   rw [left_cons hi hdi hm] at this
   exact hall m _ _ _ _ (fun _ h => h) this
  ·rintro v H ⟨L', h', rfl, V', y⟩; exact y
end Go.HL
namespace Go.Proofs.Ytgjcepdhclmglaa
open Go Go.HL Go.Proofs Go.Wx Go.RowKit
variable [Lvl]
set_option maxRecDepth 100000
theorem SeasonT.small {a b c : Nat} {s : Season} {ht dt fs : List Int} (T : SeasonT a b c s ht dt fs) (ha : a ≤ 6) (hb : b ≤ 3) (hc : c ≤ 100) : Small s := by
 have := T.hn.len; have := T.dn.len; have := T.dl; have := T.ww; have := T.jl; have := T.rl
 exact ⟨by omega, by omega, by omega, by omega⟩
section
variable {a b c : Nat} {s : Season} {ht dt fs : List Int} (T : SeasonT a b c s ht dt fs) (ha : a ≤ 6) (hb : b ≤ 3) (hc : c ≤ 5)
include T ha hb hc
end
end Go.Proofs.Ytgjcepdhclmglaa
namespace Go.Wx
open Go Go.HL
variable [Lvl]
structure CheckS (s : Season) : Prop where
 w1 : 1 ≤ s.heats.length
 w6 : s.heats.length ≤ 6
 dl : s.damps.length = s.heats.length
 h : ∀ r ∈ s.heats, checkWeatherM r = 0
 d : ∀ r ∈ s.damps, checkWeatherM r = 0
 j3 : s.joints.length ≤ 3
 j : ∀ j ∈ s.joints, checkJointM j = 0
 r5 : s.reports.length ≤ 5
 r : ∀ r ∈ s.reports, checkSeenM s r = 0
theorem CheckS.ok {s : Season} (c : CheckS s) : checkM s = 0 := by
 have h1 := c.w1; have h2 := c.w6; have h3 := c.dl; have h4 := c.j3; have h5 := c.r5
 unfold checkM
 rw [if_neg (by omega), if_neg (by omega), if_neg (by omega), if_neg (by omega), firstErr_all (fun x hx => (List.mem_append.1 hx).elim (c.h x) (c.d x)), if_neg (by simp), if_neg (by omega), firstErr_all c.j, if_neg (by simp), if_neg (by omega), firstErr_all c.r]
theorem CheckS.of {s : Season} (h : checkM s = 0) : CheckS s := by
 have V := checkM_zero h
 unfold checkM at h
 split at h
 ·cases h
 ·split at h
  ·cases h
  ·split at h
   ·cases h
   ·split at h
    ·cases h
    ·split at h
     ·rename_i h1; exact absurd h h1
     ·rename_i h1
      split at h
      ·cases h
      ·split at h
       ·rename_i h2; exact absurd h h2
       ·rename_i h2
        split at h
        ·cases h
        ·have w := firstErr_zero (by simpa using h1)
         exact ⟨by omega, by omega, by omega, fun r hr => w r (List.mem_append_left _ hr), fun r hr => w r (List.mem_append_right _ hr), by omega, firstErr_zero (by simpa using h2), by omega, firstErr_zero h⟩
theorem known_of {s : Season} (c : CheckS s) (m : mayM s = true) {es : List Int} (he : ∀ e ∈ es, e = 0) : knownM s es = 0 := by
 unfold knownM
 rw [c.ok, if_neg (by simp), firstErr_all (f := id) he, if_neg (by simp), m]
 rfl
section
variable {α : Type} {f : α → α} {l : List α}
end
end Go.Wx
namespace Go.Proofs.Ytgjcepdhclmglaa
open Go Go.HL Go.Proofs Go.Wx
variable [Lvl]
set_option maxRecDepth 100000
end Go.Proofs.Ytgjcepdhclmglaa
namespace Go.Proofs.Ytgjcepdhclmglaa
open Go Go.HL Go.Proofs Go.Wx Go.RowKit
variable [Lvl]
set_option maxRecDepth 100000
theorem SeasonT.checkS {a b c : Nat} {s : Season} {ht dt fs : List Int} (T : SeasonT a b c s ht dt fs) (ha : a ≤ 6) (hb : b ≤ 3) (hc : c ≤ 5) : CheckS s := CheckS.of (check_T T ha hb hc)
theorem small_of {s : Season} (c : CheckS s) : Small s := by
 have := c.w6; have := c.dl; have := c.j3; have := c.r5
 exact ⟨by omega, by omega, by omega, by omega⟩
end Go.Proofs.Ytgjcepdhclmglaa
namespace Go.Wx
open Go Go.HL
variable [Lvl]
structure SameK (s s' : Season) (n : Int) (f : Nat → Nat) : Prop where
 hs : s'.heats = s.heats
 ds : s'.damps = s.damps
 goes : ∀ (i : Nat) j, s.joints[i]? = some j → j.kind = n → s'.joints[f i]? = some j ∧ toldW s' (f i) = toldW s i
 comes : ∀ (i' : Nat) j, s'.joints[i']? = some j → j.kind = n → ∃ i, s.joints[i]? = some j ∧ f i = i'
section
variable {s s' : Season} {n : Int} {f : Nat → Nat}
theorem SameK.surv (e : SameK s s' n f) (x : Sky) {i : Nat} {j : Joint} (hj : s.joints[i]? = some j) (hk : j.kind = n) : surv s' n x (f i) = surv s n x i := by
 obtain ⟨h1, h2⟩ := e.goes i j hj hk
 unfold Wx.surv
 rw [hj, h1, h2, e.hs]
theorem SameK.all (e : SameK s s' n f) : allSkies s' n = allSkies s n := by unfold allSkies weatherM; rw [e.hs, e.ds]
theorem SameK.okE (e : SameK s s' n f) (x : Sky) : okM s' n x = okM s n x := by
 rw [Bool.eq_iff_iff, okM_iff, okM_iff]
 constructor
 ·intro h i j hj hk; rw [← e.surv x hj hk]; exact h _ _ (e.goes i j hj hk).1 hk
 ·intro h i' j hj hk
  obtain ⟨i, hi, rfl⟩ := e.comes i' j hj hk
  rw [e.surv x hi hk]
  exact h _ _ hi hk
theorem kindAt_some {s : Season} {i : Nat} {j : Joint} (hj : s.joints[i]? = some j) : kindAt s i = j.kind := by unfold kindAt; rw [hj]; rfl
end
theorem checkSeen_iff {s : Season} {r : Seen} : checkSeenM s r = 0 ↔ 0 ≤ r.joint ∧ r.joint < s.joints.length ∧ 0 ≤ r.week ∧ r.week < s.heats.length := by
 unfold checkSeenM inM
 constructor
 ·intro h
  split at h
  ·cases h
  ·rename_i q1
   split at h
   ·cases h
   ·rename_i q2
    simp only [Bool.not_eq_true, Bool.not_eq_false', Bool.and_eq_true, decide_eq_true_eq] at q1 q2
    omega
 ·intro h
  rw [if_neg (by simp; omega), if_neg (by simp; omega)]
structure Order (o : List Int) (n : Nat) : Prop where
 len : o.length = n
 bd : ∀ x ∈ o, 0 ≤ x ∧ x < n
 inj : ∀ (i k : Nat), i < n → k < n → o[i]? = o[k]? → i = k
theorem Order.at' {o : List Int} {n : Nat} (O : Order o n) {i : Nat} (hi : i < n) : ∃ k : Nat, o[i]? = some (k : Int) ∧ k < n := by
 have hl : i < o.length := by rw [O.len]; exact hi
 have := O.bd o[i] (List.getElem_mem hl)
 exact ⟨o[i].toNat, by rw [List.getElem?_eq_getElem hl]; congr 1; omega, by omega⟩
def ordN (o : List Int) (i : Nat) : Nat := (o.getD i 0).toNat
theorem Order.ordN {o : List Int} {n : Nat} (O : Order o n) {i : Nat} (hi : i < n) : o[i]? = some ((ordN o i : Nat) : Int) ∧ Wx.ordN o i < n := by
 obtain ⟨k, h1, h2⟩ := O.at' hi
 unfold Wx.ordN
 rw [List.getD_eq_getElem?_getD, h1]
 simpa using h2
def moved (o : List Int) (r : Seen) : Seen := { r with joint := o.getD r.joint.toNat 0 }
structure Moved (s x : Season) (o : List Int) : Prop where
 ord : Order o s.joints.length
 hs : x.heats = s.heats
 ds : x.damps = s.damps
 jl : x.joints.length = s.joints.length
 js : ∀ i, i < s.joints.length → x.joints[ordN o i]? = s.joints[i]?
 rs : x.reports = s.reports.map (moved o)
end Go.Wx
namespace Go.Wx
open Go Go.HL
variable [Lvl]
theorem wrL_mid (a c : List Value) : ∀ (vs b : List Value) (j : Nat), j + vs.length ≤ b.length → wrL (a ++ b ++ c) (a.length + j) vs = a ++ wrL b j vs ++ c
 | [], b, j, _ => rfl
 | v :: vs, b, j, h => by
  rw [List.length_cons] at h
  have hj : j < b.length := by omega
  have e : (a ++ b ++ c).set (a.length + j) v = a ++ b.set j v ++ c := by
   rw [List.append_assoc, List.set_append_right _ _ (by omega), Nat.add_sub_cancel_left, List.set_append_left _ _ hj, List.append_assoc]
  show wrL ((a ++ b ++ c).set (a.length + j) v) (a.length + j + 1) vs = _
  rw [e, Nat.add_assoc, wrL_mid a c vs (b.set j v) (j + 1) (by rw [List.length_set]; omega)]
  rfl
section
variable {α : Type} {enc : α → List Value} {m : Nat} (hm : ∀ x, (enc x).length = m)
include hm
theorem flat_wr {l : List α} {k j : Nat} {vs : List Value} {x : α} (hk : k < l.length) (hj : j + vs.length ≤ m) (hx : wrL (enc l[k]) j vs = enc x) (junk : List Value) : wrL (l.flatMap enc ++ junk) (k * m + j) vs = (l.set k x).flatMap enc ++ junk := by
 have e : l.flatMap enc ++ junk = (l.take k).flatMap enc ++ enc l[k] ++ ((l.drop (k + 1)).flatMap enc ++ junk) := by
  have h1 : l = l.take k ++ l[k] :: l.drop (k + 1) := by rw [← List.drop_eq_getElem_cons hk, List.take_append_drop]
  have h2 : l.flatMap enc = (l.take k ++ l[k] :: l.drop (k + 1)).flatMap enc := congrArg (fun z => z.flatMap enc) h1
  rw [h2, List.flatMap_append, List.flatMap_cons]
  simp only [List.append_assoc]
 have e2 : (l.set k x).flatMap enc ++ junk = (l.take k).flatMap enc ++ enc x ++ ((l.drop (k + 1)).flatMap enc ++ junk) := by
  rw [List.set_eq_take_append_cons_drop, if_pos hk]
  simp [List.flatMap_append]
 have hl : ((l.take k).flatMap enc).length = k * m := by rw [wS (fun y _ => hm y), List.length_take, Nat.min_eq_left (Nat.le_of_lt hk)]
 rw [e, e2, ← hl, wrL_mid _ _ _ _ _ (by rw [hm]; exact hj), hx]
end
theorem intM (x : Int) : (intC x).length = 1 := rfl
theorem seenM3 (x : Seen) : (seenC x).length = 3 := rfl
structure MixP (l : List Int) (i : Nat) : Prop where
 bd : ∀ m, m < i → ∃ v : Int, l[m]? = some v ∧ 0 ≤ v ∧ v < i
 inj : ∀ m m' : Nat, m < i → m' < i → l[m]? = l[m']? → m = m'
theorem MixP.zero (l : List Int) : MixP l 0 := ⟨fun m h => absurd h (Nat.not_lt_zero m), fun m _ h => absurd h (Nat.not_lt_zero m)⟩
def mixS (l : List Int) (i k : Nat) : List Int := (l.set i (l.getD k 0)).set k (i : Int)
theorem mixS_get {l : List Int} {i k : Nat} (hi : i < l.length) (hk : k ≤ i) (m : Nat) : (mixS l i k)[m]? = if m = k then some (i : Int) else if m = i then l[k]? else l[m]? := by
 unfold mixS
 have hkl : k < l.length := by omega
 rw [List.getElem?_set, List.length_set]
 by_cases h1 : k = m
 ·subst h1
  simp [hkl]
 ·rw [if_neg h1, if_neg (fun e => h1 e.symm), List.getElem?_set]
  by_cases h2 : i = m
  ·subst h2
   simp [hi, List.getD_eq_getElem?_getD, List.getElem?_eq_getElem hkl]
  ·rw [if_neg h2, if_neg (fun e => h2 e.symm)]
theorem MixP.step {l : List Int} {i k : Nat} (P : MixP l i) (hi : i < l.length) (hk : k ≤ i) : MixP (mixS l i k) (i + 1) := by
 have gk : k < i → ∃ v : Int, l[k]? = some v ∧ 0 ≤ v ∧ v < i := fun h => P.bd k h
 constructor
 ·intro m hm
  rw [mixS_get hi hk]
  by_cases h1 : m = k
  ·rw [if_pos h1]; exact ⟨i, rfl, by omega, by omega⟩
  ·rw [if_neg h1]
   by_cases h2 : m = i
   ·rw [if_pos h2]
    obtain ⟨v, e, a, b⟩ := gk (by omega)
    exact ⟨v, e, a, by omega⟩
   ·rw [if_neg h2]
    obtain ⟨v, e, a, b⟩ := P.bd m (by omega)
    exact ⟨v, e, a, by omega⟩
 ·have val : ∀ m, m < i + 1 → ∃ v : Int, (mixS l i k)[m]? = some v ∧ (m ≠ k → v < i) ∧ (m = k → v = i) := by
   intro m hm
   rw [mixS_get hi hk]
   by_cases h1 : m = k
   ·rw [if_pos h1]; exact ⟨i, rfl, fun h => absurd h1 h, fun _ => rfl⟩
   ·rw [if_neg h1]
    by_cases h2 : m = i
    ·rw [if_pos h2]
     obtain ⟨v, e, a, b⟩ := gk (by omega)
     exact ⟨v, e, fun _ => b, fun h => absurd h h1⟩
    ·rw [if_neg h2]
     obtain ⟨v, e, a, b⟩ := P.bd m (by omega)
     exact ⟨v, e, fun _ => b, fun h => absurd h h1⟩
  intro m m' hm hm' e
  obtain ⟨v, e1, a1, b1⟩ := val m hm
  obtain ⟨v', e2, a2, b2⟩ := val m' hm'
  have hv : v = v' := by rw [e1, e2] at e; simpa using e
  by_cases h1 : m = k
  ·by_cases h2 : m' = k
   ·omega
   ·have := a2 h2; have := b1 h1; omega
  ·by_cases h2 : m' = k
   ·have := a1 h1; have := b2 h2; omega
   ·rw [mixS_get hi hk, mixS_get hi hk, if_neg h1, if_neg h2] at e
    by_cases h3 : m = i
    ·by_cases h4 : m' = i
     ·omega
     ·rw [if_pos h3, if_neg h4] at e
      have := P.inj k m' (by omega) (by omega) e
      omega
    ·by_cases h4 : m' = i
     ·rw [if_neg h3, if_pos h4] at e
      have := P.inj m k (by omega) (by omega) e
      omega
     ·rw [if_neg h3, if_neg h4] at e
      exact P.inj m m' (by omega) (by omega) e
theorem MixP.order {l : List Int} {n : Nat} (P : MixP l n) (hl : l.length = n) : Order l n := by
 refine ⟨hl, fun x hx => ?_, P.inj⟩
 obtain ⟨i, hi⟩ := List.mem_iff_getElem?.1 hx
 have := (List.getElem?_eq_some_iff.1 hi).1
 obtain ⟨v, e, a, b⟩ := P.bd i (by omega)
 rw [hi] at e
 cases e
 exact ⟨a, b⟩
end Go.Wx
namespace Go.Proofs.Ytgjcepdhclmglaa
open Go Go.HL Go.Proofs Go.Wx
variable [Lvl]
set_option maxRecDepth 100000
end Go.Proofs.Ytgjcepdhclmglaa
namespace Go.Proofs.Ytgjcepdhclmglaa
open Go Go.HL Go.Proofs Go.Wx Go.RowKit
variable [Lvl]
set_option maxRecDepth 100000
theorem flat_ne {α : Type} {enc : α → List Value} {m : Nat} {l : List α} (hm : ∀ x, (enc x).length = m) (h0 : 0 < m) (h : l ≠ []) : l.flatMap enc ≠ [] := by
 intro e
 have := wS (l := l) (m := m) (enc := enc) (fun x _ => hm x)
 rw [e] at this
 have hl := List.length_pos_iff.2 h
 have : 0 < l.length * m := Nat.mul_pos hl h0
 simp at *
 omega
theorem accR_some {e : TypeId} {m : Nat} {cs : List Value} {a : Acc} (r : AccR e m cs a) (hc : cs ≠ []) : ∃ b len cap junk, cs.length = len * m ∧ (cs ++ junk).length = cap * m ∧ a = ⟨some (b, .cells (cs ++ junk).toArray e (0, 0)), some ⟨b, 0, none⟩, len, cap⟩ := by
 obtain ⟨p, A, n, c⟩ := a
 rcases r with ⟨_, h, _⟩ | ⟨b, len, cap, junk, hl, ev, hpp, hj⟩
 ·exact absurd h hc
 ·injection ev with h1 h2 h3
  dsimp only at h1 h2 h3 hpp
  exact ⟨b, len, cap, junk, hl, hj, by rw [h1, h2, h3, hpp]⟩
theorem row_junk {α : Type} {enc : α → List Value} {m : Nat} {h : AH} {b : Nat} {l : List α} {junk : List Value} {t : TypeId} (hm : ∀ x, (enc x).length = m) (hb : h b = some (.cells (l.flatMap enc ++ junk).toArray t (0, 0))) : Row h m enc (some ⟨b, 0, none⟩) l := by
 refine ⟨fun x _ => hm x, fun _ => ⟨b, 0, rfl, fun q u hu => ?_⟩⟩
 simp only [cellA, hb, Nat.zero_add]
 have : (l.flatMap enc ++ junk)[q]? = some u := by rw [List.getElem?_append_left (List.getElem?_eq_some_iff.1 hu).1]; exact hu
 simpa using this
end Go.Proofs.Ytgjcepdhclmglaa
namespace Go.Proofs.Ytgjcepdhclmglaa
open Go Go.HL Go.Proofs Go.Wx
variable [Lvl]
set_option maxRecDepth 100000
end Go.Proofs.Ytgjcepdhclmglaa
namespace Go.Wx
open Go Go.HL
variable [Lvl]
def chM (n : Nat) : Nat → Nat → List (List Int)
 | 0, _ => [[]]
 | m + 1, a => (List.range' a (n - a)).flatMap fun i => (chM n m (i + 1)).map fun l => (i : Int) :: l
def chK (n m a k : Nat) : List (List Int) := (List.range' a (k - a)).flatMap fun i => (chM n m (i + 1)).map fun l => (i : Int) :: l
theorem chK_succ {n m a k : Nat} (h : a ≤ k) : chK n m a (k + 1) = chK n m a k ++ (chM n m (k + 1)).map fun l => (k : Int) :: l := by
 unfold chK
 rw [show k + 1 - a = (k - a) + 1 from by omega, List.range'_1_concat, List.flatMap_append, show a + (k - a) = k from by omega]
 simp
end Go.Wx
namespace Go.Proofs.Ytgjcepdhclmglaa
open Go Go.HL Go.Proofs Go.Wx
variable [Lvl]
set_option maxRecDepth 100000
def LLv (h : AH) (ls : List (List Int)) (vs : List Value) : Prop := vs.length = ls.length ∧ ∀ (i : Nat) l v, ls[i]? = some l → vs[i]? = some v → SlR h 1 intC l v
theorem LLv.ext {h h' : AH} {ls : List (List Int)} {vs : List Value} (x : LLv h ls vs) (E : Ext h h') : LLv h' ls vs := ⟨x.1, fun i l v a b => (x.2 i l v a b).ext E⟩
theorem LLv.nil {h : AH} : LLv h [] [] := ⟨rfl, fun i l v a _ => by simp at a⟩
theorem LLv.snoc {h : AH} {ls : List (List Int)} {vs : List Value} (x : LLv h ls vs) {l : List Int} {v : Value} (s : SlR h 1 intC l v) : LLv h (ls ++ [l]) (vs ++ [v]) := by
 refine ⟨by simp [x.1], fun i l' v' a b => ?_⟩
 by_cases hi : i < ls.length
 ·rw [List.getElem?_append_left hi] at a
  rw [List.getElem?_append_left (by rw [x.1]; exact hi)] at b
  exact x.2 i l' v' a b
 ·have h1 := (List.getElem?_eq_some_iff.1 a).1
  have hie : i = ls.length := by simp at h1; omega
  subst hie
  rw [List.getElem?_append_right (Nat.le_refl _), Nat.sub_self] at a
  rw [List.getElem?_append_right (by rw [x.1]; exact Nat.le_refl _), x.1, Nat.sub_self] at b
  simp at a b
  subst a b
  exact s
def LLR (h : AH) (ls : List (List Int)) (v : Value) : Prop := ∃ A c vs, v = .slice A ls.length c ∧ Row h 1 fnC A vs ∧ LLv h ls vs
theorem flat_fn : ∀ l : List Value, l.flatMap fnC = l
 | [] => rfl
 | v :: l => by rw [List.flatMap_cons, flat_fn l]; rfl
end Go.Proofs.Ytgjcepdhclmglaa
namespace Go.Wx
open Go Go.HL
variable [Lvl]
end Go.Wx
namespace Go.Proofs.Ytgjcepdhclmglaa
open Go Go.HL Go.Proofs Go.Wx Go.RowKit
variable [Lvl]
set_option maxRecDepth 100000
end Go.Proofs.Ytgjcepdhclmglaa
namespace Go.Wx
open Go Go.HL
variable [Lvl]
theorem skies_at : ∀ (rs : List Rg) (k : Nat) (x y : Sky), k + rs.length ≤ 6 → y ∈ skiesM rs k x → (∀ (i : Nat) r, rs[i]? = some r → r.mn ≤ y.at (k + i) ∧ y.at (k + i) ≤ r.mx) ∧ ∀ i, i < 6 → i < k ∨ k + rs.length ≤ i → y.at i = x.at i
 | [], k, x, y, _, h => by
  rw [skiesM, List.mem_singleton] at h
  subst h
  exact ⟨fun i r hr => by simp at hr, fun _ _ _ => rfl⟩
 | r :: rs, k, x, y, hl, h => by
  rw [List.length_cons] at hl ⊢
  rw [skiesM, List.mem_flatMap] at h
  obtain ⟨n, hn, h⟩ := h
  rw [mem_rangeI] at hn
  obtain ⟨h1, h2⟩ := skies_at rs (k + 1) _ y (by omega) h
  have hk : y.at k = n := by rw [h2 k (by omega) (by omega), Sky.at_set x n (by omega) (by omega), if_pos rfl]
  refine ⟨fun i q hq => ?_, fun i hi hc => ?_⟩
  ·cases i with
   | zero => simp at hq; subst hq; rw [Nat.add_zero, hk]; omega
   | succ i =>
    have := h1 i q (by simpa using hq)
    rw [show k + 1 + i = k + (i + 1) by omega] at this
    exact this
  ·rw [h2 i hi (by omega), Sky.at_set x n (by omega) hi, if_neg (by omega)]
theorem mem_allSkies {s : Season} {n : Int} (h6 : (weatherM s n).length ≤ 6) {y : Sky} : y ∈ allSkies s n ↔ (∀ (i : Nat) r, (weatherM s n)[i]? = some r → r.mn ≤ y.at i ∧ y.at i ≤ r.mx) ∧ ∀ i, i < 6 → (weatherM s n).length ≤ i → y.at i = 0 := by
 have z : ∀ i, i < 6 → sky0.at i = 0 := fun i hi => by
  match i, hi with
  | 0, _ => rfl
  | 1, _ => rfl
  | 2, _ => rfl
  | 3, _ => rfl
  | 4, _ => rfl
  | 5, _ => rfl
  | i + 6, h => omega
 constructor
 ·intro h
  obtain ⟨h1, h2⟩ := skies_at _ 0 sky0 y (by omega) h
  exact ⟨fun i r hr => by have := h1 i r hr; rwa [Nat.zero_add] at this, fun i hi hl => by rw [h2 i hi (by omega), z i hi]⟩
 ·rintro ⟨h1, h2⟩
  exact mem_skies _ 0 sky0 (by omega) (fun i r hr => by rw [Nat.zero_add]; exact h1 i r hr) (fun i hi hc => by rw [h2 i hi (by omega), z i hi])
theorem failsM_week {s : Season} {i w : Nat} (h : (failsM s i).testBit w = true) : w ≤ s.heats.length := by
 unfold failsM at h
 obtain ⟨y, hy, e⟩ := (maskM_bit _ _).1 h
 have := flsK_week hy
 omega
theorem last_le {m m' : Nat} (h : ∀ w', w' < 7 → m'.testBit w' = true → ∃ w, w' ≤ w ∧ w < 7 ∧ m.testBit w = true) (hm : listM m' ≠ []) : (listM m').getLastD 0 ≤ (listM m).getLastD 0 := by
 have hl : (listM m').getLastD 0 ∈ listM m' := by
  rw [List.getLastD_eq_getLast?, List.getLast?_eq_some_getLast hm]
  exact List.getLast_mem hm
 obtain ⟨i, e, hi, hb⟩ := listN_mem hl
 obtain ⟨w, h1, h2, h3⟩ := h i hi hb
 have hmem : ((w : Nat) : Int) ∈ listM m := mem_listN.2 ⟨w, rfl, h2, h3⟩
 have hne : listM m ≠ [] := List.ne_nil_of_mem hmem
 have hg : (w : Int) ≤ (listM m).getLastD 0 := by
  rw [List.getLastD_eq_getLast?, List.getLast?_eq_some_getLast hne, Option.getD_some]
  have hp : (listM m).Pairwise (· < ·) := listN_pair m 7
  obtain ⟨k, hk⟩ := List.mem_iff_getElem?.1 hmem
  obtain ⟨hkl, hke⟩ := List.getElem?_eq_some_iff.1 hk
  rw [List.getLast_eq_getElem, ← hke]
  by_cases hkk : k = (listM m).length - 1
  ·subst hkk; exact Int.le_refl _
  ·have := List.pairwise_iff_getElem.1 hp k ((listM m).length - 1) hkl (by omega) (by omega)
   omega
 omega
end Go.Wx
namespace Go.Proofs.Ytgjcepdhclmglaa
open Go Go.HL Go.Proofs Go.Wx
variable [Lvl]
set_option maxRecDepth 100000
theorem inM_not {x lo hi : Int} (h : (!(decide (lo ≤ x) && decide (x ≤ hi))) = true) : inM x lo hi = false := by
 unfold inM
 cases e : (decide (lo ≤ x) && decide (x ≤ hi)) with
 | false => rfl
 | true => rw [e] at h; cases h
theorem inM_yes {x lo hi : Int} (h : (!(decide (lo ≤ x) && decide (x ≤ hi))) = false) : inM x lo hi = true := by
 unfold inM
 cases e : (decide (lo ≤ x) && decide (x ≤ hi)) with
 | true => rfl
 | false => rw [e] at h; cases h
end Go.Proofs.Ytgjcepdhclmglaa
namespace Go.Proofs.Ytgjcepdhclmglaa
open Go Go.HL Go.Proofs Go.Wx
variable [Lvl]
set_option maxRecDepth 100000
theorem rgEqD (d : Nat) (a b : Rg) : pev Try.prog (Op.equalIn (d + 2) 41 (.agg #[.int .i64 a.mn, .int .i64 a.mx]) (.agg #[.int .i64 b.mn, .int .i64 b.mx])) = some (decide (a = b)) := by
 have h1 := eq_struct (P := Try.prog) (t := 41) (d := d + 1) (fs := [_, _]) (xs := #[.int .i64 a.mn, .int .i64 a.mx]) (ys := #[.int .i64 b.mn, .int .i64 b.mx]) (rs := [a.mn == b.mn, a.mx == b.mx]) rfl (by kernel_rfl) rfl ?_
 ·refine h1.trans ?_
  obtain ⟨a1, a2⟩ := a
  obtain ⟨b1, b2⟩ := b
  simp only [List.all_cons, List.all_nil, id, Bool.and_true, Option.some.injEq]
  rw [Bool.eq_iff_iff]
  simp
 ·intro i f r hf hr
  match i, hf, hr with
  | 0, hf, hr => cases hf; cases hr; exact ⟨by decide, _, _, rfl, rfl, eq_int rfl _ _⟩
  | 1, hf, hr => cases hf; cases hr; exact ⟨by decide, _, _, rfl, rfl, eq_int rfl _ _⟩
  | i + 2, hf, hr => simp at hf
theorem rgEq (a b : Rg) : pev Try.prog (Op.equalIn Op.maxDepth 41 (.agg (rgC a).toArray) (.agg (rgC b).toArray)) = some (decide (a = b)) := rgEqD 9998 a b
def sameN {α : Type} [DecidableEq α] (p : Bool) (a b : List α) (k : Nat) : Bool := p && decide (a.take k = b.take k)
theorem sameN_zero {α : Type} [DecidableEq α] (p : Bool) (a b : List α) : sameN p a b 0 = p := by simp [sameN]
theorem sameN_succ {α : Type} [DecidableEq α] {a b : List α} {k : Nat} (ha : k < a.length) (hb : k < b.length) (h : sameN true a b k = true) : sameN true a b (k + 1) = decide (a[k] = b[k]) := by
 unfold sameN at h ⊢
 simp only [Bool.true_and, decide_eq_true_eq] at h
 rw [Bool.true_and, take_snoc ha, take_snoc hb, h, decide_eq_decide]
 constructor
 ·intro e
  have := List.append_cancel_left e
  injection this
 ·intro e; rw [e]
theorem sameN_all {α : Type} [DecidableEq α] {a b : List α} (hl : a.length = b.length) (p : Bool) : sameN p a b a.length = (p && decide (a = b)) := by
 unfold sameN
 rw [List.take_length, hl, List.take_length]
theorem sameN_no {α : Type} [DecidableEq α] {a b : List α} {k : Nat} {p : Bool} (h : sameN p a b k = false) : (p && decide (a = b)) = false := by
 unfold sameN at h
 cases p with
 | false => rfl
 | true =>
  rw [Bool.true_and, decide_eq_false_iff_not] at h ⊢
  intro e; rw [e] at h; exact h rfl
theorem sameRanges_ok (a b : List Rg) (A B : Option Addr) (ca cb : Nat) (h : AH) (Ra : Row h 2 rgC A a) (Rb : Row h 2 rgC B b) (ha : a.length < 2 ^ 40) :
  FnT Try.prog 15 #[.slice A a.length ca, .slice B b.length cb] h (fun v _ => v = .bool (decide (a = b))) := by
 refine wL Try.func15 rfl Try.ntmps15 rfl ?_
 refine qF ?_
 refine qC rfl ?_
 refine qA (qE (v := .bool _) rfl) ?_
 refine qF ?_
 refine qC rfl ?_
 refine qA (qB (v := .slice _ _ _) rfl) ?_
 refine qA (wV rfl rfl) ?_
 refine qA (qB (v := .slice _ _ _) rfl) ?_
 refine qA (wV rfl rfl) ?_
 refine qA (qK (v := .bool _) rfl) ?_
 refine qA (qE (v := .bool _) rfl) ?_
 refine qF ?_
 refine qF ?_
 refine qC rfl ?_
 refine qA (qE (v := .int .i64 _) rfl) ?_
 refine qN ?_
 obtain ⟨p, hp⟩ : ∃ p, decide (a.length = b.length) = p := ⟨_, rfl⟩
 have hp' : Value.bool ((a.length : Int) == (b.length : Int)) = .bool p := by rw [natBeq, hp]
 refine zN [5, 6, 12, 13, 14, 15, 16, 17, 18, 19, 20, 21, 22, 23, 24, 25, 26, 27, 28, 29] 0 (α := Nat) (fun k => [(5, .bool (sameN p a b k)), (6, .int .i64 k)]) (fun k => _) (fun k h_k => k ≤ a.length) (fun k => a.length - k) (0) ⟨(by rw [sameN_zero]; exact hp'), rfl, trivial⟩ (rfl) (Nat.zero_le _) ?_
 rintro k T1 h_k E_k J_k
 refine qP [] rfl ?_
 obtain ⟨q, hq⟩ : ∃ q, sameN p a b k = q := ⟨_, rfl⟩
 rw [hq]
 cases q with
 | false =>
  refine qF ?_
  refine qF ?_
  refine qC rfl ?_
  refine qA (qB (v := .bool _) rfl) ?_
  refine qA (qB (v := .bool _) rfl) ?_
  refine wQ rfl rfl ?_
  refine wQ rfl rfl ?_
  refine wQ rfl rfl ?_
  refine wQ rfl rfl ?_
  refine qA (wY rfl rfl (v := .bool _) rfl) ?_
  refine zI rfl (rfl) ?_
  refine wU ?_
  refine qF ?_
  refine qC rfl ?_
  refine qA (qB (v := .bool _) rfl) ?_
  refine qA (qE (v := .bool _) rfl) ?_
  refine wK ?_
  refine qW (vs := [_]) Try.results15 ⟨qR rfl rfl, trivial⟩ fun V => ?_
  exact ⟨(zP E_k (wE V)), congrArg Value.bool (by have e := sameN_no hq; rw [← hp] at e; cases hd : decide (a = b) with | false => rfl | true => rw [hd] at e; have := of_decide_eq_true hd; subst this; simp at e)⟩
 | true =>
  have hpt : p = true := by cases p with | true => rfl | false => cases hq
  subst hpt
  have hlen : a.length = b.length := of_decide_eq_true hp
  refine qF ?_
  refine qF ?_
  refine qC rfl ?_
  refine qA (qB (v := .bool _) rfl) ?_
  refine qA (qB (v := .bool _) rfl) ?_
  refine qQ rfl rfl ?_
  refine qA (qB (v := .int .i64 _) rfl) ?_
  refine qQ rfl rfl ?_
  refine qA (qB (v := .slice _ _ _) rfl) ?_
  refine qQ rfl rfl ?_
  refine qA (wV rfl rfl) ?_
  refine qQ rfl rfl ?_
  refine qA (qK (v := .bool _) rfl) ?_
  refine qA (wX rfl rfl (v := .bool _) rfl) ?_
  refine wA rfl (fun ht => ?_) (fun ht => ?_)
  ·skip
   have hlt : k < a.length := ltI ht
   have hlt2 : k < b.length := by omega
   obtain ⟨g, off, hA, hc⟩ := (Ra.ext E_k).at (by omega) hlt
   obtain ⟨g2, off2, hB, hc2⟩ := (Rb.ext E_k).at (by omega) hlt2
   refine qT ?_
   refine qF ?_
   refine qN ?_
   refine zB [] rfl rfl rfl ?_
   refine qD (i := 0) rfl (by decide +kernel) (qB (v := .slice _ _ _) rfl) ?_
   refine qD (i := 1) rfl (by decide +kernel) (qB (v := .int .i64 _) rfl) ?_
   refine qD (i := 2) rfl (by decide +kernel) (wM rfl hA rfl rfl rfl (by omega) (by omega)) ?_
   refine qL (i := 3) rfl (by decide +kernel) ?_
   refine op_loadA rfl rfl rfl rfl (hc) ?_
   refine qD (i := 4) rfl (by decide +kernel) (qB (v := .slice _ _ _) rfl) ?_
   refine qD (i := 5) rfl (by decide +kernel) (qB (v := .int .i64 _) rfl) ?_
   refine qD (i := 6) rfl (by decide +kernel) (wM rfl hB rfl rfl rfl (by omega) (by omega)) ?_
   refine qL (i := 7) rfl (by decide +kernel) ?_
   refine op_loadA rfl rfl rfl rfl (hc2) ?_
   refine qD (i := 8) rfl (by decide +kernel) (pv_eqA rfl rfl (by kernel_rfl) (rgEq _ _)) ?_
   refine qD (i := 9) rfl (by decide +kernel) (qE (v := .bool _) rfl) ?_
   refine wW rfl ?_
   refine qC rfl ?_
   refine qA (qB (v := .int .i64 _) rfl) ?_
   refine qA (qO rfl (by omega)) ?_
   refine qA (qE (v := .int .i64 _) rfl) ?_
   refine ⟨k + 1, ⟨(by rw [sameN_succ hlt hlt2 hq]; rfl), rfl, trivial⟩, rfl, rfl, E_k, fun h3 E3 => hlt, by first | omega | (dsimp only; omega), ?_⟩
   repeat (first | exact qU _ _ _ | refine wB (by decide) ?_ | refine qS rfl ?_ | refine wN rfl ?_)
  ·skip
   have hke : k = a.length := by have := geI ht; omega
   subst hke
   refine wU ?_
   refine qF ?_
   refine qC rfl ?_
   refine qA (qB (v := .bool _) rfl) ?_
   refine qA (qE (v := .bool _) rfl) ?_
   refine wK ?_
   refine qW (vs := [_]) Try.results15 ⟨qR rfl rfl, trivial⟩ fun V => ?_
   exact ⟨(zP E_k (wE V)), congrArg Value.bool (by rw [sameN_all hlen] at hq; rw [← hq]; rfl)⟩
structure PreS (a b : Season) (p : Bool) : Prop where
 no : p = false → a ≠ b
 yes : p = true → a.heats = b.heats ∧ a.damps = b.damps ∧ a.joints.length = b.joints.length ∧ a.reports.length = b.reports.length
end Go.Proofs.Ytgjcepdhclmglaa
namespace Go.Wx
open Go Go.HL
variable [Lvl]
end Go.Wx
namespace Go.Wx
open Go Go.HL
variable [Lvl]
theorem CheckS.b {s : Season} (c : CheckS s) : SeasonB s := (checkM_zero c.ok).b
end Go.Wx
namespace Go.Proofs.Ytgjcepdhclmglaa
open Go Go.HL Go.Proofs Go.Wx
variable [Lvl]
set_option maxRecDepth 100000
end Go.Proofs.Ytgjcepdhclmglaa
namespace Go.Proofs.Ytgjcepdhclmglaa
open Go Go.HL Go.Proofs Go.Wx
variable [Lvl]
set_option maxRecDepth 100000
end Go.Proofs.Ytgjcepdhclmglaa
namespace Go.Wx
open Go Go.HL
variable [Lvl]
def loK (l : List Sky) (w k : Nat) : Int := (l.take k).foldl (fun m x => min m (x.at w)) ((l.headD sky0).at w)
def hiK (l : List Sky) (w k : Nat) : Int := (l.take k).foldl (fun m x => max m (x.at w)) ((l.headD sky0).at w)
theorem loK_succ {l : List Sky} {w k : Nat} (h : k < l.length) : loK l w (k + 1) = min (loK l w k) (l[k].at w) := by
 unfold loK; rw [take_snoc h, List.foldl_append]; rfl
theorem hiK_succ {l : List Sky} {w k : Nat} (h : k < l.length) : hiK l w (k + 1) = max (hiK l w k) (l[k].at w) := by
 unfold hiK; rw [take_snoc h, List.foldl_append]; rfl
def weekR (l : List Sky) (w : Nat) : Rg := ⟨loK l w l.length, hiK l w l.length⟩
def kindE (k : Int) : Int := if inM k 1 2 then 0 else 8
def weatherE (s : Season) (k : Int) : Int := knownM s [kindE k]
def weatherL (s : Season) (k : Int) : List Rg := if weatherE s k = 0 then (List.range s.heats.length).map (weekR (skM s k)) else []
theorem kindE_zero {k : Int} (h : kindE k = 0) : k = 1 ∨ k = 2 := by
 unfold kindE at h
 split at h
 ·rename_i hk; unfold inM at hk; simp at hk; omega
 ·cases h
theorem may_pos {s : Season} (h : mayM s = true) {k : Int} (hk : k = 1 ∨ k = 2) : 0 < (skM s k).length := by
 unfold mayM at h
 rw [Bool.and_eq_true, decide_eq_true_eq, decide_eq_true_eq] at h
 rcases hk with rfl | rfl
 ·exact h.1
 ·exact h.2
def mustN (f : Fate) (w : Nat) : Nat → Nat
 | 0 => 0
 | i + 1 => mustN f w i + if uptoM (f.at i) w = 0 then 1 else 0
def canN (f : Fate) (w : Nat) : Nat → Nat
 | 0 => 0
 | i + 1 => canN f w i + if f.at i ≠ uptoM (f.at i) w then 1 else 0
def soundLo (s : Season) (w : Nat) (l : List Fate) : Nat := l.foldl (fun m f => min m (mustN f w s.joints.length)) s.joints.length
def soundHi (s : Season) (w : Nat) (l : List Fate) : Nat := l.foldl (fun m f => max m (canN f w s.joints.length)) 0
theorem foldl_min {α : Type} (g : α → Nat) : ∀ (l : List α) (m z : Nat), z ≤ l.foldl (fun m f => min m (g f)) m ↔ z ≤ m ∧ ∀ f ∈ l, z ≤ g f
 | [], m, z => by simp
 | f :: l, m, z => by
  rw [List.foldl_cons, foldl_min g l]
  simp only [List.mem_cons, forall_eq_or_imp]
  constructor
  ·rintro ⟨h1, h2⟩; exact ⟨by omega, by omega, h2⟩
  ·rintro ⟨h1, h2, h3⟩; exact ⟨by omega, h3⟩
theorem foldl_max {α : Type} (g : α → Nat) : ∀ (l : List α) (m z : Nat), l.foldl (fun m f => max m (g f)) m ≤ z ↔ m ≤ z ∧ ∀ f ∈ l, g f ≤ z
 | [], m, z => by simp
 | f :: l, m, z => by
  rw [List.foldl_cons, foldl_max g l]
  simp only [List.mem_cons, forall_eq_or_imp]
  constructor
  ·rintro ⟨h1, h2⟩; exact ⟨by omega, by omega, h2⟩
  ·rintro ⟨h1, h2, h3⟩; exact ⟨by omega, h3⟩
theorem soundLo_same {s : Season} {w : Nat} {l l' : List Fate} (h : ∀ f, f ∈ l ↔ f ∈ l') : soundLo s w l = soundLo s w l' := by
 refine Nat.le_antisymm ?_ ?_
 ·exact (foldl_min _ _ _ _).2 (by have := (foldl_min (fun f => mustN f w s.joints.length) l s.joints.length (soundLo s w l)).1 (Nat.le_refl _); exact ⟨this.1, fun f hf => this.2 f ((h f).2 hf)⟩)
 ·exact (foldl_min _ _ _ _).2 (by have := (foldl_min (fun f => mustN f w s.joints.length) l' s.joints.length (soundLo s w l')).1 (Nat.le_refl _); exact ⟨this.1, fun f hf => this.2 f ((h f).1 hf)⟩)
theorem soundHi_same {s : Season} {w : Nat} {l l' : List Fate} (h : ∀ f, f ∈ l ↔ f ∈ l') : soundHi s w l = soundHi s w l' := by
 refine Nat.le_antisymm ?_ ?_
 ·exact (foldl_max _ _ _ _).2 (by have := (foldl_max (fun f => canN f w s.joints.length) l' 0 (soundHi s w l')).1 (Nat.le_refl _); exact ⟨this.1, fun f hf => this.2 f ((h f).1 hf)⟩)
 ·exact (foldl_max _ _ _ _).2 (by have := (foldl_max (fun f => canN f w s.joints.length) l 0 (soundHi s w l)).1 (Nat.le_refl _); exact ⟨this.1, fun f hf => this.2 f ((h f).2 hf)⟩)
def soundE (s : Season) (w : Int) : Int := knownM s [isWeekM s w]
def soundV (s : Season) (w : Int) : Rg := if soundE s w = 0 then ⟨soundLo s w.toNat (allFates s), soundHi s w.toNat (allFates s)⟩ else ⟨0, 0⟩
theorem mustN_le (f : Fate) (w : Nat) : ∀ n, mustN f w n ≤ n
 | 0 => Nat.le_refl _
 | n + 1 => by have := mustN_le f w n; rw [mustN]; split <;> omega
theorem canN_le (f : Fate) (w : Nat) : ∀ n, canN f w n ≤ n
 | 0 => Nat.le_refl _
 | n + 1 => by have := canN_le f w n; rw [canN]; split <;> omega
end Go.Wx
namespace Go.Proofs.Ytgjcepdhclmglaa
open Go Go.HL Go.Proofs Go.Wx
variable [Lvl]
set_option maxRecDepth 100000
theorem weather1_ask (w : Int) (b1 : Nat) (h : AH) (e1 : h b1 = some (.cells #[.int .i64 w] 3 (0, 0))) :
  AskT (.func (.func 28) #[] #[.pointer (some ⟨b1, 0, none⟩)]) h (kindE w) := by
 intro h' E _
 refine callV_fn (caps := [.pointer (some ⟨b1, 0, none⟩)]) rfl ?_
 refine wL Try.func28 rfl Try.ntmps28 rfl ?_
 refine qF ?_
 refine qC rfl ?_
 refine qA (qE (v := .int .i64 _) rfl) ?_
 refine qF ?_
 refine qF ?_
 refine qC rfl ?_
 refine qV (v := .int .i64 _) rfl rfl (by simp only [cellA, E _ _ e1]; rfl) ?_
 refine wP (caps := []) (vs := [.int .i64 _, .int .i64 _, .int .i64 _]) rfl rfl rfl (in_ok _ _ _ h') ?_
 rintro _ h3 E3 rfl
 refine qA (qK (v := .bool _) rfl) ?_
 refine wA rfl (fun ht => ?_) (fun ht => ?_)
 ·skip
  have hb := inM_not ht
  refine qF ?_
  refine qC rfl ?_
  refine qA (qE (v := .int .i64 _) rfl) ?_
  refine wK ?_
  refine qW (vs := [_]) Try.results28 ⟨qR rfl rfl, trivial⟩ fun V => ?_
  refine ⟨(zP E3 (wE V)), intE ?_⟩
  unfold kindE
  rw [hb]; rfl
 ·skip
  have hb := inM_yes ht
  refine qT ?_
  refine qF ?_
  refine qC rfl ?_
  refine qA (qE (v := .int .i64 _) rfl) ?_
  refine wK ?_
  refine qW (vs := [_]) Try.results28 ⟨qR rfl rfl, trivial⟩ fun V => ?_
  refine ⟨(zP E3 (wE V)), intE ?_⟩
  unfold kindE
  rw [hb]; rfl
set_option maxHeartbeats 4000000 in
theorem Weather_ok (s : Season) (Sm : Small s) (kd : Int) (A0 A1 A2 A3 : Option Addr) (c0 c1 c2 c3 : Nat) (h : AH) (R : SeasonR h A0 A1 A2 A3 s) :
  FnT Try.prog 11 #[seasonV A0 A1 A2 A3 c0 c1 c2 c3 s, .int .i64 kd] h (fun v h' => ∃ u, v = .tuple #[u, .int .i64 (weatherE s kd)] ∧ SlR h' 2 rgC (weatherL s kd) u) := by
 by_cases he : weatherE s kd = 0
 ·have hk := knownM_zero he
  have SV := checkM_zero hk.1
  have hw6 := SV.b.w6
  have hkd : kd = 1 ∨ kd = 2 := kindE_zero (firstErr_zero (f := id) hk.2.1 (kindE kd) (by simp))
  have hpos := may_pos hk.2.2 hkd
  have hsk : (skM s kd).length ≤ 729 := skK_len SV.b kd (allSkies s kd).length
  refine wL Try.func11 rfl Try.ntmps11 rfl ?_
  refine qF ?_
  refine qC rfl ?_
  refine zF (v := .agg #[.slice _ _ _, .slice _ _ _, .slice _ _ _, .slice _ _ _]) (cs := [_, _, _, _]) rfl rfl fun b2 hb2 => ?_
  refine qH [_] rfl ?_
  refine zF (v := .int .i64 _) (cs := [_]) rfl rfl fun b3 hb3 => ?_
  refine qH [_, _] rfl ?_
  refine qA (qE (v := .slice _ _ _) rfl) ?_
  refine qA (qE (v := .int .i64 _) rfl) ?_
  refine zH 1 rfl ?_
  intro h1 E1 p1
  refine goes_more ?_
  refine qP [_, _, _] rfl ?_
  refine qF ?_
  refine qC rfl ?_
  refine qX 0 (vs := [.slice _ _ _, .slice _ _ _, .slice _ _ _, .slice _ _ _]) rfl rfl rfl rfl rfl ?_
  refine qA (pv_makeFunc (vs := []) (ws := [_]) rfl rfl) ?_
  refine wG (zc := [_]) (vs := [(0, _)]) (cs := [_]) rfl rfl rfl rfl rfl rfl rfl fun b17 hb17 => ?_
  refine qH [_, _, _, _] rfl ?_
  refine wp_pub 3 rfl rfl ?_
  intro h2 E2 p17
  refine qH [_, _, _, _] rfl ?_
  refine wP (caps := []) (vs := [.agg #[.slice _ _ _, .slice _ _ _, .slice _ _ _, .slice _ _ _], .slice _ _ _]) rfl rfl rfl (known_yes s A0 A1 A2 A3 c0 c1 c2 c3 h2 (R.ext (zP E1 E2)) Sm.h0 Sm.h1 Sm.h2 Sm.h3 [_] [_] _ _ (rowFn p17) rfl (by simp) (ask1 ((weather1_ask kd b3 _ p1).ext E2)) he) ?_
  rintro _ h3 E3 ⟨A, c, mf, fm, fl, A', c', mf', fm', fl', rfl, X, X'⟩
  refine qA (qB (v := .tuple #[.agg #[.slice _ _ _, .map _, .map _, .map _, .map _, .slice _ _ _, .map _, .map _, .map _, .map _], .int .i64 _]) rfl) ?_
  refine qA (qK (v := .agg #[.slice _ _ _, .map _, .map _, .map _, .map _, .slice _ _ _, .map _, .map _, .map _, .map _]) rfl) ?_
  refine qA (qK (v := .int .i64 _) rfl) ?_
  refine wO (cs := [_, _, _, _, _, _, _, _, _, _]) rfl rfl fun b6 hb6 => ?_
  refine qH [_, _, _, _, _] rfl ?_
  refine qJ 4 (v := .agg #[.slice _ _ _, .map _, .map _, .map _, .map _, .slice _ _ _, .map _, .map _, .map _, .map _]) (vs := [_, _, _, _, _, _, _, _, _, _]) (c' := [_, _, _, _, _, _, _, _, _, _]) rfl rfl rfl rfl rfl rfl rfl rfl rfl ?_
  refine qH [_, _, _, _, _] rfl ?_
  refine qA (qE (v := .int .i64 _) rfl) ?_
  refine qF ?_
  refine qF ?_
  refine qC rfl ?_
  refine qA (qB (v := .int .i64 _) rfl) ?_
  refine qA (qK (v := .bool _) rfl) ?_
  refine zI rfl (by decide) ?_
  refine qT ?_
  refine qF ?_
  refine qC rfl ?_
  refine qX 4 (vs := [.slice _ _ _, .map _, .map _, .map _, .map _, .slice _ _ _, .map _, .map _, .map _, .map _]) rfl rfl rfl rfl rfl ?_
  refine qV (v := .int .i64 _) rfl rfl (by simp only [cellA, (zP E2 E3) _ _ p1]; rfl) ?_
  refine wP (caps := []) (vs := [.agg #[.slice _ _ _, .map _, .map _, .map _, .map _, .slice _ _ _, .map _, .map _, .map _, .map _], .int .i64 _]) rfl rfl rfl (of2_ok s kd hkd A c mf fm fl A' c' mf' fm' fl' h3 (X.ext (Ext.refl _)) (X'.ext (Ext.refl _))) ?_
  rintro _ h4 E4 ⟨AK, cK, mK, fmK, flK, rfl, XK⟩
  refine qA (qK (v := .slice _ _ _) rfl) ?_
  refine qA (qE (v := .slice _ _ _) rfl) ?_
  refine qF ?_
  refine qC rfl ?_
  refine qA (qE (v := .slice _ _ _) rfl) ?_
  refine qF ?_
  refine qF ?_
  refine qC rfl ?_
  refine qA (qG rfl rfl rfl rfl 0 rfl) ?_
  refine qI 0 (v := .slice _ _ _) rfl rfl rfl rfl ?_
  refine qA (wV rfl rfl) ?_
  refine qA (qB (v := .int .i64 _) rfl) ?_
  refine qN ?_
  refine xp_loopL [9, 10, 11, 13, 31, 32, 33, 34, 35, 36, 37, 38, 39, 40, 41, 42, 43, 44, 45, 46, 47, 48, 49, 50, 51, 52, 53, 54, 55, 56, 57, 58, 59, 60, 61, 62, 63, 64, 65, 66, 67, 68, 69] 5 (α := Nat × Acc) (fun ⟨w, a⟩ => [(31, .int .i64 w), (9, .slice a.A a.n a.c)]) (fun ⟨w, a⟩ L => L.set 2 (a.p)) (fun ⟨w, a⟩ h_w => w ≤ s.heats.length ∧ AccR 41 2 (((List.range w).map (weekR (skM s kd))).flatMap rgC) a) (fun ⟨w, a⟩ => s.heats.length - w) ((0, acc0)) ⟨rfl, rfl, trivial⟩ (rfl) (⟨Nat.zero_le _, accR0⟩) ?_
  rintro ⟨w, a⟩ T1 h_w E_w J_w
  refine qP [_, _, _, _, _] rfl ?_
  obtain ⟨K1, K2⟩ := J_w
  refine qF ?_
  refine qC rfl ?_
  refine qA (qK (v := .bool _) rfl) ?_
  refine qF ?_
  refine wA rfl (fun hw => ?_) (fun hw => ?_)
  ·skip
   have hwl : w < s.heats.length := ltI hw
   obtain ⟨g, off, hA, hc0⟩ := (XK.sk.ext E_w).at (by omega) hpos
   have hw6' : w < 6 := by omega
   have hhd : (skM s kd).headD sky0 = (skM s kd)[0] := by simp [List.headD_eq_head?_getD, List.head?_eq_getElem?, List.getElem?_eq_getElem hpos]
   have hcw := hc0 w _ (skyC_at _ w hw6')
   refine qT ?_
   refine qF ?_
   refine qN ?_
   refine qF ?_
   refine qC rfl ?_
   refine qA (qB (v := .int .i64 _) rfl) ?_
   refine qA (qE (v := .int .i64 _) rfl) ?_
   refine qF ?_
   refine zB [] rfl rfl rfl ?_
   refine qD (i := 0) rfl (by decide +kernel) (qB (v := .slice _ _ _) rfl) ?_
   refine qD (i := 1) rfl (by decide +kernel) (qB (v := .int .i64 _) rfl) ?_
   refine qD (i := 2) rfl (by decide +kernel) (wM rfl hA rfl rfl rfl (by omega) (by omega)) ?_
   refine qD (i := 3) rfl (by decide +kernel) (pv_indexA (m := 1) rfl rfl rfl rfl (by omega) (by omega)) ?_
   refine qL (i := 4) rfl (by decide +kernel) ?_
   refine qV (v := .int .i64 ((skM s kd)[0].at w)) rfl rfl (by simpa using hcw) ?_
   refine qD (i := 5) rfl (by decide +kernel) (qB (v := .slice _ _ _) rfl) ?_
   refine qD (i := 6) rfl (by decide +kernel) (qB (v := .int .i64 _) rfl) ?_
   refine qD (i := 7) rfl (by decide +kernel) (wM rfl hA rfl rfl rfl (by omega) (by omega)) ?_
   refine qD (i := 8) rfl (by decide +kernel) (pv_indexA (m := 1) rfl rfl rfl rfl (by omega) (by omega)) ?_
   refine qL (i := 9) rfl (by decide +kernel) ?_
   refine qV (v := .int .i64 ((skM s kd)[0].at w)) rfl rfl (by simpa using hcw) ?_
   refine qD (i := 10) rfl (by decide +kernel) (pv_build (zc := [_, _]) (vs := [(0, .int .i64 _), (1, .int .i64 _)]) (cs := [_, _]) rfl rfl rfl rfl rfl rfl) ?_
   refine zD (i := 11) rfl (by decide +kernel) ?_
   refine wO (cs := [_, _]) rfl rfl fun b11 hb11 => ?_
   refine ⟨ext_new hb11 _, ?_⟩
   refine qZ [_, _, _, _, _, _] rfl ?_
   refine wI (i := 12) rfl (by decide +kernel) (by decide +kernel) ?_
   refine qJ 5 (v := .agg #[.int .i64 _, .int .i64 _]) (vs := [_, _]) (c' := [_, _]) rfl rfl rfl rfl rfl rfl rfl rfl rfl ?_
   refine qZ [_, _, _, _, _, _] rfl ?_
   refine wW rfl ?_
   refine qF ?_
   refine qF ?_
   refine qC rfl ?_
   refine qA (qB (v := .slice _ _ _) rfl) ?_
   refine qA (wV rfl rfl) ?_
   refine qA (qB (v := .int .i64 _) rfl) ?_
   refine qN ?_
   refine xp_loopL [13, 47, 48, 49, 50, 51, 52, 53, 54, 55, 56, 57, 58, 59, 60, 61, 62, 63, 64] 6 (α := Nat) (fun k => [(47, .int .i64 k)]) (fun k L => L.set 5 (some (b11, .cells #[.int .i64 (loK (skM s kd) w k), .int .i64 (hiK (skM s kd) w k)] 41 (0, 0)))) (fun k h_k => k ≤ (skM s kd).length) (fun k => (skM s kd).length - k) (0) ⟨rfl, trivial⟩ (by rw [loK, hiK, hhd]; rfl) (Nat.zero_le _) ?_
   rintro k T2 h_k E_k J_k
   refine qP [_, _, _, _, _, _] rfl ?_
   refine qF ?_
   refine qC rfl ?_
   refine qA (qK (v := .bool _) rfl) ?_
   refine qF ?_
   refine wA rfl (fun hk2 => ?_) (fun hk2 => ?_)
   ·skip
    have hkl : k < (skM s kd).length := ltI hk2
    obtain ⟨g2, off2, hA2, hck⟩ := (XK.sk.ext (zP E_w E_k)).at (by omega) hkl
    refine qT ?_
    refine qF ?_
    refine qN ?_
    refine qF ?_
    refine qC rfl ?_
    refine qA (wM rfl hA2 rfl rfl rfl (by omega) (by omega)) ?_
    refine op_loadA rfl rfl rfl rfl (hck) ?_
    refine wO (cs := [_, _, _, _, _, _]) rfl rfl fun b13 hb13 => ?_
    refine qH [_, _, _, _, _, _, _] rfl ?_
    refine qJ 6 (v := .agg #[.int .i64 _, .int .i64 _, .int .i64 _, .int .i64 _, .int .i64 _, .int .i64 _]) (vs := [_, _, _, _, _, _]) (c' := [_, _, _, _, _, _]) rfl rfl rfl rfl rfl rfl rfl rfl rfl ?_
    refine qH [_, _, _, _, _, _, _] rfl ?_
    refine zB [] rfl rfl rfl ?_
    refine qD (i := 0) rfl (by decide +kernel) (qG rfl rfl rfl rfl 0 rfl) ?_
    refine qL (i := 1) rfl (by decide +kernel) ?_
    refine qI 5 (v := .int .i64 _) rfl rfl rfl rfl ?_
    refine qD (i := 2) rfl (by decide +kernel) (qB (v := .int .i64 _) rfl) ?_
    refine qD (i := 3) rfl (by decide +kernel) (pv_indexA rfl rfl rfl rfl (by omega) (by omega)) ?_
    refine qL (i := 4) rfl (by decide +kernel) ?_
    refine qI 6 (v := .int .i64 ((skM s kd)[k].at w)) rfl rfl rfl (skyArr (skM s kd)[k] w hw6') ?_
    refine qD (i := 5) rfl (by decide +kernel) (pv_min rfl rfl) ?_
    refine qD (i := 6) rfl (by decide +kernel) (qG rfl rfl rfl rfl 1 rfl) ?_
    refine qL (i := 7) rfl (by decide +kernel) ?_
    refine qI 5 (v := .int .i64 _) rfl rfl rfl rfl ?_
    refine qD (i := 8) rfl (by decide +kernel) (qB (v := .int .i64 _) rfl) ?_
    refine qD (i := 9) rfl (by decide +kernel) (pv_indexA rfl rfl rfl rfl (by omega) (by omega)) ?_
    refine qL (i := 10) rfl (by decide +kernel) ?_
    refine qI 6 (v := .int .i64 ((skM s kd)[k].at w)) rfl rfl rfl (skyArr (skM s kd)[k] w hw6') ?_
    refine qD (i := 11) rfl (by decide +kernel) (pv_max rfl rfl) ?_
    refine qD (i := 12) rfl (by decide +kernel) (pv_build (zc := [_, _]) (vs := [(0, .int .i64 _), (1, .int .i64 _)]) (cs := [_, _]) rfl rfl rfl rfl rfl rfl) ?_
    refine wI (i := 13) rfl (by decide +kernel) (by decide +kernel) ?_
    refine qJ 5 (v := .agg #[.int .i64 _, .int .i64 _]) (vs := [_, _]) (c' := [_, _]) rfl rfl rfl rfl rfl rfl rfl rfl rfl ?_
    refine qZ [_, _, _, _, _, _, _] rfl ?_
    refine wW rfl ?_
    refine qC rfl ?_
    refine qA (qO rfl (by omega)) ?_
    refine qA (qB (v := .int .i64 _) rfl) ?_
    refine ⟨k + 1, ⟨rfl, trivial⟩, rfl, by rw [loK_succ hkl, hiK_succ hkl]; rfl, E_k, fun h3 E3 => hkl, by first | omega | (dsimp only; omega), ?_⟩
    repeat (first | exact qU _ _ _ | refine wB (by decide) ?_ | refine qS rfl ?_ | refine wN rfl ?_)
   ·skip
    have hke : k = (skM s kd).length := by have := geI hk2; omega
    subst hke
    refine wU ?_
    refine qC rfl ?_
    refine qA (qB (v := .slice _ _ _) rfl) ?_
    refine qX 5 (vs := [.int .i64 _, .int .i64 _]) rfl rfl rfl rfl rfl ?_
    refine wG (zc := [_, _]) (vs := [(0, .agg #[.int .i64 _, .int .i64 _])]) (cs := [_, _]) rfl rfl rfl rfl rfl rfl rfl fun b67 hb67 => ?_
    refine qH [_, _, _, _, _, _, _] rfl ?_
    refine zK 2 K2 rfl rfl rfl (fun V => rdP V (i := 6) rfl) rfl rfl rfl rfl rfl rfl rfl rfl rfl (by omega) rfl (by rw [wS (m := 2) (fun _ _ => rfl)]; simp; omega) fun a2 h3a E3a ha2 => ?_
    refine qH [_, _, _, _, _, _, _] rfl ?_
    refine qA (qE (v := .slice _ _ _) rfl) ?_
    refine qC rfl ?_
    refine qA (qO rfl (by omega)) ?_
    refine qA (qB (v := .int .i64 _) rfl) ?_
    refine ⟨(w + 1, a2), ⟨rfl, rfl, trivial⟩, rfl, rfl, (zP (zP E_w E_k) E3a), fun h3 E3 => ⟨hwl, by rw [List.range_succ, List.map_append, List.flatMap_append]; exact ha2⟩, by first | omega | (dsimp only; omega), ?_⟩
    repeat (first | exact qU _ _ _ | refine wB (by decide) ?_ | refine qS rfl ?_ | refine wN rfl ?_)
  ·skip
   have hwe : w = s.heats.length := by have := geI hw; omega
   subst hwe
   refine wU ?_
   refine qF ?_
   refine qC rfl ?_
   refine qA (qB (v := .slice _ _ _) rfl) ?_
   refine qA (qE (v := .slice _ _ _) rfl) ?_
   refine qA (qE (v := .int .i64 _) rfl) ?_
   refine wK ?_
   refine qW (vs := [_, _]) Try.results11 ⟨qR rfl rfl, qR rfl rfl, trivial⟩ fun V => ?_
   refine ⟨(zP (zP (zP (zP (zP E1 E2) E3) E4) E_w) (wE V)), _, by rw [he]; rfl, ?_⟩
   rw [weatherL, if_pos he]
   exact AccP.row (i := 2) K2 (by omega) (fun _ _ => rfl) V rfl
 ·skip
  refine wL Try.func11 rfl Try.ntmps11 rfl ?_
  refine qF ?_
  refine qC rfl ?_
  refine zF (v := .agg #[.slice _ _ _, .slice _ _ _, .slice _ _ _, .slice _ _ _]) (cs := [_, _, _, _]) rfl rfl fun b2 hb2 => ?_
  refine qH [_] rfl ?_
  refine zF (v := .int .i64 _) (cs := [_]) rfl rfl fun b3 hb3 => ?_
  refine qH [_, _] rfl ?_
  refine qA (qE (v := .slice _ _ _) rfl) ?_
  refine qA (qE (v := .int .i64 _) rfl) ?_
  refine zH 1 rfl ?_
  intro h1 E1 p1
  refine qF ?_
  refine qC rfl ?_
  refine qX 0 (vs := [.slice _ _ _, .slice _ _ _, .slice _ _ _, .slice _ _ _]) rfl rfl rfl rfl rfl ?_
  refine qA (pv_makeFunc (vs := []) (ws := [_]) rfl rfl) ?_
  refine wG (zc := [_]) (vs := [(0, _)]) (cs := [_]) rfl rfl rfl rfl rfl rfl rfl fun b17 hb17 => ?_
  refine qH [_, _, _] rfl ?_
  refine wp_pub 2 rfl rfl ?_
  intro h2 E2 p17
  refine qH [_, _, _] rfl ?_
  refine wP (caps := []) (vs := [.agg #[.slice _ _ _, .slice _ _ _, .slice _ _ _, .slice _ _ _], .slice _ _ _]) rfl rfl rfl (known_no s A0 A1 A2 A3 c0 c1 c2 c3 h2 (R.ext (zP E1 E2)) Sm.h0 Sm.h1 Sm.h2 Sm.h3 [_] [_] _ _ (rowFn p17) rfl (by simp) (ask1 ((weather1_ask kd b3 _ p1).ext E2)) he) ?_
  rintro _ h3 E3 rfl
  refine qA (qB (v := .tuple #[.agg #[.slice _ _ _, .map _, .map _, .map _, .map _, .slice _ _ _, .map _, .map _, .map _, .map _], .int .i64 _]) rfl) ?_
  refine qA (qK (v := .agg #[.slice _ _ _, .map _, .map _, .map _, .map _, .slice _ _ _, .map _, .map _, .map _, .map _]) rfl) ?_
  refine qA (qK (v := .int .i64 _) rfl) ?_
  refine wO (cs := [_, _, _, _, _, _, _, _, _, _]) rfl rfl fun b6 hb6 => ?_
  refine qH [_, _, _, _] rfl ?_
  refine qJ 3 (v := .agg #[.slice _ _ _, .map _, .map _, .map _, .map _, .slice _ _ _, .map _, .map _, .map _, .map _]) (vs := [_, _, _, _, _, _, _, _, _, _]) (c' := [_, _, _, _, _, _, _, _, _, _]) rfl rfl rfl rfl rfl rfl rfl rfl rfl ?_
  refine qH [_, _, _, _] rfl ?_
  refine qA (qE (v := .int .i64 _) rfl) ?_
  refine qF ?_
  refine qF ?_
  refine qC rfl ?_
  refine qA (qB (v := .int .i64 _) rfl) ?_
  refine qA (qK (v := .bool _) rfl) ?_
  refine xp_condT rfl (by simpa [weatherE] using he) ?_
  refine qF ?_
  refine qC rfl ?_
  refine qA (qB (v := .int .i64 _) rfl) ?_
  refine qA (qE (v := .slice _ _ _) rfl) ?_
  refine qA (qE (v := .int .i64 _) rfl) ?_
  refine wK ?_
  refine qW (vs := [_, _]) Try.results11 ⟨qR rfl rfl, qR rfl rfl, trivial⟩ fun V => ?_
  refine ⟨(zP (zP (zP E1 E2) E3) (wE V)), _, rfl, none, 0, ?_, ?_⟩
  ·rw [weatherL, if_neg he]; rfl
  ·rw [weatherL, if_neg he]; exact ⟨fun _ h => (by cases h), Rd.nil _ _⟩
end Go.Proofs.Ytgjcepdhclmglaa
namespace Go.Proofs.Ytgjcepdhclmglaa
open Go Go.HL Go.Proofs Go.Wx
variable [Lvl]
set_option maxRecDepth 100000
def SoundI (s : Season) (w : Nat) (pre : Pv) (b8 l : Nat) (r : Loop) (h0 : AH) (done : List Fate) (h : AH) (M : Pv) : Prop :=
 Ext h0 h ∧ M = pre ++ [some (b8, .cells #[.int .i64 (soundLo s w done : Nat), .int .i64 (soundHi s w done : Nat)] 41 (0, 0)), some (l, obL r .ready none)]
theorem minN (a b : Nat) : ((min a b : Nat) : Int) = min (a : Int) (b : Int) := by omega
theorem maxN (a b : Nat) : ((max a b : Nat) : Int) = max (a : Int) (b : Int) := by omega
set_option maxHeartbeats 4000000 in
theorem Sound_ok (s : Season) (Sm : Small s) (week : Int) (A0 A1 A2 A3 : Option Addr) (c0 c1 c2 c3 : Nat) (h : AH) (R : SeasonR h A0 A1 A2 A3 s) :
  FnT Try.prog 13 #[seasonV A0 A1 A2 A3 c0 c1 c2 c3 s, .int .i64 week] h (fun v h' => v = .tuple #[rgV (soundV s week), .int .i64 (soundE s week)]) := by
 by_cases he : soundE s week = 0
 ·have hk := knownM_zero he
  have SV := checkM_zero hk.1
  have hw6 := SV.b.w6
  have hj3 := SV.b.j3
  obtain ⟨w, rfl, hw⟩ := isWeekM_zero (s := s) (w := week) (firstErr_zero (f := id) hk.2.1 (isWeekM s week) (by simp))
  refine wL Try.func13 rfl Try.ntmps13 rfl ?_
  refine qF ?_
  refine qC rfl ?_
  refine zF (v := .agg #[.slice _ _ _, .slice _ _ _, .slice _ _ _, .slice _ _ _]) (cs := [_, _, _, _]) rfl rfl fun b2 hb2 => ?_
  refine qH [_] rfl ?_
  refine zF (v := .int .i64 _) (cs := [_]) rfl rfl fun b3 hb3 => ?_
  refine qH [_, _] rfl ?_
  refine wO (cs := [_, _]) rfl rfl fun b4 hb4 => ?_
  refine qH [_, _, _] rfl ?_
  refine qA (qE (v := .int .i64 _) rfl) ?_
  refine qF ?_
  refine zB [] rfl rfl rfl ?_
  refine qL (i := 0) rfl (by decide +kernel) ?_
  refine qX 0 (vs := [.slice _ _ _, .slice _ _ _, .slice _ _ _, .slice _ _ _]) rfl rfl rfl rfl rfl ?_
  refine qL (i := 1) rfl (by decide +kernel) ?_
  refine qX 0 (vs := [.slice _ _ _, .slice _ _ _, .slice _ _ _, .slice _ _ _]) rfl rfl rfl rfl rfl ?_
  refine qL (i := 2) rfl (by decide +kernel) ?_
  refine qI 1 (v := .int .i64 _) rfl rfl rfl rfl ?_
  refine zD (i := 3) rfl (by decide +kernel) ?_
  refine wP (caps := []) (vs := [.agg #[.slice _ _ _, .slice _ _ _, .slice _ _ _, .slice _ _ _], .int .i64 _]) rfl rfl rfl (isWeek_ok s w A0 A1 A2 A3 c0 c1 c2 c3 Sm.h0 h) ?_
  rintro _ h1 E1 ⟨fn, caps, rfl, ak⟩
  refine ⟨ext_wlm E1 _, ?_⟩
  refine zD (i := 4) rfl (by decide +kernel) ?_
  refine wG (zc := [_]) (vs := [(0, _)]) (cs := [_]) rfl rfl rfl rfl rfl rfl rfl fun b18 hb18 => ?_
  refine ⟨ext_new hb18 _, ?_⟩
  refine qZ [_, _, _, _] rfl ?_
  refine dw_pub 3 rfl ?_
  intro h2 E2 p18
  refine qZ [_, _, _, _] rfl ?_
  refine wI (i := 5) rfl (by decide +kernel) (by decide +kernel) ?_
  refine wP (caps := []) (vs := [.agg #[.slice _ _ _, .slice _ _ _, .slice _ _ _, .slice _ _ _], .slice _ _ _]) rfl rfl rfl (known_yes s A0 A1 A2 A3 c0 c1 c2 c3 h2 (R.ext (zP E1 E2)) Sm.h0 Sm.h1 Sm.h2 Sm.h3 [_] [_] _ _ (rowFn p18) rfl (by simp) (ask1 (ak.ext E2)) he) ?_
  rintro _ h3 E3 ⟨A, c, mf, fm, fl, A', c', mf', fm', fl', rfl, X, X'⟩
  refine qD (i := 6) rfl (by decide +kernel) (qB (v := .tuple #[.agg #[.slice _ _ _, .map _, .map _, .map _, .map _, .slice _ _ _, .map _, .map _, .map _, .map _], .int .i64 _]) rfl) ?_
  refine qD (i := 7) rfl (by decide +kernel) (qK (v := .agg #[.slice _ _ _, .map _, .map _, .map _, .map _, .slice _ _ _, .map _, .map _, .map _, .map _]) rfl) ?_
  refine qD (i := 8) rfl (by decide +kernel) (qK (v := .int .i64 _) rfl) ?_
  refine zD (i := 9) rfl (by decide +kernel) ?_
  refine wO (cs := [_, _, _, _, _, _, _, _, _, _]) rfl rfl fun b6 hb6 => ?_
  refine ⟨ext_new hb6 _, ?_⟩
  refine qZ [_, _, _, _, _] rfl ?_
  refine wI (i := 10) rfl (by decide +kernel) (by decide +kernel) ?_
  refine qJ 4 (v := .agg #[.slice _ _ _, .map _, .map _, .map _, .map _, .slice _ _ _, .map _, .map _, .map _, .map _]) (vs := [_, _, _, _, _, _, _, _, _, _]) (c' := [_, _, _, _, _, _, _, _, _, _]) rfl rfl rfl rfl rfl rfl rfl rfl rfl ?_
  refine qZ [_, _, _, _, _] rfl ?_
  refine qD (i := 11) rfl (by decide +kernel) (qE (v := .int .i64 _) rfl) ?_
  refine wW rfl ?_
  refine qF ?_
  refine qF ?_
  refine qC rfl ?_
  refine qA (qB (v := .int .i64 _) rfl) ?_
  refine qA (qK (v := .bool _) rfl) ?_
  refine zI rfl (by decide) ?_
  refine qT ?_
  refine qF ?_
  refine qC rfl ?_
  refine qA (qG rfl rfl rfl rfl 2 rfl) ?_
  refine qI 0 (v := .slice _ _ _) rfl rfl rfl rfl ?_
  refine qA (wV rfl rfl) ?_
  refine qA (pv_build (zc := [_, _]) (vs := [(0, .int .i64 _), (1, .int .i64 _)]) (cs := [_, _]) rfl rfl rfl rfl rfl rfl) ?_
  refine wO (cs := [_, _]) rfl rfl fun b8 hb8 => ?_
  refine qH [_, _, _, _, _, _] rfl ?_
  refine qJ 5 (v := .agg #[.int .i64 _, .int .i64 _]) (vs := [_, _]) (c' := [_, _]) rfl rfl rfl rfl rfl rfl rfl rfl rfl ?_
  refine qH [_, _, _, _, _, _] rfl ?_
  refine qF ?_
  refine qF ?_
  refine qC rfl ?_
  refine qX 4 (vs := [.slice _ _ _, .map _, .map _, .map _, .map _, .slice _ _ _, .map _, .map _, .map _, .map _]) rfl rfl rfl rfl rfl ?_
  refine wP (caps := []) (vs := [.agg #[.slice _ _ _, .map _, .map _, .map _, .map _, .slice _ _ _, .map _, .map _, .map _, .map _]]) rfl rfl rfl (fates_ok s SV A c mf fm fl A' c' mf' fm' fl' h3 (X.ext (Ext.refl _)) (X'.ext (Ext.refl _))) ?_
  rintro y h4 E4 It
  refine qN ?_
  refine xp_rangeFunc rfl ?_
  intro r l lp htm hpr has hbd V0
  refine CallV.mono (It (.yield l) #[] #[] (SoundI s w [_, _, _, _, _] b8 l lp h4) (fun k h1 h2 M E I => ⟨I.1.trans E, I.2⟩) ?_ h4 _ (Ext.refl _) ⟨Ext.refl _, rfl⟩ V0) ?_ (fun _ _ y => y)
  ·intro done f hc M hf I
   obtain ⟨E0, rfl⟩ := I
   have fb := allFates_b hw6 hf
   intro V
   refine callV_yield (wl_get V (i := 6) rfl) hpr rfl htm has hbd ?_
   refine round_enter (i := 6) (r := lp) ?_ V
   refine qP [_, _, _, _, _, _, _] rfl ?_
   refine qC rfl ?_
   refine wO (cs := [_, _, _]) rfl rfl fun b9 hb9 => ?_
   refine qH [_, _, _, _, _, _, _, _] rfl ?_
   refine qJ 7 (v := .agg #[.int .u64 _, .int .u64 _, .int .u64 _]) (vs := [_, _, _]) (c' := [_, _, _]) rfl rfl rfl rfl rfl rfl rfl rfl rfl ?_
   refine qH [_, _, _, _, _, _, _, _] rfl ?_
   refine ⟨rfl, none, rfl, ?_⟩
   refine qP [_, _, _, _, _, _, _, _] rfl ?_
   refine qN ?_
   refine qF ?_
   refine qC rfl ?_
   refine qA (qE (v := .int .i64 _) rfl) ?_
   refine qA (qE (v := .int .i64 _) rfl) ?_
   refine qF ?_
   refine qF ?_
   refine qC rfl ?_
   refine qA (qG rfl rfl rfl rfl 2 rfl) ?_
   refine qI 0 (v := .slice _ _ _) rfl rfl rfl rfl ?_
   refine qA (wV rfl rfl) ?_
   refine qA (qB (v := .int .i64 _) rfl) ?_
   refine qN ?_
   refine zN [10, 11, 12, 36, 37, 38, 39, 40, 41, 42, 43, 44, 45, 46, 47, 48, 49, 50, 51, 52, 53, 54, 55, 56, 57, 58] 8 (α := Nat) (fun i => [(36, .int .i64 i), (10, .int .i64 (mustN f w i : Nat)), (11, .int .i64 (canN f w i : Nat))]) (fun i => _) (fun i h_i => i ≤ s.joints.length) (fun i => s.joints.length - i) (0) ⟨rfl, rfl, rfl, trivial⟩ (rfl) (Nat.zero_le _) ?_
   rintro i T1 h_i E_i J_i
   refine qP [_, _, _, _, _, _, _, _] rfl ?_
   refine qF ?_
   refine qC rfl ?_
   refine qA (qK (v := .bool _) rfl) ?_
   refine qF ?_
   refine wA rfl (fun hti => ?_) (fun hti => ?_)
   ·skip
    have hil := ltI hti
    have hi3 : i < 3 := by omega
    have fbi := fb.at i
    have hm := mustN_le f w i
    have hcn := canN_le f w i
    refine qT ?_
    refine qF ?_
    refine qN ?_
    refine qF ?_
    refine qC rfl ?_
    refine qA (qB (v := .int .i64 _) rfl) ?_
    refine qA (qE (v := .int .i64 _) rfl) ?_
    refine xp_cutB [10, 39, 40, 41, 42, 43, 44, 45, 46] 8 (α := Unit) (fun u => [(10, .int .i64 (mustN f w (i + 1) : Nat))]) (fun u L => L) (fun u h_u => True) ?_ ?_
    ·skip
     refine qF ?_
     refine zB [] rfl rfl rfl ?_
     refine qD (i := 0) rfl (by decide +kernel) (qB (v := .int .i64 _) rfl) ?_
     refine qD (i := 1) rfl (by decide +kernel) (pv_indexA rfl rfl rfl rfl (by omega) (by omega)) ?_
     refine qL (i := 2) rfl (by decide +kernel) ?_
     refine qI 7 (v := .int .u64 (f.at i : Nat)) rfl rfl rfl (fate_arr f i hi3) ?_
     refine qL (i := 3) rfl (by decide +kernel) ?_
     refine qI 1 (v := .int .i64 _) rfl rfl rfl rfl ?_
     refine wI (i := 4) rfl (by decide +kernel) (by decide +kernel) ?_
     refine wP (caps := []) (vs := [.int .u64 _, .int .i64 _]) rfl rfl rfl (upto_ok (f.at i) w (by omega) (by omega) h_i) ?_
     rintro _ h5 E5 rfl
     refine qD (i := 5) rfl (by decide +kernel) (qK (v := .bool _) rfl) ?_
     refine wW rfl ?_
     refine wA rfl (fun hu => ?_) (fun hu => ?_)
     ·skip
      have hu' : uptoM (f.at i) w = 0 := by simpa using hu
      refine qC rfl ?_
      refine qA (qB (v := .int .i64 _) rfl) ?_
      refine qA (qO rfl (by omega)) ?_
      refine qA (qE (v := .int .i64 _) rfl) ?_
      refine ⟨(), ⟨intE (by rw [mustN, if_pos hu']; omega), trivial⟩, rfl, rfl, E5, fun h3 E3 => by first | trivial | omega | (refine ⟨?_, ?_⟩ <;> omega), ?_⟩
      repeat (first | exact zE _ _ | exact qU _ _ _ | refine wB (by decide) ?_ | refine qS rfl ?_ | refine wN rfl ?_)
     ·skip
      have hu' : ¬ uptoM (f.at i) w = 0 := by simpa using hu
      refine qT ?_
      refine ⟨(), ⟨intE (by rw [mustN, if_neg hu']; omega), trivial⟩, rfl, rfl, E5, fun h3 E3 => by first | trivial | omega | (refine ⟨?_, ?_⟩ <;> omega), ?_⟩
      repeat (first | exact zE _ _ | exact qU _ _ _ | refine wB (by decide) ?_ | refine qS rfl ?_ | refine wN rfl ?_)
    ·rintro u T2 h_u E_u J_u
     refine qP [_, _, _, _, _, _, _, _] rfl ?_
     refine qF ?_
     refine zB [] rfl rfl rfl ?_
     refine qD (i := 0) rfl (by decide +kernel) (qB (v := .int .i64 _) rfl) ?_
     refine qD (i := 1) rfl (by decide +kernel) (pv_indexA rfl rfl rfl rfl (by omega) (by omega)) ?_
     refine qL (i := 2) rfl (by decide +kernel) ?_
     refine qI 7 (v := .int .u64 (f.at i : Nat)) rfl rfl rfl (fate_arr f i hi3) ?_
     refine qD (i := 3) rfl (by decide +kernel) (qB (v := .int .i64 _) rfl) ?_
     refine qD (i := 4) rfl (by decide +kernel) (pv_indexA rfl rfl rfl rfl (by omega) (by omega)) ?_
     refine qL (i := 5) rfl (by decide +kernel) ?_
     refine qI 7 (v := .int .u64 (f.at i : Nat)) rfl rfl rfl (fate_arr f i hi3) ?_
     refine qL (i := 6) rfl (by decide +kernel) ?_
     refine qI 1 (v := .int .i64 _) rfl rfl rfl rfl ?_
     refine zD (i := 7) rfl (by decide +kernel) ?_
     refine wP (caps := []) (vs := [.int .u64 _, .int .i64 _]) rfl rfl rfl (upto_ok (f.at i) w (by omega) (by omega) h_u) ?_
     rintro _ h5 E5 rfl
     refine ⟨ext_wlm E5 _, ?_⟩
     refine qD (i := 8) rfl (by decide +kernel) (qK (v := .bool _) rfl) ?_
     refine wW rfl ?_
     refine wA rfl (fun hu => ?_) (fun hu => ?_)
     ·skip
      have hu' : f.at i ≠ uptoM (f.at i) w := by
       intro e
       rw [← e] at hu
       simp at hu
      refine qC rfl ?_
      refine qA (qB (v := .int .i64 _) rfl) ?_
      refine qA (qO rfl (by omega)) ?_
      refine qA (qE (v := .int .i64 _) rfl) ?_
      refine qC rfl ?_
      refine qA (qO rfl (by omega)) ?_
      refine qA (qB (v := .int .i64 _) rfl) ?_
      refine ⟨i + 1, ⟨rfl, rfl, intE (by rw [canN, if_pos hu']; omega), trivial⟩, rfl, rfl, (zP (zP E_i E_u) E5), fun h3 E3 => by omega, by first | omega | (dsimp only; omega), ?_⟩
      repeat (first | exact qU _ _ _ | refine wB (by decide) ?_ | refine qS rfl ?_ | refine wN rfl ?_)
     ·skip
      have hu' : ¬ f.at i ≠ uptoM (f.at i) w := by
       intro e
       simp at hu
       exact e (by exact_mod_cast hu)
      refine qT ?_
      refine qC rfl ?_
      refine qA (qO rfl (by omega)) ?_
      refine qA (qB (v := .int .i64 _) rfl) ?_
      refine ⟨i + 1, ⟨rfl, rfl, intE (by rw [canN, if_neg hu']; omega), trivial⟩, rfl, rfl, (zP (zP E_i E_u) E5), fun h3 E3 => by omega, by first | omega | (dsimp only; omega), ?_⟩
      repeat (first | exact qU _ _ _ | refine wB (by decide) ?_ | refine qS rfl ?_ | refine wN rfl ?_)
   ·skip
    have hie : i = s.joints.length := by have := geI hti; omega
    subst hie
    refine wU ?_
    refine qC rfl ?_
    refine qA (qG rfl rfl rfl rfl 0 rfl) ?_
    refine qI 5 (v := .int .i64 _) rfl rfl rfl rfl ?_
    refine qA (qB (v := .int .i64 _) rfl) ?_
    refine qA (pv_min rfl rfl) ?_
    refine qA (qG rfl rfl rfl rfl 1 rfl) ?_
    refine qI 5 (v := .int .i64 _) rfl rfl rfl rfl ?_
    refine qA (qB (v := .int .i64 _) rfl) ?_
    refine qA (pv_max rfl rfl) ?_
    refine qA (pv_build (zc := [_, _]) (vs := [(0, .int .i64 _), (1, .int .i64 _)]) (cs := [_, _]) rfl rfl rfl rfl rfl rfl) ?_
    refine qJ 5 (v := .agg #[.int .i64 _, .int .i64 _]) (vs := [_, _]) (c' := [_, _]) rfl rfl rfl rfl rfl rfl rfl rfl rfl ?_
    refine qH [_, _, _, _, _, _, _, _] rfl ?_
    intro V2
    refine ⟨rfl, ⟨_, _, rfl⟩, ?_⟩
    have V3 := valid_set (o' := obL lp .ready none) V2 (i := 6) rfl
    obtain ⟨h9, E9, e9, V9⟩ := wl_drop [_] [_, _, _, _, _, _, _] V3
    refine ⟨h9, _, e9, V9, zP E_i E9, rfl, zP (zP E0 E_i) E9, ?_⟩
    have eL : soundLo s w (done ++ [f]) = min (soundLo s w done) (mustN f w s.joints.length) := by unfold soundLo; rw [List.foldl_append]; rfl
    have eH : soundHi s w (done ++ [f]) = max (soundHi s w done) (canN f w s.joints.length) := by unfold soundHi; rw [List.foldl_append]; rfl
    rw [eL, eH, minN, maxN]
    rfl
  ·rintro v H ⟨h', M', rfl, V', E', done, hdone, E0, rfl⟩
   refine ⟨h', [_, _, _, _, _, _], .ready, none, rfl, V', by simp, fun h'' E'' => ?_⟩
   refine qP [_, _, _, _, _, _] rfl ?_
   refine qF ?_
   refine qC rfl ?_
   refine qX 5 (vs := [.int .i64 _, .int .i64 _]) rfl rfl rfl rfl rfl ?_
   refine qJ 2 (v := .agg #[.int .i64 _, .int .i64 _]) (vs := [_, _]) (c' := [_, _]) rfl rfl rfl rfl rfl rfl rfl rfl rfl ?_
   refine qH [_, _, _, _, _, _] rfl ?_
   refine qA (qE (v := .int .i64 _) rfl) ?_
   refine wK ?_
   refine res_listM (vs := [_, _]) rfl Try.results13 ⟨resV_agg 2 rfl rfl rfl rfl rfl (vs := [.int .i64 _, .int .i64 _]) rfl, qR rfl rfl, trivial⟩ fun hM EM V => ?_
   refine ⟨zP (zP (zP (zP (zP (zP E1 E2) E3) E4) E') E'') (zP EM (wE V)), ?_⟩
   rw [soundV, if_pos he, Int.toNat_natCast, ← soundLo_same hdone, ← soundHi_same hdone, he]
   rfl
 ·skip
  refine wL Try.func13 rfl Try.ntmps13 rfl ?_
  refine qF ?_
  refine qC rfl ?_
  refine zF (v := .agg #[.slice _ _ _, .slice _ _ _, .slice _ _ _, .slice _ _ _]) (cs := [_, _, _, _]) rfl rfl fun b2 hb2 => ?_
  refine qH [_] rfl ?_
  refine zF (v := .int .i64 _) (cs := [_]) rfl rfl fun b3 hb3 => ?_
  refine qH [_, _] rfl ?_
  refine wO (cs := [_, _]) rfl rfl fun b4 hb4 => ?_
  refine qH [_, _, _] rfl ?_
  refine qA (qE (v := .int .i64 _) rfl) ?_
  refine qF ?_
  refine zB [] rfl rfl rfl ?_
  refine qL (i := 0) rfl (by decide +kernel) ?_
  refine qX 0 (vs := [.slice _ _ _, .slice _ _ _, .slice _ _ _, .slice _ _ _]) rfl rfl rfl rfl rfl ?_
  refine qL (i := 1) rfl (by decide +kernel) ?_
  refine qX 0 (vs := [.slice _ _ _, .slice _ _ _, .slice _ _ _, .slice _ _ _]) rfl rfl rfl rfl rfl ?_
  refine qL (i := 2) rfl (by decide +kernel) ?_
  refine qI 1 (v := .int .i64 _) rfl rfl rfl rfl ?_
  refine zD (i := 3) rfl (by decide +kernel) ?_
  refine wP (caps := []) (vs := [.agg #[.slice _ _ _, .slice _ _ _, .slice _ _ _, .slice _ _ _], .int .i64 _]) rfl rfl rfl (isWeek_ok s week A0 A1 A2 A3 c0 c1 c2 c3 Sm.h0 h) ?_
  rintro _ h1 E1 ⟨fn, caps, rfl, ak⟩
  refine ⟨ext_wlm E1 _, ?_⟩
  refine zD (i := 4) rfl (by decide +kernel) ?_
  refine wG (zc := [_]) (vs := [(0, _)]) (cs := [_]) rfl rfl rfl rfl rfl rfl rfl fun b18 hb18 => ?_
  refine ⟨ext_new hb18 _, ?_⟩
  refine qZ [_, _, _, _] rfl ?_
  refine dw_pub 3 rfl ?_
  intro h2 E2 p18
  refine qZ [_, _, _, _] rfl ?_
  refine wI (i := 5) rfl (by decide +kernel) (by decide +kernel) ?_
  refine wP (caps := []) (vs := [.agg #[.slice _ _ _, .slice _ _ _, .slice _ _ _, .slice _ _ _], .slice _ _ _]) rfl rfl rfl (known_no s A0 A1 A2 A3 c0 c1 c2 c3 h2 (R.ext (zP E1 E2)) Sm.h0 Sm.h1 Sm.h2 Sm.h3 [_] [_] _ _ (rowFn p18) rfl (by simp) (ask1 (ak.ext E2)) he) ?_
  rintro _ h3 E3 rfl
  refine qD (i := 6) rfl (by decide +kernel) (qB (v := .tuple #[.agg #[.slice _ _ _, .map _, .map _, .map _, .map _, .slice _ _ _, .map _, .map _, .map _, .map _], .int .i64 _]) rfl) ?_
  refine qD (i := 7) rfl (by decide +kernel) (qK (v := .agg #[.slice _ _ _, .map _, .map _, .map _, .map _, .slice _ _ _, .map _, .map _, .map _, .map _]) rfl) ?_
  refine qD (i := 8) rfl (by decide +kernel) (qK (v := .int .i64 _) rfl) ?_
  refine zD (i := 9) rfl (by decide +kernel) ?_
  refine wO (cs := [_, _, _, _, _, _, _, _, _, _]) rfl rfl fun b6 hb6 => ?_
  refine ⟨ext_new hb6 _, ?_⟩
  refine qZ [_, _, _, _, _] rfl ?_
  refine wI (i := 10) rfl (by decide +kernel) (by decide +kernel) ?_
  refine qJ 4 (v := .agg #[.slice _ _ _, .map _, .map _, .map _, .map _, .slice _ _ _, .map _, .map _, .map _, .map _]) (vs := [_, _, _, _, _, _, _, _, _, _]) (c' := [_, _, _, _, _, _, _, _, _, _]) rfl rfl rfl rfl rfl rfl rfl rfl rfl ?_
  refine qZ [_, _, _, _, _] rfl ?_
  refine qD (i := 11) rfl (by decide +kernel) (qE (v := .int .i64 _) rfl) ?_
  refine wW rfl ?_
  refine qF ?_
  refine qF ?_
  refine qC rfl ?_
  refine qA (qB (v := .int .i64 _) rfl) ?_
  refine qA (qK (v := .bool _) rfl) ?_
  refine xp_condT rfl (by simpa [soundE] using he) ?_
  refine qF ?_
  refine qC rfl ?_
  refine qA (pv_build (zc := [_, _]) (vs := []) (cs := [_, _]) rfl rfl rfl rfl rfl rfl) ?_
  refine qA (qB (v := .int .i64 _) rfl) ?_
  refine qJ 2 (v := .agg #[.int .i64 _, .int .i64 _]) (vs := [_, _]) (c' := [_, _]) rfl rfl rfl rfl rfl rfl rfl rfl rfl ?_
  refine qH [_, _, _, _, _] rfl ?_
  refine qA (qE (v := .int .i64 _) rfl) ?_
  refine wK ?_
  refine qW (vs := [_, _]) Try.results13 ⟨resV_agg 2 rfl rfl rfl rfl rfl (vs := [.int .i64 _, .int .i64 _]) rfl, qR rfl rfl, trivial⟩ fun V => ?_
  refine ⟨(zP (zP (zP E1 E2) E3) (wE V)), ?_⟩
  rw [soundV, if_neg he]; rfl
end Go.Proofs.Ytgjcepdhclmglaa
namespace Go.Proofs.Ytgjcepdhclmglaa
open Go Go.HL Go.Proofs Go.Wx
variable [Lvl]
set_option maxRecDepth 100000
theorem Odds_ok (b x : Nat) (n m : Int) (hm : -2 ^ 30 ≤ m ∧ m ≤ 2 ^ 30) (h : AH) : FnM Try.prog (.func (.func 6) #[] ([] : List Value).toArray) [.pointer (some ⟨b, 0, none⟩), .int .i64 n, .int .i64 m] h [some (b, .cells #[.int .u64 (x : Int)] 67 (0, 0))]
  (fun v h' M' => ∃ (x' : Nat) (u : Bool), M' = [some (b, .cells #[.int .u64 (x' : Int)] 67 (0, 0))] ∧ v = .bool u) := by
 refine fnM_body rfl rfl Try.func6 rfl Try.ntmps6 rfl ?_
 refine qF ?_
 refine qC rfl ?_
 refine qA (qE (v := .bool _) rfl) ?_
 refine qF ?_
 refine qC rfl ?_
 refine qA (qB (v := .pointer (some ⟨b, 0, none⟩)) rfl) ?_
 refine qA (qB (v := .int .i64 _) rfl) ?_
 refine qA (qO rfl (by omega)) ?_
 refine zL [] [_] [] (vs := [.pointer _, .int .i64 _]) rfl rfl rfl ((Upto_ok b x (m - 1) (by omega) h)) ?_
 rintro _ h2 _ E2 ⟨x2, k, rfl, rfl, k1, k2⟩
 refine qH [_] rfl ?_
 refine qA (qB (v := .int .i64 _) rfl) ?_
 refine qA (qK (v := .bool _) rfl) ?_
 refine qA (qE (v := .bool _) rfl) ?_
 refine wK ?_
 refine qW (vs := [_]) Try.results6 ⟨qR rfl rfl, trivial⟩ fun V => ?_
 exact ⟨_, [_], rfl, V, E2, x2, _, rfl, rfl⟩
end Go.Proofs.Ytgjcepdhclmglaa
namespace Go.Proofs.Ytgjcepdhclmglaa
open Go Go.HL Go.Proofs Go.Wx
variable [Lvl]
set_option maxRecDepth 100000
end Go.Proofs.Ytgjcepdhclmglaa
namespace Go.Proofs.Ytgjcepdhclmglaa
open Go Go.HL Go.Proofs Go.Wx
variable [Lvl]
set_option maxRecDepth 100000
end Go.Proofs.Ytgjcepdhclmglaa
namespace Go.Wx
open Go Go.HL
variable [Lvl]
theorem CheckS.reports {s : Season} (c : CheckS s) {rs : List Seen} (h5 : rs.length ≤ 5) (h : ∀ r ∈ rs, checkSeenM s r = 0) : CheckS { s with reports := rs } :=
 ⟨c.w1, c.w6, c.dl, c.h, c.d, c.j3, c.j, h5, fun r hr => checkSeen_iff.2 (checkSeen_iff.1 (h r hr))⟩
end Go.Wx
namespace Go.Wx
open Go Go.HL
variable [Lvl]
theorem mem_le_last {m : Nat} {z : Int} (h : z ∈ listM m) : z ≤ (listM m).getLastD 0 := by
 obtain ⟨i, rfl, hi, hb⟩ := listN_mem h
 have h1 := last_le (m := m) (m' := 2 ^ i) (fun w' hw' hb' => by
  rw [Nat.testBit_two_pow] at hb'
  have : i = w' := by simpa using hb'
  subst this
  exact ⟨i, Nat.le_refl _, hi, hb⟩)
 have h2 : listM (2 ^ i) ≠ [] := List.ne_nil_of_mem (mem_listN.2 ⟨i, rfl, hi, by rw [Nat.testBit_two_pow]; simp⟩)
 have h3 := h1 h2
 have h4 : (listM (2 ^ i)).getLastD 0 = (i : Int) := by
  have hl : (listM (2 ^ i)).getLastD 0 ∈ listM (2 ^ i) := by
   rw [List.getLastD_eq_getLast?, List.getLast?_eq_some_getLast h2]
   exact List.getLast_mem h2
  obtain ⟨k, e, _, hk⟩ := listN_mem hl
  rw [Nat.testBit_two_pow] at hk
  have : i = k := by simpa using hk
  rw [e, this]
 omega
theorem head_le_mem {m : Nat} {z : Int} (h : z ∈ listM m) : (listM m).headD 0 ≤ z := by
 have hp : (listM m).Pairwise (· < ·) := listN_pair m 7
 cases e : listM m with
 | nil => rw [e] at h; cases h
 | cons y l =>
  rw [e] at h hp
  rw [List.headD_cons]
  rcases List.mem_cons.1 h with rfl | h
  ·exact Int.le_refl _
  ·have := (List.pairwise_cons.1 hp).1 _ h; omega
section
variable {weeks joints reports : Nat} {s : Season} {ht dt fs : List Int} (T : SeasonT weeks joints reports s ht dt fs) (hw : weeks ≤ 6) (h3 : joints ≤ 3)
include T hw h3
end
end Go.Wx
namespace Go.Wx
open Go Go.HL
variable [Lvl]
structure Better (x s : Season) : Prop where
 js : x.joints = s.joints
 hl : x.heats.length = s.heats.length
 dl : x.damps.length = s.damps.length
 hs : ∀ (i : Nat) q r, x.heats[i]? = some q → s.heats[i]? = some r → r.mn ≤ q.mn ∧ q.mx ≤ r.mx
 ds : ∀ (i : Nat) q r, x.damps[i]? = some q → s.damps[i]? = some r → r.mn ≤ q.mn ∧ q.mx ≤ r.mx
 rs : ∀ r ∈ s.reports, r ∈ x.reports
section
variable {x s : Season} (B : Better x s) (cx : CheckS x) (cs : CheckS s)
include B cx cs
theorem Better.sky {n : Int} {y : Sky} (h : y ∈ allSkies x n) : y ∈ allSkies s n := by
 have l1 : (weatherM x n).length = s.heats.length := by
  unfold weatherM
  split
  ·exact B.hl
  ·rw [cx.dl]; exact B.hl
 have l2 : (weatherM s n).length = s.heats.length := by
  unfold weatherM
  split
  ·rfl
  ·exact cs.dl
 have h6 := cs.w6
 rw [mem_allSkies (by omega)] at h ⊢
 rw [l1] at h
 rw [l2]
 refine ⟨fun i r hr => ?_, h.2⟩
 have hi := (List.getElem?_eq_some_iff.1 hr).1
 have hq : (weatherM x n)[i]? = some ((weatherM x n)[i]'(by omega)) := List.getElem?_eq_getElem (by omega)
 have h1 := h.1 i _ hq
 have h2 : r.mn ≤ ((weatherM x n)[i]'(by omega)).mn ∧ ((weatherM x n)[i]'(by omega)).mx ≤ r.mx := by
  generalize hz : (weatherM x n)[i]'(by omega) = z at hq
  unfold weatherM at hr hq
  by_cases hn : n = 1
  ·rw [if_pos hn] at hr hq; exact B.hs i _ r hq hr
  ·rw [if_neg hn] at hr hq; exact B.ds i _ r hq hr
 omega
theorem Better.told {i w : Nat} (h : (toldW x i).testBit w = true) : (toldW s i).testBit w = true := by
 by_cases hw : w < 64
 ·rw [toldW_bit x cx.w6 (fun r hr => (checkSeen_iff.1 (cx.r r hr)).2.2.1) i w hw, Bool.and_eq_true, List.all_eq_true] at h
  rw [toldW_bit s cs.w6 (fun r hr => (checkSeen_iff.1 (cs.r r hr)).2.2.1) i w hw, Bool.and_eq_true, List.all_eq_true, ← B.hl]
  exact ⟨h.1, fun r hr => h.2 r (B.rs r hr)⟩
 ·have h2 : toldW x i < 2 ^ w := Nat.lt_of_lt_of_le (toldW_lt x cx.w6 i) (Nat.pow_le_pow_right (by omega) (by omega))
  rw [Nat.testBit_lt_two_pow h2] at h
  cases h
theorem Better.surv {n : Int} {y : Sky} {i : Nat} {z : Fl} (h : z ∈ Wx.surv x n y i) : z ∈ Wx.surv s n y i := by
 unfold Wx.surv at h ⊢
 rw [B.js] at h
 cases hj : s.joints[i]? with
 | none => rw [hj] at h; cases h
 | some j =>
  rw [hj] at h
  simp only at h ⊢
  split at h
  ·rename_i hk
   rw [if_pos hk]
   rw [List.mem_filter] at h ⊢
   rw [B.hl] at h
   exact ⟨h.1, B.told cx cs h.2⟩
  ·cases h
theorem Better.ok {n : Int} {y : Sky} (h : okM x n y = true) : okM s n y = true := by
 rw [okM_iff] at h ⊢
 intro i j hj hk e
 have h1 := h i j (by rw [B.js]; exact hj) hk
 cases hs : Wx.surv x n y i with
 | nil => exact h1 hs
 | cons z l =>
  have := B.surv cx cs (n := n) (y := y) (i := i) (z := z) (by rw [hs]; exact List.mem_cons_self ..)
  rw [e] at this
  cases this
theorem Better.kind (i : Nat) : kindAt x i = kindAt s i := by unfold kindAt; rw [B.js]
theorem Better.fate {n : Int} {y : Sky} {i w : Nat} (h : (fateM x n y i).testBit w = true) : (fateM s n y i).testBit w = true := by
 unfold fateM at h ⊢
 rw [maskM_bit] at h ⊢
 obtain ⟨z, hz, e⟩ := h
 exact ⟨z, B.surv cx cs hz, e⟩
theorem Better.fates {F' : Fate} (h : F' ∈ allFates x) : ∃ F, F ∈ allFates s ∧ ∀ i, i < 3 → ∀ w, (F'.at i).testBit w = true → (F.at i).testBit w = true := by
 obtain ⟨a, ha, b, hb, rfl⟩ := mem_allFates.1 h
 obtain ⟨u, hu⟩ := List.mem_map.1 ha
 obtain ⟨v, hv⟩ := List.mem_map.1 hb
 obtain ⟨hu1, rfl⟩ := hu
 obtain ⟨hv1, rfl⟩ := hv
 obtain ⟨u1, u2⟩ := mem_okAll.1 hu1
 obtain ⟨v1, v2⟩ := mem_okAll.1 hv1
 refine ⟨joinF (fateOf s 1 u) (fateOf s 2 v), mem_allFates.2 ⟨_, List.mem_map.2 ⟨u, mem_okAll.2 ⟨B.sky cx cs u1, B.ok cx cs u2⟩, rfl⟩, _, List.mem_map.2 ⟨v, mem_okAll.2 ⟨B.sky cx cs v1, B.ok cx cs v2⟩, rfl⟩, rfl⟩, fun i hi w hb => ?_⟩
 rw [joinF_at, Fate.of_at _ _ _ _ hi, Fate.of_at _ _ _ _ hi, Nat.testBit_or, Bool.or_eq_true] at hb ⊢
 exact hb.imp (B.fate cx cs) (B.fate cx cs)
end
theorem list_sub {m m' : Nat} (h : ∀ i, m'.testBit i = true → m.testBit i = true) {z : Int} (hz : z ∈ listM m') : z ∈ listM m := by
 obtain ⟨i, rfl, hi, hb⟩ := listN_mem hz
 exact mem_listN.2 ⟨i, rfl, hi, h i hb⟩
section
variable {x s : Season} (B : Better x s) (cx : CheckS x) (cs : CheckS s)
include B cx cs
theorem Better.first (hx : mayM x = true) {j : Nat} : ((allFates x).any (isF x j) = true → (allFates s).any (isF s j) = true) ∧ ((allFates x).any (noF x j) = true → (allFates s).any (noF s j) = true) := by
 have hjl : x.joints.length = s.joints.length := by rw [B.js]
 have j3 := cs.j3
 have SV := checkM_zero cx.ok
 have ends : ∀ (F' F : Fate), F' ∈ allFates x → (∀ i, i < 3 → ∀ w, (F'.at i).testBit w = true → (F.at i).testBit w = true) → ∀ n, n ≤ s.joints.length → latP x F' j n ≤ latP s F j n ∧ soonP s F j n ≤ soonP x F' j n := by
  intro F' F hF' hsub n
  induction n with
  | zero => intro _; rw [latP, latP, soonP, soonP, B.hl]; exact ⟨Int.le_refl _, Int.le_refl _⟩
  | succ n ih =>
   intro hn
   obtain ⟨h1, h2⟩ := ih (by omega)
   have hne : listM (F'.at n) ≠ [] := listM_ne (allFates_ne SV hF' (by omega)) ((allFates_b cx.w6 hF').at n)
   have hs := hsub n (by omega)
   have e1 : (listM (F'.at n)).getLastD 0 ∈ listM (F'.at n) := by rw [List.getLastD_eq_getLast?, List.getLast?_eq_some_getLast hne]; exact List.getLast_mem hne
   have e2 : (listM (F'.at n)).headD 0 ∈ listM (F'.at n) := by cases e : listM (F'.at n) with | nil => exact absurd e hne | cons a l => exact List.mem_cons_self ..
   have g1 := mem_le_last (list_sub hs e1)
   have g2 := head_le_mem (list_sub hs e2)
   rw [latP, latP, soonP, soonP]
   split
   ·exact ⟨h1, h2⟩
   ·omega
 constructor
 ·intro h
  obtain ⟨F', hF', h⟩ := List.any_eq_true.1 h
  obtain ⟨F, hF, hsub⟩ := B.fates cx cs hF'
  refine List.any_eq_true.2 ⟨F, hF, ?_⟩
  unfold isF at h ⊢
  obtain ⟨w, hw, h⟩ := List.any_eq_true.1 h
  by_cases hj : j < 3
  ·refine List.any_eq_true.2 ⟨w, list_sub (hsub j hj) hw, ?_⟩
   unfold isW at h ⊢
   rw [Bool.and_eq_true, decide_eq_true_eq, decide_eq_true_eq] at h ⊢
   have := (ends F' F hF' hsub s.joints.length (Nat.le_refl _)).1
   rw [hjl, B.hl] at h
   omega
  ·have h2 : F'.at j = F'.at 2 ∧ F.at j = F.at 2 := by
    match j, hj with
    | j + 3, _ => exact ⟨rfl, rfl⟩
    | 0, h => exact absurd (by omega) h
    | 1, h => exact absurd (by omega) h
    | 2, h => exact absurd (by omega) h
   rw [h2.1] at hw
   rw [h2.2]
   refine List.any_eq_true.2 ⟨w, list_sub (hsub 2 (by omega)) hw, ?_⟩
   unfold isW at h ⊢
   rw [Bool.and_eq_true, decide_eq_true_eq, decide_eq_true_eq] at h ⊢
   have := (ends F' F hF' hsub s.joints.length (Nat.le_refl _)).1
   rw [hjl, B.hl] at h
   omega
 ·intro h
  obtain ⟨F', hF', h⟩ := List.any_eq_true.1 h
  obtain ⟨F, hF, hsub⟩ := B.fates cx cs hF'
  refine List.any_eq_true.2 ⟨F, hF, ?_⟩
  unfold noF at h ⊢
  obtain ⟨w, hw, h⟩ := List.any_eq_true.1 h
  have hmem : w ∈ listM (F.at j) := by
   by_cases hj : j < 3
   ·exact list_sub (hsub j hj) hw
   ·have h2 : F'.at j = F'.at 2 ∧ F.at j = F.at 2 := by
     match j, hj with
     | j + 3, _ => exact ⟨rfl, rfl⟩
     | 0, h => exact absurd (by omega) h
     | 1, h => exact absurd (by omega) h
     | 2, h => exact absurd (by omega) h
    rw [h2.1] at hw
    rw [h2.2]
    exact list_sub (hsub 2 (by omega)) hw
  refine List.any_eq_true.2 ⟨w, hmem, ?_⟩
  unfold noW at h ⊢
  rw [Bool.or_eq_true, decide_eq_true_eq, decide_eq_true_eq] at h ⊢
  have := (ends F' F hF' hsub s.joints.length (Nat.le_refl _)).2
  rw [hjl, B.hl] at h
  omega
end
end Go.Wx
namespace Go.Wx
open Go Go.HL
variable [Lvl]
def NarrowL (ts : List Int) (rs qs : List Rg) : Prop := qs.length = rs.length ∧ ∀ (k : Nat) q r t, qs[k]? = some q → rs[k]? = some r → ts[k]? = some t → r.mn ≤ q.mn ∧ q.mn ≤ t ∧ t ≤ q.mx ∧ q.mx ≤ r.mx
theorem NarrowL.set {ts : List Int} {rs qs : List Rg} (n : NarrowL ts rs qs) {i : Nat} {r q : Rg} {t : Int} (hr : rs[i]? = some r) (ht : ts[i]? = some t) (h : r.mn ≤ q.mn ∧ q.mn ≤ t ∧ t ≤ q.mx ∧ q.mx ≤ r.mx) : NarrowL ts rs (qs.set i q) := by
 refine ⟨by rw [List.length_set]; exact n.1, fun k q' r' t' h1 h2 h3 => ?_⟩
 rw [List.getElem?_set] at h1
 by_cases hk : i = k
 ·subst hk
  rw [if_pos rfl] at h1
  split at h1
  ·cases h1
   rw [hr] at h2
   rw [ht] at h3
   cases h2
   cases h3
   exact h
  ·cases h1
 ·rw [if_neg hk] at h1
  exact n.2 k q' r' t' h1 h2 h3
end Go.Wx
namespace Go.Wx
open Go Go.HL
variable [Lvl]
theorem causes_bits (n week a b c : Nat) : (causesM n week a b c).testBit 0 = (decide (a = week) && decide (a < n)) ∧ (causesM n week a b c).testBit 1 = (decide (b = week) && decide (b < n)) ∧ (causesM n week a b c).testBit 2 = (decide (c = week) && decide (c < n)) := by
 unfold causesM causesP causesP causesP causesP bitIf
 simp only [sel3]
 generalize (decide (a = week) && decide (a < n)) = p
 generalize (decide (b = week) && decide (b < n)) = q
 generalize (decide (c = week) && decide (c < n)) = r
 cases p <;> cases q <;> cases r <;> decide
def b0W (x : List Int) (h : Int) (w : Nat) : Bool := decide (x.getD w 0 ≥ h)
def b1W (x : List Int) (c many : Int) (w : Nat) : Bool := decide (x.getD w 0 ≤ c) && decide ((coldN x c (w + 1) : Int) = many)
def b2W (life : Int) (w : Nat) : Bool := decide ((w : Int) = life)
theorem failW_eq (x : List Int) (h c many life : Int) (w : Nat) : failW x h c many life w = (b0W x h w || b1W x c many w || b2W life w) := by
 unfold failW b0W b1W b2W
 rw [Bool.or_assoc, Bool.or_assoc]
 congr 1
 rw [Bool.or_comm]
def flR (y : Fl) : List Value := [.int .i64 y.week, .bool (y.causes.testBit 0), .bool (y.causes.testBit 1), .bool (y.causes.testBit 2)]
section
variable {x : List Int} (h6 : x.length ≤ 6) {h c : Int} {many life : Nat} (hm : 1 ≤ many)
include h6 hm
theorem fail_first {w : Nat} (hw : w < x.length) (hf : failW x h c many life w = true) (hb : ∀ v, v < w → failW x h c many life v = false) :
  flR (failM (skyOf x) x.length h c many life) = [.int .i64 w, .bool (b0W x h w), .bool (b1W x c many w), .bool (b2W life w)] := by
 have hwk : weekM (skyOf x) x.length h c many life = w := by
  rw [← weekM_T x h6 h c many life hm]
  exact failT_eq (by omega) (fun _ => hf) hb
 obtain ⟨a1, a2, a3⟩ := when0_spec (skyOf x) x.length h h6
 obtain ⟨d1, d2, d3⟩ := when1_spec x h6 c many hm
 have hat : (skyOf x).at w = x.getD w 0 := skyOf_at x w (by omega)
 have hmin : weekM (skyOf x) x.length h c many life ≤ when0 (skyOf x) x.length h ∧ weekM (skyOf x) x.length h c many life ≤ when1 (skyOf x) x.length c many ∧ weekM (skyOf x) x.length h c many life ≤ life := by unfold weekM; omega
 rw [hwk] at hmin
 obtain ⟨e0, e1, e2⟩ := causes_bits x.length w (when0 (skyOf x) x.length h) (when1 (skyOf x) x.length c many) life
 unfold flR failM
 rw [hwk]
 dsimp only
 rw [e0, e1, e2]
 have k0 : (decide (when0 (skyOf x) x.length h = w) && decide (when0 (skyOf x) x.length h < x.length)) = b0W x h w := by
  unfold b0W
  rw [Bool.eq_iff_iff]
  simp only [Bool.and_eq_true, decide_eq_true_eq]
  constructor
  ·rintro ⟨e, hl⟩
   have := a2 hl
   rw [e, hat] at this
   exact this
  ·intro hge
   have := a3 w hw (by rw [hat]; exact hge)
   exact ⟨by omega, by omega⟩
 have k1 : (decide (when1 (skyOf x) x.length c many = w) && decide (when1 (skyOf x) x.length c many < x.length)) = b1W x c many w := by
  unfold b1W
  rw [Bool.eq_iff_iff]
  simp only [Bool.and_eq_true, decide_eq_true_eq]
  constructor
  ·rintro ⟨e, hl⟩
   have := d2 hl
   rw [e, hat] at this
   exact ⟨this.1, by exact_mod_cast this.2⟩
  ·rintro ⟨h1, h2⟩
   have := d3 w hw (by rw [hat]; exact h1) (by exact_mod_cast h2)
   exact ⟨this, by omega⟩
 have k2 : (decide (life = w) && decide (life < x.length)) = b2W life w := by
  unfold b2W
  rw [Bool.eq_iff_iff]
  simp only [Bool.and_eq_true, decide_eq_true_eq]
  constructor
  ·rintro ⟨e, _⟩; omega
  ·intro e; exact ⟨by omega, by omega⟩
 rw [k0, k1, k2]
theorem fail_none (hb : ∀ v, v < x.length → failW x h c many life v = false) :
  flR (failM (skyOf x) x.length h c many life) = [.int .i64 (x.length : Nat), .bool false, .bool false, .bool false] := by
 have hwk : weekM (skyOf x) x.length h c many life = x.length := by
  rw [← weekM_T x h6 h c many life hm]
  exact failT_eq (Nat.le_refl _) (fun h => absurd h (by omega)) hb
 obtain ⟨e0, e1, e2⟩ := causes_bits x.length x.length (when0 (skyOf x) x.length h) (when1 (skyOf x) x.length c many) life
 have key : ∀ a : Nat, (decide (a = x.length) && decide (a < x.length)) = false := by
  intro a
  rw [Bool.eq_false_iff]
  intro e
  simp only [Bool.and_eq_true, decide_eq_true_eq] at e
  omega
 unfold flR failM
 rw [hwk]
 dsimp only
 rw [e0, e1, e2, key, key, key]
end
end Go.Wx
namespace Go.Proofs.Ytgjcepdhclmglaa
open Go Go.HL Go.Proofs Go.Wx
variable [Lvl]
set_option maxRecDepth 100000
end Go.Proofs.Ytgjcepdhclmglaa
namespace Go.HL
open Go Go.Wx
variable [Lvl]
section
variable {P : Program} {n : Nat} {ops : Array Oper} {os : List Oper} {K : Sl → Pv → AH → Prop} {E : Value → Sl → Pv → AH → Prop} {S : Sl} {L : Pv} {h : AH} {d : Option Tmp} {ty : TypeId} {ps : String} {af : Array Edge}
end
end Go.HL
namespace Go.HL
open Go Go.Wx Go.Rd
set_option linter.all false
theorem cells_front {h : AH} {b : Nat} {cs junk : List Value} {e : TypeId} {f : Nat × Nat} (hb : h b = some (.cells (cs ++ junk).toArray e f)) : Cells h b 0 cs := by
 intro j u hu
 have hj := (List.getElem?_eq_some_iff.1 hu).1
 simp [cellA, hb, List.getElem?_append_left hj, hu]
theorem rd_front {h : AH} {b : Nat} {cs junk : List Value} {e : TypeId} {f : Nat × Nat} (hb : h b = some (.cells (cs ++ junk).toArray e f)) : Rd h (some ⟨b, 0, none⟩) cs := fun _ => ⟨b, 0, rfl, cells_front hb⟩
theorem row_blk {α : Type} {enc : α → List Value} {m : Nat} {l : List α} (hl : ∀ x ∈ l, (enc x).length = m) {h : AH} {b : Nat} {t : TypeId} (hb : h b = some (.cells (l.flatMap enc).toArray t (0, 0))) : Row h m enc (some ⟨b, 0, none⟩) l :=
 ⟨hl, rd_front (junk := []) (by rw [List.append_nil]; exact hb)⟩
variable [Lvl]
variable [Lvl]
section
variable {P : Program} {n : Nat} {ops : Array Oper} {os : List Oper} {K : Sl → Pv → AH → Prop} {E : Value → Sl → Pv → AH → Prop} {S : Sl} {L : Pv} {h : AH} {d : Option Tmp} {ty : TypeId} {ps : String} {af : Array Edge}
end
section
variable {P : Program} {n : Nat} {ops : Array Oper} {os : List Oper} {K : Sl → Pv → AH → Prop} {E : Value → Sl → Pv → AH → Prop} {S : Sl} {L : Pv} {h : AH} {d : Option Tmp} {ty : TypeId} {ps : String} {af : Array Edge}
end
section
variable {P : Program} {n : Nat} {d : Option Tmp} {ty : TypeId} {ps : String} {af : Array Edge} {S : Sl}
end
end Go.HL
