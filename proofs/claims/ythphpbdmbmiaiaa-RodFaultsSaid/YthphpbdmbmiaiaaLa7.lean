/- An own logic over the model, its walks and its plain laws, joined of parts Ud GU R56 R58 R59 R43 R44 R45 R46 R47 R60 R61. Conditions: as each theorem states. -/
import Derived.Test.YthphpbdmbmiaiaaLa5
import Derived.Test.YthphpbdmbmiaiaaLa3
import Derived.Test.YthphpbdmbmiaiaaRows
import Derived.Deep.Slices
import Derived.ProofKit
import Derived.Test.YthphpbdmbmiaiaaLa1
import Derived.Test.YthphpbdmbmiaiaaLa6
set_option linter.all false
/- The own logic, part Ud: machines, hands, links, events and what was heard, read out of a row's arguments. Conditions: none. -/
namespace Go.HL
open Go Go.Wx Go.RowKit Go.ChangeShapes Go.WideShapes
variable [Lvl]
section
variable {H : Type} {enc : TypeId × Value → H} {P : Program} {w : World} {base : Nat} {spare : Nat → Bool} {held : Bool}
theorem row_sliceC {α : Type} (en : α → List Value) {t e : TypeId} {m fuel : Nat} {cs : List Value} {x : DataW H × List MemPlace} (ht : P.underlying t = some (.slice e)) (hc : P.cellsOf e = m) (hm : 0 < m) (he : ∀ a, (en a).length = m)
  (leaf : ∀ n cs x, DataW.trod enc P w base spare held n e cs = some x → ∃ a, cs = en a) (h : DataW.trod enc P w base spare held fuel t cs = some x) :
  ∃ (A : Option Addr) (len cap : Nat) (l : List α), cs = [.slice A len cap] ∧ l.length = len ∧ Row (absH w.heap) m en A l ∧ len ≤ cap ∧ cap ≤ maxLen := by
 rcases Go.Deep.open_slice ht h with ⟨rfl, _⟩ | ⟨a, len, cap, mm, n, D, Pl, rfl, hb, hl, hmx, hmm, _, hel⟩
 ·exact ⟨none, 0, 0, [], rfl, rfl, ⟨fun _ h => (by cases h), Rd.nil _ _⟩, Nat.le_refl _, Nat.zero_le _⟩
 ·have hlm : len ≤ mm := by rw [hmm]; split <;> omega
  have key : ∀ i : _root_.Fin len, ∃ v : α, w.cells? base (a.add (i.val * m)) m = some (en v) := by
   intro i
   obtain ⟨cs', h1, h2⟩ := hel i.val (by have := i.isLt; omega)
   obtain ⟨v, rfl⟩ := leaf _ _ _ h2
   rw [hc] at h1
   exact ⟨v, h1⟩
  let l := List.ofFn fun i : _root_.Fin len => Classical.choose (key i)
  have hll : l.length = len := by simp [l]
  have hat : ∀ (i : Nat) (hi : i < l.length), w.cells? base (a.add (i * m)) m = some (en l[i]) := by
   intro i hi
   have := Classical.choose_spec (key ⟨i, by omega⟩)
   simpa [l] using this
  refine ⟨some a, len, cap, l, rfl, hll, ⟨fun x _ => he x, fun hne => ?_⟩, hl, hmx⟩
  have hpos : 0 < l.length := by
   rcases Nat.eq_zero_or_pos l.length with h0 | h0
   ·rw [List.eq_nil_of_length_eq_zero h0] at hne; simp at hne
   ·exact h0
  obtain ⟨g, off, sp⟩ := a
  have h0 := hat 0 hpos
  obtain ⟨_, _, hcell⟩ := World.cells?_some h0
  have h00 := hcell 0 hm
  rw [Go.Deep.add_add, Nat.zero_mul, Nat.add_zero, List.getElem?_eq_getElem (by rw [he]; exact hm)] at h00
  have hsp : sp = none := by
   cases sp with
   | none => rfl
   | some s =>
    exfalso
    have : w.cell? ((⟨g, off, some s⟩ : Addr).add 0) = none := by
     simp only [Addr.add]
     rw [cell_abs]
     unfold cellA
     split <;> simp
    rw [this] at h00
    cases h00
  subst hsp
  refine ⟨g, off, rfl, fun j u hu => ?_⟩
  have hj : j < l.length * m := by
   have := (List.getElem?_eq_some_iff.1 hu).1
   rwa [flat_len (fun x _ => he x)] at this
  have hi : j / m < l.length := Nat.div_lt_of_lt_mul (by rw [Nat.mul_comm]; exact hj)
  have hr : j % m < m := Nat.mod_lt _ hm
  have hjm : j / m * m + j % m = j := by rw [Nat.mul_comm]; exact Nat.div_add_mod j m
  obtain ⟨_, _, hcl⟩ := World.cells?_some (hat (j / m) hi)
  have h1 := hcl (j % m) hr
  have h2 : (en l[j / m])[j % m]? = some ((en l[j / m])[j % m]'(by rw [he]; exact hr)) := List.getElem?_eq_getElem _
  have h3 := flat_get en m l (fun x _ => he x) (j / m) _ (List.getElem?_eq_getElem hi) (j % m) _ h2
  rw [hjm, hu] at h3
  rw [h2, ← h3, Go.Deep.add_add, hjm, cell_abs, add_none] at h1
  exact h1
end
end Go.HL
namespace Go.Rd
structure EvP where
 kind : Int
 which : Int
end Go.Rd
namespace Go.Proofs.Ythphpbdmbmiaiaa
open Go Go.HL Go.Wx Go.Rd Go.RowKit Go.ChangeShapes Go.WideShapes
variable [Lvl]
set_option maxRecDepth 100000
theorem cellsT_int : Try.prog.cellsOf 3 = 1 := by kernel_rfl
theorem cellsT_ints : Try.prog.cellsOf 22 = 1 := by kernel_rfl
theorem cellsT_pins : Try.prog.cellsOf 25 = 1 := by kernel_rfl
theorem cellsT_links : Try.prog.cellsOf 26 = 1 := by kernel_rfl
theorem cellsT_pin : Try.prog.cellsOf 36 = 3 := by kernel_rfl
theorem cellsT_link : Try.prog.cellsOf 39 = 4 := by kernel_rfl
theorem cellsT_mach : Try.prog.cellsOf 28 = 9 := by kernel_rfl
theorem cellsT_hand : Try.prog.cellsOf 31 = 2 := by kernel_rfl
section
variable {H : Type} {enc : TypeId × Value → H} {w : World} {base : Nat} {spare : Nat → Bool} {held : Bool}
theorem ud_at {α : Type} {xs : List α} {n i : Nat} (h : xs.length = n) (hi : i < n) : ∃ y, xs[i]? = some y := ⟨_, List.getElem?_eq_getElem (by omega)⟩
theorem leaf_int {n : Nat} {cs : List Value} {x : DataW H × List MemPlace} (h : DataW.trod enc Try.prog w base spare held n 3 cs = some x) : ∃ z : Int, cs = [.int .i64 z] := by
 obtain ⟨z, e, _⟩ := DataW.trod_int Try.underlying3 h
 exact ⟨z, e⟩
theorem leaf_pin {n : Nat} {cs : List Value} {x : DataW H × List MemPlace} (h : DataW.trod enc Try.prog w base spare held n 36 cs = some x) : ∃ p : PinP, cs = pinC p := by
 obtain ⟨xs, m, _, _, hl, hx, hf⟩ := DataW.trod_struct Try.underlying36 h
 rw [cellsT_pin] at hl
 obtain ⟨y0, e0⟩ := ud_at (i := 0) hx (by decide)
 obtain ⟨a0, h0⟩ := leaf_int ((show DataW.trod enc Try.prog w base spare held m 3 ((cs.drop 0).take (Try.prog.cellsOf 3)) = xs[0]? from hf 0 _ rfl).trans e0)
 obtain ⟨y1, e1⟩ := ud_at (i := 1) hx (by decide)
 obtain ⟨a1, h1⟩ := leaf_int ((show DataW.trod enc Try.prog w base spare held m 3 ((cs.drop 1).take (Try.prog.cellsOf 3)) = xs[1]? from hf 1 _ rfl).trans e1)
 obtain ⟨y2, e2⟩ := ud_at (i := 2) hx (by decide)
 obtain ⟨a2, h2⟩ := leaf_int ((show DataW.trod enc Try.prog w base spare held m 3 ((cs.drop 2).take (Try.prog.cellsOf 3)) = xs[2]? from hf 2 _ rfl).trans e2)
 rw [cellsT_int] at h0 h1 h2
 match cs, hl with
 | [u0, u1, u2], _ =>
  simp at h0 h1 h2
  exact ⟨⟨a0, a1, a2⟩, by rw [h0, h1, h2]; rfl⟩
theorem leaf_link {n : Nat} {cs : List Value} {x : DataW H × List MemPlace} (h : DataW.trod enc Try.prog w base spare held n 39 cs = some x) : ∃ p : LinkP, cs = linkC p := by
 obtain ⟨xs, m, _, _, hl, hx, hf⟩ := DataW.trod_struct Try.underlying39 h
 rw [cellsT_link] at hl
 obtain ⟨y0, e0⟩ := ud_at (i := 0) hx (by decide)
 obtain ⟨a0, h0⟩ := leaf_int ((show DataW.trod enc Try.prog w base spare held m 3 ((cs.drop 0).take (Try.prog.cellsOf 3)) = xs[0]? from hf 0 _ rfl).trans e0)
 obtain ⟨y1, e1⟩ := ud_at (i := 1) hx (by decide)
 obtain ⟨a1, h1⟩ := leaf_int ((show DataW.trod enc Try.prog w base spare held m 3 ((cs.drop 1).take (Try.prog.cellsOf 3)) = xs[1]? from hf 1 _ rfl).trans e1)
 obtain ⟨y2, e2⟩ := ud_at (i := 2) hx (by decide)
 obtain ⟨a2, h2⟩ := leaf_int ((show DataW.trod enc Try.prog w base spare held m 3 ((cs.drop 2).take (Try.prog.cellsOf 3)) = xs[2]? from hf 2 _ rfl).trans e2)
 obtain ⟨y3, e3⟩ := ud_at (i := 3) hx (by decide)
 obtain ⟨a3, h3⟩ := leaf_int ((show DataW.trod enc Try.prog w base spare held m 3 ((cs.drop 3).take (Try.prog.cellsOf 3)) = xs[3]? from hf 3 _ rfl).trans e3)
 rw [cellsT_int] at h0 h1 h2 h3
 match cs, hl with
 | [u0, u1, u2, u3], _ =>
  simp at h0 h1 h2 h3
  exact ⟨⟨a0, a1, a2, a3⟩, by rw [h0, h1, h2, h3]; rfl⟩
/-- A hand's cells. -/
theorem leaf_hand {n : Nat} {cs : List Value} {x : DataW H × List MemPlace} (h : DataW.trod enc Try.prog w base spare held n 31 cs = some x) : ∃ (a : HandP) (HA OA : Option Addr) (cH cO : Nat), cs = [.slice HA a.buttons.length cH, .slice OA a.on.length cO] ∧ HandR (absH w.heap) HA OA a := by
 obtain ⟨xs, m, _, _, hl, hx, hf⟩ := DataW.trod_struct Try.underlying31 h
 rw [cellsT_hand] at hl
 obtain ⟨y0, e0⟩ := ud_at (i := 0) hx (by decide)
 obtain ⟨y1, e1⟩ := ud_at (i := 1) hx (by decide)
 obtain ⟨A0, n0, c0, l0, h0, k0, R0, hc0, _⟩ := row_sliceC intC Try.underlying22 cellsT_int (by omega) (fun _ => rfl) (fun _ _ _ => leaf_int) ((show DataW.trod enc Try.prog w base spare held m 22 ((cs.drop 0).take (Try.prog.cellsOf 22)) = xs[0]? from hf 0 _ rfl).trans e0)
 obtain ⟨A1, n1, c1, l1, h1, k1, R1, hc1, _⟩ := row_sliceC intC Try.underlying22 cellsT_int (by omega) (fun _ => rfl) (fun _ _ _ => leaf_int) ((show DataW.trod enc Try.prog w base spare held m 22 ((cs.drop 1).take (Try.prog.cellsOf 22)) = xs[1]? from hf 1 _ rfl).trans e1)
 rw [cellsT_ints] at h0 h1
 match cs, hl with
 | [u0, u1], _ =>
  simp at h0 h1
  exact ⟨⟨l0, l1⟩, A0, A1, c0, c1, by rw [h0, h1, ← k0, ← k1], ⟨R0, R1⟩⟩
/-- A hand that came in. -/
theorem hand_in {r : Reach} {b0 : Nat} {v : Value} {d : DataW H} {p : List MemPlace} (hv : Value.okWide Try.prog w r b0 31 v) (h : DataW.Trod enc Try.prog w base spare held 31 v d p) :
  ∃ (a : HandP) (HA OA : Option Addr) (cH cO : Nat), v = handV HA OA cH cO a ∧ HandR (absH w.heap) HA OA a := by
 obtain ⟨cs, rfl, hs⟩ := okWide_struct Try.underlying31 hv
 obtain ⟨fuel, hf0⟩ := h
 have hcs : (Value.agg cs).cells.toList = cs.toList := rfl
 rw [hcs] at hf0
 obtain ⟨a, HA, OA, cH, cO, e, R⟩ := leaf_hand hf0
 exact ⟨a, HA, OA, cH, cO, by rw [handV, ← e], R⟩
/-- A machine that came in. -/
theorem mach_in {r : Reach} {b0 : Nat} {v : Value} {d : DataW H} {p : List MemPlace} (hv : Value.okWide Try.prog w r b0 28 v) (h : DataW.Trod enc Try.prog w base spare held 28 v d p) :
  ∃ (m : MachP) (AB AQ AL AW : Option Addr) (cB cQ cL cW : Nat), v = machV AB AQ AL AW cB cQ cL cW m ∧ MachR (absH w.heap) AB AQ AL AW m ∧ m.pins.length ≤ cQ ∧ m.links.length ≤ cL := by
 obtain ⟨⟨cs⟩, rfl, hs⟩ := okWide_struct Try.underlying28 hv
 obtain ⟨fuel, hf0⟩ := h
 have hcs : (Value.agg ⟨cs⟩).cells.toList = cs := rfl
 rw [hcs] at hf0
 obtain ⟨xs, m, _, _, hl, hx, hf⟩ := DataW.trod_struct Try.underlying28 hf0
 rw [cellsT_mach] at hl
 obtain ⟨y0, e0⟩ := ud_at (i := 0) hx (by decide)
 obtain ⟨y1, e1⟩ := ud_at (i := 1) hx (by decide)
 obtain ⟨y2, e2⟩ := ud_at (i := 2) hx (by decide)
 obtain ⟨y3, e3⟩ := ud_at (i := 3) hx (by decide)
 obtain ⟨y4, e4⟩ := ud_at (i := 4) hx (by decide)
 obtain ⟨y5, e5⟩ := ud_at (i := 5) hx (by decide)
 obtain ⟨y6, e6⟩ := ud_at (i := 6) hx (by decide)
 obtain ⟨y7, e7⟩ := ud_at (i := 7) hx (by decide)
 obtain ⟨y8, e8⟩ := ud_at (i := 8) hx (by decide)
 obtain ⟨a0, h0⟩ := leaf_int ((show DataW.trod enc Try.prog w base spare held m 3 ((cs.drop 0).take (Try.prog.cellsOf 3)) = xs[0]? from hf 0 _ rfl).trans e0)
 obtain ⟨a1, h1⟩ := leaf_int ((show DataW.trod enc Try.prog w base spare held m 3 ((cs.drop 1).take (Try.prog.cellsOf 3)) = xs[1]? from hf 1 _ rfl).trans e1)
 obtain ⟨a2, h2⟩ := leaf_int ((show DataW.trod enc Try.prog w base spare held m 3 ((cs.drop 2).take (Try.prog.cellsOf 3)) = xs[2]? from hf 2 _ rfl).trans e2)
 obtain ⟨a3, h3⟩ := leaf_int ((show DataW.trod enc Try.prog w base spare held m 3 ((cs.drop 3).take (Try.prog.cellsOf 3)) = xs[3]? from hf 3 _ rfl).trans e3)
 obtain ⟨a4, h4⟩ := leaf_int ((show DataW.trod enc Try.prog w base spare held m 3 ((cs.drop 4).take (Try.prog.cellsOf 3)) = xs[4]? from hf 4 _ rfl).trans e4)
 obtain ⟨A5, n5, c5, l5, h5, k5, R5, hc5, _⟩ := row_sliceC intC Try.underlying22 cellsT_int (by omega) (fun _ => rfl) (fun _ _ _ => leaf_int) ((show DataW.trod enc Try.prog w base spare held m 22 ((cs.drop 5).take (Try.prog.cellsOf 22)) = xs[5]? from hf 5 _ rfl).trans e5)
 obtain ⟨A6, n6, c6, l6, h6, k6, R6, hc6, _⟩ := row_sliceC pinC Try.underlying25 cellsT_pin (by omega) (fun _ => rfl) (fun _ _ _ => leaf_pin) ((show DataW.trod enc Try.prog w base spare held m 25 ((cs.drop 6).take (Try.prog.cellsOf 25)) = xs[6]? from hf 6 _ rfl).trans e6)
 obtain ⟨A7, n7, c7, l7, h7, k7, R7, hc7, _⟩ := row_sliceC linkC Try.underlying26 cellsT_link (by omega) (fun _ => rfl) (fun _ _ _ => leaf_link) ((show DataW.trod enc Try.prog w base spare held m 26 ((cs.drop 7).take (Try.prog.cellsOf 26)) = xs[7]? from hf 7 _ rfl).trans e7)
 obtain ⟨A8, n8, c8, l8, h8, k8, R8, hc8, _⟩ := row_sliceC intC Try.underlying22 cellsT_int (by omega) (fun _ => rfl) (fun _ _ _ => leaf_int) ((show DataW.trod enc Try.prog w base spare held m 22 ((cs.drop 8).take (Try.prog.cellsOf 22)) = xs[8]? from hf 8 _ rfl).trans e8)
 rw [cellsT_int] at h0 h1 h2 h3 h4
 rw [cellsT_ints] at h5 h8
 rw [cellsT_pins] at h6
 rw [cellsT_links] at h7
 match cs, hl with
 | [u0, u1, u2, u3, u4, u5, u6, u7, u8], _ =>
  simp at h0 h1 h2 h3 h4 h5 h6 h7 h8
  refine ⟨⟨a0, a1, a2, a3, a4, l5, l6, l7, l8⟩, A5, A6, A7, A8, c5, c6, c7, c8, ?_, ⟨R5, R6, R7, R8⟩, by show l6.length ≤ c6; omega, by show l7.length ≤ c7; omega⟩
  rw [h0, h1, h2, h3, h4, h5, h6, h7, h8, ← k5, ← k6, ← k7, ← k8]
theorem ints_in {r : Reach} {b0 : Nat} {v : Value} {d : DataW H} {p : List MemPlace} (hv : Value.okWide Try.prog w r b0 22 v) (h : DataW.Trod enc Try.prog w base spare held 22 v d p) :
  ∃ (l : List Int) (A : Option Addr) (c : Nat), v = .slice A l.length c ∧ Row (absH w.heap) 1 intC A l ∧ l.length ≤ maxLen := by
 obtain ⟨a0, len0, cap0, rfl⟩ := okWide_slice Try.underlying22 hv
 obtain ⟨fuel, hf⟩ := h
 obtain ⟨A, n, c, l, e, k, R, h1, h2⟩ := row_sliceC intC Try.underlying22 cellsT_int (by omega) (fun _ => rfl) (fun _ _ _ => leaf_int) hf
 have hcs : (Value.slice a0 len0 cap0).cells.toList = [.slice a0 len0 cap0] := rfl
 rw [hcs] at e
 simp at e
 obtain ⟨rfl, rfl, rfl⟩ := e
 subst k
 exact ⟨l, _, _, rfl, R, Nat.le_trans h1 h2⟩
end
end Go.Proofs.Ythphpbdmbmiaiaa
/- The own logic, part GU: slice literals of things of many cells. Conditions: none. -/
namespace Go.HL
open Go
variable [Lvl]
theorem wrL_mid : ∀ (c pre j : List Value), c.length ≤ j.length → wrL (pre ++ j) pre.length c = pre ++ c ++ j.drop c.length
 | [], pre, j, _ => by simp [wrL]
 | v :: c, pre, [], h => absurd h (by simp)
 | v :: c, pre, x :: j, h => by
  have e : (pre ++ x :: j).set pre.length v = (pre ++ [v]) ++ j := by simp
  have ih := wrL_mid c (pre ++ [v]) j (by simpa using h)
  rw [List.length_append, List.length_singleton] at ih
  rw [wrL, e, ih]
  simp
/-- What is put where, in a row of things. -/
def rowP : Nat → List (List Value) → List (Nat × Value)
 | _, [] => []
 | k, c :: els => (k, .agg c.toArray) :: rowP (k + 1) els
theorem fill_row {m : Nat} : ∀ (els : List (List Value)) (k : Nat) (pre j : List Value), (∀ c ∈ els, c.length = m) → pre.length = k * m → j.length = els.length * m → fillL (fun i => some (i * m, m)) (pre ++ j) (rowP k els) = some (pre ++ els.flatMap id)
 | [], k, pre, j, _, _, hj => by
  have : j = [] := List.length_eq_zero_iff.1 (by simpa using hj)
  subst this
  rfl
 | c :: els, k, pre, j, hm, hp, hj => by
  have hc := hm c (List.mem_cons_self ..)
  have hj' : j.length = els.length * m + m := by rw [hj, List.length_cons, Nat.add_mul, Nat.one_mul]
  have e1 : ((Value.agg c.toArray).cells.size == m && Nat.ble (k * m + m) (pre ++ j).length) = true := by
   rw [Bool.and_eq_true]
   refine ⟨by show (c.toArray.size == m) = true; simp [hc], Nat.ble_eq_true_of_le ?_⟩
   rw [List.length_append]
   omega
  have e2 : wrL (pre ++ j) (k * m) (Value.agg c.toArray).cells.toList = (pre ++ c) ++ j.drop m := by
   rw [← hp, show (Value.agg c.toArray).cells.toList = c from rfl, wrL_mid c pre j (by omega), hc]
  rw [rowP, fillL]
  simp only
  rw [if_pos e1, e2]
  rw [fill_row els (k + 1) (pre ++ c) (j.drop m) (fun x hx => hm x (List.mem_cons_of_mem _ hx)) (by rw [List.length_append, hp, hc, Nat.add_mul, Nat.one_mul]) (by rw [List.length_drop, hj']; omega)]
  simp
variable {P : Program} {n : Nat} {ops : Array Oper} {os : List Oper} {K : Sl → Pv → AH → Prop} {E : Value → Sl → Pv → AH → Prop} {S : Sl} {L : Pv} {h : AH} {d : Option Tmp} {ty : TypeId} {ps : String} {af : Array Edge}
/-- A slice literal of things of m cells. -/
theorem op_buildSliceR (els : List (List Value)) {t e : TypeId} {m len : Nat} {z : Value} {zc : List Value} {pts : List (Nat × Operand)} (ht : pev P (underlying t) = some (.slice e)) (hs : pev P (sizeOf e) = some m)
  (hz : pev P (zeroValue e) = some z) (hzc : z.cells = zc.toArray) (hl : Nat.ble (len * m) 16777216 = true) (hn : els.length = len) (hm : els.all (fun c => c.length == m) = true) (hv : pts.map (fun q => (q.1, ev n S q.2)) = rowP 0 els)
  (k : ∀ b, wl h L b = none → wpL P n ops os K E (put S d (.slice (some ⟨b, 0, none⟩) len len)) (L ++ [some (b, .cells (els.flatMap id).toArray e (0, 0))]) h) : wpL P n ops (⟨d, .buildSlice t len pts.toArray, ty, ps, af, none⟩ :: os) K E S L h := by
 refine op_buildSlice ht hs hz hzc hl hv ?_ k
 have := fill_row (m := m) els 0 [] ((List.range (len * m)).map fun i => zc[i % zc.length]!) (fun c hc => by have := List.all_eq_true.1 hm c hc; simpa using this) (by simp) (by simp [hn])
 simpa using this
end Go.HL
/- Walks: RodSounds. Conditions: as each theorem states. -/
namespace Go.Proofs.Ythphpbdmbmiaiaa
open Go Go.HL Go.Proofs Go.Wx Go.Rd
section
variable [Lvl]
set_option maxRecDepth 100000
theorem th_of {h : AH} {a : HandP} {HA OA : Option Addr} {cH cO : Nat} (R : HandR h HA OA a) : TH h a [.slice HA a.buttons.length cH, .slice OA a.on.length cO] := ⟨_, _, rfl, ⟨HA, cH, rfl, R.b⟩, ⟨OA, cO, rfl, R.o⟩⟩
theorem sameHandsS_ok (a : HandP) (HA OA HB OB : Option Addr) (cA oA cB oB : Nat) (h : AH) (Ra : HandR h HA OA a) (Rb : HandR h HB OB a) (h1 : a.buttons.length < 2 ^ 40) (h2 : a.on.length < 2 ^ 40) :
  FnT Try.prog 42 #[handV HA OA cA oA a, handV HB OB cB oB a] h (fun v _ => v = .bool true) :=
 (sameHands_ok a a HA OA HB OB cA oA cB oB h Ra Rb h1 h2).mono (fun v _ e => ⟨e.1, e.2.trans (boolE (by simp))⟩) fun _ _ e => e
theorem AccR.room {e : TypeId} {m : Nat} {cs : List Value} {a : Acc} (r : AccR e m cs a) (hm : 0 < m) : a.n ≤ a.c := by
 rcases r with ⟨_, _, A, ev⟩ | ⟨b, len, cap, junk, hl, ev, _, hc⟩
 ·injection ev with _ h1 h2; omega
 ·injection ev with _ h1 h2
  rw [List.length_append, hl] at hc
  have : len * m ≤ cap * m := by omega
  have := Nat.le_of_mul_le_mul_right this hm
  omega
theorem Made.sml {s p l : Int} {m : MachP} (M : Made s p l m) : Sml m := by
 have h1 := M.ok.bl
 have h2 := M.ok.pl
 have h3 := M.ok.ll
 have h4 := M.ok.wl
 have h5 := M.ok.levers
 exact ⟨by omega, by omega, by omega, by omega⟩
theorem HOK.sml {m : MachP} {a : HandP} (M : MOK m) (H : HOK m a) : SmlH a := by
 have F := fit_of M H
 have h1 := F.hl
 have h2 := F.ol
 exact ⟨by omega, by omega⟩
end
end Go.Proofs.Ythphpbdmbmiaiaa
/- Walks of the reference: Depth, Chart, Chord of any machine. Conditions: as each theorem states. -/
namespace Go.Proofs.Ythphpbdmbmiaiaa
open Go Go.HL Go.Proofs Go.Wx Go.Rd
section
variable [Lvl]
set_option maxRecDepth 100000
end
end Go.Proofs.Ythphpbdmbmiaiaa
/- Walks: RodCharts. Conditions: as each theorem states. -/
namespace Go.Proofs.Ythphpbdmbmiaiaa
open Go Go.HL Go.Proofs Go.Wx Go.Rd
section
variable [Lvl]
set_option maxRecDepth 100000
theorem all3 {α : Type} {p : α → Prop} {a b c : α} (ha : p a) (hb : p b) (hc : p c) : ∀ x ∈ [a, b, c], p x := fun x hx => by
 simp only [List.mem_cons, List.not_mem_nil, or_false] at hx
 rcases hx with rfl | rfl | rfl <;> assumption
theorem els3 {α : Type} {h : AH} {T : AH → α → List Value → Prop} {a b c : α} {ca cb cc : List Value} (ha : T h a ca) (hb : T h b cb) (hc : T h c cc) : Els h T [a, b, c] [ca, cb, cc] :=
 ((Els.nil h T).snoc ha).snoc hb |>.snoc hc
theorem tl_of {h : AH} {l : List Int} {A : Option Addr} {c : Nat} (R : Row h 1 intC A l) : TL h l [.slice A l.length c] := ⟨_, rfl, A, c, rfl, R⟩
end
end Go.Proofs.Ythphpbdmbmiaiaa
/- Walks: after the hand of Test as few are left as it says, and no hand is better. Conditions: as each theorem states. -/
namespace Go.Proofs.Ythphpbdmbmiaiaa
open Go Go.HL Go.Proofs Go.Wx Go.Rd
section
variable [Lvl]
set_option maxRecDepth 100000
end
end Go.Proofs.Ythphpbdmbmiaiaa
/- Walks: a set of at most two faults. Conditions: as each theorem states. -/
namespace Go.Proofs.Ythphpbdmbmiaiaa
open Go Go.HL Go.Proofs Go.Wx Go.Rd
section
variable [Lvl]
set_option maxRecDepth 100000
end
end Go.Proofs.Ythphpbdmbmiaiaa
/- Walks of package rod: Useless. Conditions: as each theorem states. -/
namespace Go.Proofs.Ythphpbdmbmiaiaa
open Go Go.HL Go.Proofs Go.Wx Go.Rd
section
variable [Lvl]
set_option maxRecDepth 100000
def alikeB (m : MachP) (i : Nat) (a : HandP) : Bool := decide (soundsB m [.pin i] a = soundsB m [] a)
def uselessB (m : MachP) (i : Nat) : Bool := (handsM m).all (alikeB m i)
def uselessN (m : MachP) (k : Nat) : List Int := ((List.range k).filter (uselessB m)).map fun i : Nat => (i : Int)
theorem uselessN_succ (m : MachP) (k : Nat) : uselessN m (k + 1) = uselessN m k ++ if uselessB m k then [(k : Int)] else [] := by
 unfold uselessN
 rw [List.range_succ, List.filter_append, List.map_append]
 congr 1
 by_cases h : uselessB m k = true
 ·simp [h]
 ·simp [h]
theorem uselessN_len (m : MachP) : ∀ k, (uselessN m k).length ≤ k
 | 0 => Nat.le_refl _
 | k + 1 => by
  have := uselessN_len m k
  rw [uselessN_succ, List.length_append]
  split <;> simp <;> omega
def uselessL (m : MachP) : List Int := if chkM m = 0 then uselessN m m.pins.length else []
def UseI (m : MachP) (q : Nat) (p1 p5 p8 : Nat × Obj) (pa : Option (Nat × Obj)) (l : Nat) (r : Loop) (h0 : AH) (k : Nat) (h : AH) (M : Pv) : Prop :=
 Ext h0 h ∧ (∀ i x, i < k → (handsM m)[i]? = some x → alikeB m q x = true) ∧ M = [some p1, some p5, pa, none, some p8, some (l, obL r .ready none)]
def UseF (m : MachP) (q : Nat) (p1 p5 p8 : Nat × Obj) (pa : Option (Nat × Obj)) (l : Nat) (r : Loop) (h0 : AH) (h : AH) (M : Pv) : Prop :=
 Ext h0 h ∧ uselessB m q = false ∧ M = [some p1, some p5, pa, none, some p8, some (l, obL r .done (some (.exit 1)))]
theorem UseI.ext {m : MachP} {q : Nat} {p1 p5 p8 : Nat × Obj} {pa : Option (Nat × Obj)} {l : Nat} {r : Loop} {h0 h h' : AH} {k : Nat} {M : Pv} (I : UseI m q p1 p5 p8 pa l r h0 k h M) (E : Ext h h') : UseI m q p1 p5 p8 pa l r h0 k h' M := ⟨I.1.trans E, I.2⟩
theorem UseF.ext {m : MachP} {q : Nat} {p1 p5 p8 : Nat × Obj} {pa : Option (Nat × Obj)} {l : Nat} {r : Loop} {h0 h h' : AH} {M : Pv} (I : UseF m q p1 p5 p8 pa l r h0 h M) (E : Ext h h') : UseF m q p1 p5 p8 pa l r h0 h' M := ⟨I.1.trans E, I.2⟩
theorem useless_no {m : MachP} {q k : Nat} {x : HandP} (h : (handsM m)[k]? = some x) (hx : alikeB m q x = false) : uselessB m q = false := by
 unfold uselessB
 rw [List.all_eq_false]
 exact ⟨x, List.mem_of_getElem? h, by rw [hx]; decide⟩
theorem useless_yes {m : MachP} {q : Nat} (h : ∀ i x, i < (handsM m).length → (handsM m)[i]? = some x → alikeB m q x = true) : uselessB m q = true := by
 unfold uselessB
 rw [List.all_eq_true]
 intro x hx
 obtain ⟨i, hi, rfl⟩ := List.getElem_of_mem hx
 exact h i _ hi (List.getElem?_eq_getElem hi)
set_option maxHeartbeats 4000000 in
theorem Useless_ok (hph : Lvl.ph = true) (m : MachP) (AB AQ AL AW : Option Addr) (cB cQ cL cW : Nat) (h : AH) (RM : MachR h AB AQ AL AW m) (h0 : m.weights.length < 2 ^ 40) :
  FnT Try.prog 62 #[machV AB AQ AL AW cB cQ cL cW m] h (fun v h' => ∃ L, v = .tuple #[L, .int .i64 (chkM m)] ∧ SlR h' 1 intC (uselessL m) L) := by
 refine call_body Try.func62 rfl Try.ntmps62 rfl ?_
 refine xp_seq ?_
 refine xp_region rfl ?_
 refine op_box (v := .agg #[.int .i64 _, .int .i64 _, .int .i64 _, .int .i64 _, .int .i64 _, .slice _ _ _, .slice _ _ _, .slice _ _ _, .slice _ _ _]) (cs := [_, _, _, _, _, _, _, _, _]) rfl rfl fun b1 hb1 => ?_
 refine wp_norm [_] rfl ?_
 refine op_pure (pv_assign (v := .slice _ _ _) rfl) ?_
 refine op_pure (pv_assign (v := .int .i64 _) rfl) ?_
 refine xp_scope ?_
 refine xp_seq ?_
 refine xp_seq ?_
 refine xp_region rfl ?_
 refine op_loadPA 0 (vs := [.int .i64 _, .int .i64 _, .int .i64 _, .int .i64 _, .int .i64 _, .slice _ _ _, .slice _ _ _, .slice _ _ _, .slice _ _ _]) rfl rfl rfl rfl rfl ?_
 refine op_fn (caps := []) (vs := [.agg #[.int .i64 _, .int .i64 _, .int .i64 _, .int .i64 _, .int .i64 _, .slice _ _ _, .slice _ _ _, .slice _ _ _, .slice _ _ _]]) rfl rfl rfl (Check_ok m AB AQ AL AW cB cQ cL cW h (RM.ext (Ext.refl _)) h0) ?_
 rintro _ h3 E13 rfl
 refine op_pure (pv_assign (v := .int .i64 _) rfl) ?_
 refine xp_seq ?_
 refine xp_region rfl ?_
 refine op_pure (pv_move (v := .int .i64 _) rfl) ?_
 refine op_pure (pv_of (v := .bool _) rfl) ?_
 refine xp_cond rfl (fun hc => ?_) (fun hc => ?_)
 ·skip
  have hc' : chkM m ≠ 0 := by simpa using hc
  refine xp_seq ?_
  refine xp_region rfl ?_
  refine op_pure (pv_move (v := .int .i64 _) rfl) ?_
  refine op_pure (pv_assign (v := .slice _ _ _) rfl) ?_
  refine op_pure (pv_assign (v := .int .i64 _) rfl) ?_
  refine xp_ret ?_
  refine res_list (vs := [_, _]) Try.results62 ⟨resV_tmp rfl rfl, resV_tmp rfl rfl, trivial⟩ fun V => ?_
  exact ⟨(Ext.trans E13 (ext_wl V)), _, rfl, none, 0, by rw [uselessL, if_neg hc']; rfl, by rw [uselessL, if_neg hc']; exact row_nil _ _⟩
 ·skip
  have hc' : chkM m = 0 := by simpa using hc
  have M := check_ok hc'
  have mpl := M.pl
  have mbl := M.bl
  have mrg := M.regs
  rw [hc', uselessL, if_pos hc']
  refine xp_skip ?_
  refine xp_seq ?_
  refine xp_region rfl ?_
  refine op_loadPA 0 (vs := [.int .i64 _, .int .i64 _, .int .i64 _, .int .i64 _, .int .i64 _, .slice _ _ _, .slice _ _ _, .slice _ _ _, .slice _ _ _]) rfl rfl rfl rfl rfl ?_
  refine op_fn (caps := []) (vs := [.agg #[.int .i64 _, .int .i64 _, .int .i64 _, .int .i64 _, .int .i64 _, .slice _ _ _, .slice _ _ _, .slice _ _ _, .slice _ _ _], .slice _ _ _]) rfl rfl rfl (broken_ok m M [] (fun f hf => absurd hf List.not_mem_nil) (by decide) AB AQ AL AW none cB cQ cL cW 0 h3 (RM.ext E13) (row_fnil _ _)) ?_
  rintro _ h6 E6 ⟨z1, z2, z3, z4, rfl, BB⟩
  refine op_alloc (cs := [_]) rfl rfl fun b5 hb5 => ?_
  refine wp_norm [_, _] rfl ?_
  refine op_storeP 1 (v := _) (vs := [_]) (c' := [_]) rfl rfl rfl rfl rfl rfl rfl rfl rfl ?_
  refine wp_norm [_, _] rfl ?_
  refine goes_more ?_
  refine goes_norm [_, _, _] rfl ?_
  refine xp_seq ?_
  refine xp_region rfl ?_
  refine op_pure (pv_assign (v := .slice _ _ _) rfl) ?_
  refine xp_seq ?_
  refine xp_label ?_
  refine xp_seq ?_
  refine xp_seq ?_
  refine xp_region rfl ?_
  refine op_pure (pv_fieldAddr rfl rfl rfl rfl 6 rfl) ?_
  refine op_loadP 0 (v := .slice _ _ _) rfl rfl rfl rfl ?_
  refine op_pure (pv_len rfl rfl) ?_
  refine op_pure (pv_move (v := .int .i64 _) rfl) ?_
  refine xp_block ?_
  refine xp_loopD [6, 7, 8, 9, 20, 21, 22, 23, 24, 25, 26, 27, 28, 29, 30, 31, 32, 33, 34, 35, 36, 37, 38, 39, 40, 41, 42] 3 (α := Nat × Acc) (fun ⟨k, a⟩ => [(20, .int .i64 k), (6, .slice a.A a.n a.c)]) (fun ⟨k, a⟩ L => L.set 2 (a.p)) (fun ⟨k, a⟩ h_k => k ≤ m.pins.length ∧ AccR 3 1 ((uselessN m k).flatMap intC) a) (fun ⟨k, a⟩ => m.pins.length - k) ((0, acc0)) ⟨rfl, rfl, trivial⟩ (rfl) (⟨Nat.zero_le _, accR0⟩) (rfl) ?_
  rintro ⟨k, a⟩ T1 h_k E_k J_k D_k hD_k
  refine goes_norm [_, _, _] rfl ?_
  obtain ⟨K1, K2⟩ := J_k
  refine xp_seq ?_
  refine xp_region rfl ?_
  refine op_pure (pv_of (v := .bool _) rfl) ?_
  refine xp_seq ?_
  refine xp_cond rfl (fun hk => ?_) (fun hk => ?_)
  ·skip
   have hkl : k < m.pins.length := ltI hk
   have hfk : ∀ f ∈ [FaultP.pin k], FOK m f := fun f hf => by simp at hf; subst hf; exact hkl
   refine xp_skip ?_
   refine xp_seq ?_
   refine xp_block ?_
   refine xp_seq ?_
   refine xp_region rfl ?_
   refine op_pure (pv_move (v := .int .i64 _) rfl) ?_
   refine op_pure (pv_assign (v := .int .i64 _) rfl) ?_
   refine xp_seq ?_
   refine xp_region rfl ?_
   refine op_loadPA 0 (vs := [.int .i64 _, .int .i64 _, .int .i64 _, .int .i64 _, .int .i64 _, .slice _ _ _, .slice _ _ _, .slice _ _ _, .slice _ _ _]) rfl rfl rfl rfl rfl ?_
   refine op_pure (pv_move (v := .int .i64 _) rfl) ?_
   refine op_pure (pv_of (v := _) rfl) ?_
   refine op_buildSlice (zc := [_]) (vs := [(0, _)]) (cs := [_]) rfl rfl rfl rfl rfl rfl rfl fun b26 hb26 => ?_
   refine wp_norm [_, _, _, _] rfl ?_
   refine wp_pub 3 rfl rfl ?_
   intro g1 G1 p1
   refine wp_norm [_, _, _, _] rfl ?_
   have R1 : Row g1 1 faultC (some ⟨b26, 0, none⟩) [FaultP.pin k] := ⟨fun _ _ => rfl, fun _ => ⟨b26, 0, rfl, cellsB (cs := [faultV (.pin k)]) p1⟩⟩
   refine op_fn (caps := []) (vs := [.agg _, .slice _ _ _]) rfl rfl rfl (broken_ok m M [.pin k] hfk (by show 1 < 2 ^ 20; decide) AB AQ AL AW _ cB cQ cL cW 1 g1 (RM.ext (Ext.trans (Ext.trans (Ext.trans E13 E6) E_k) G1)) R1) ?_
   rintro _ h7 E7 ⟨y1, y2, y3, y4, rfl, BY⟩
   refine op_alloc (cs := [_]) rfl rfl fun b8 hb8 => ?_
   refine wp_norm [_, _, _, _, _] rfl ?_
   refine op_storeP 4 (v := _) (vs := [_]) (c' := [_]) rfl rfl rfl rfl rfl rfl rfl rfl rfl ?_
   refine wp_norm [_, _, _, _, _] rfl ?_
   refine xp_seq ?_
   refine xp_seq ?_
   refine xp_region rfl ?_
   refine op_loadPA 0 (vs := [.int .i64 _, .int .i64 _, .int .i64 _, .int .i64 _, .int .i64 _, .slice _ _ _, .slice _ _ _, .slice _ _ _, .slice _ _ _]) rfl rfl rfl rfl rfl ?_
   refine op_fn (caps := []) (vs := [.agg #[.int .i64 _, .int .i64 _, .int .i64 _, .int .i64 _, .int .i64 _, .slice _ _ _, .slice _ _ _, .slice _ _ _, .slice _ _ _]]) rfl rfl rfl (hands_ok m (by omega) (by omega) AB AQ AL AW cB cQ cL cW h7) ?_
   rintro yv h8 E8 It
   refine xp_block ?_
   have E08 := (Ext.trans (Ext.trans (Ext.trans (Ext.trans (Ext.trans E13 E6) E_k) G1) E7) E8)
   have E68 := (Ext.trans (Ext.trans (Ext.trans E_k G1) E7) E8)
   have E78 := E8
   have EK8 := (Ext.trans (Ext.trans G1 E7) E8)
   refine xp_rangeFunc rfl ?_
   intro r l lp htm hpr has hbd V0
   refine CallV.mono (It (.yield l) #[] #[] (UseI m k (b1, .cells #[.int .i64 m.rods, .int .i64 m.levers, .int .i64 m.regs, .int .i64 m.travel, .int .i64 m.opn, .slice AB m.buttons.length cB, .slice AQ m.pins.length cQ, .slice AL m.links.length cL, .slice AW m.weights.length cW] 28 (0, 0)) (b5, .cells #[brkY z1 z2 z3 z4] 127 (0, 0)) (b8, .cells #[brkY y1 y2 y3 y4] 127 (0, 0)) a.p l lp h8) (UseF m k (b1, .cells #[.int .i64 m.rods, .int .i64 m.levers, .int .i64 m.regs, .int .i64 m.travel, .int .i64 m.opn, .slice AB m.buttons.length cB, .slice AQ m.pins.length cQ, .slice AL m.links.length cL, .slice AW m.weights.length cW] 28 (0, 0)) (b5, .cells #[brkY z1 z2 z3 z4] 127 (0, 0)) (b8, .cells #[brkY y1 y2 y3 y4] 127 (0, 0)) a.p l lp h8) (fun k h1 h2 M E I => I.ext E) (fun h1 h2 M E I => I.ext E) ?_ h8 _ (Ext.refl _) ⟨Ext.refl _, fun i s hi => absurd hi (Nat.not_lt_zero _), rfl⟩ V0) ?_ (fun _ _ y => y)
   ·rintro i x v hcl M' hi hT ⟨E9, I1, rfl⟩
    obtain ⟨HB, OB, cHB, cOB, rfl, RX⟩ := HandV.open hT
    have HX : HOK m x := hands_hok ⟨mrg.1, mrg.2⟩ hi
    intro V
    refine callV_yield (wl_get V (i := 5) rfl) hpr rfl htm has hbd ?_
    refine round_enter (i := 5) (r := lp) ?_ V
    refine goes_norm [_, _, _, _, _, _] rfl ?_
    refine xp_region rfl ?_
    refine op_alloc (cs := [_, _]) rfl rfl fun b9 hb9 => ?_
    refine wp_norm [_, _, _, _, _, _, _] rfl ?_
    refine op_storeP 6 (v := .agg #[.slice _ _ _, .slice _ _ _]) (vs := [_, _]) (c' := [_, _]) rfl rfl rfl rfl rfl rfl rfl rfl rfl ?_
    refine wp_norm [_, _, _, _, _, _, _] rfl ?_
    refine ⟨rfl, none, rfl, ?_⟩
    refine goes_norm [_, _, _, _, _, _, _] rfl ?_
    refine xp_block ?_
    refine xp_seq ?_
    refine xp_dw [] rfl rfl rfl ?_
    refine dw_load (i := 0) rfl (by decide +kernel) ?_
    refine op_loadP 4 (v := _) rfl rfl rfl rfl ?_
    refine dw_load (i := 1) rfl (by decide +kernel) ?_
    refine op_loadPA 6 (vs := [.slice _ _ _, .slice _ _ _]) rfl rfl rfl rfl rfl ?_
    refine dw_load (i := 3) rfl (by decide +kernel) ?_
    refine op_loadP 1 (v := _) rfl rfl rfl rfl ?_
    refine dw_load (i := 4) rfl (by decide +kernel) ?_
    refine op_loadPA 6 (vs := [.slice _ _ _, .slice _ _ _]) rfl rfl rfl rfl rfl ?_
    refine dw_eff (i := 2) rfl (by decide +kernel) ?_
    refine op_fn  (vs := _) rfl rfl rfl (brk_ok hph m M [.pin k] hfk x HX y1 y2 y3 y4 HB OB cHB cOB hcl (BY.ext (Ext.trans E78 (Ext.trans E9 (Ext.refl _)))) (RX.ext (Ext.refl _))) ?_
    rintro _ h10 E10 rfl
    refine ⟨ext_wlm E10 _, ?_⟩
    refine dw_last (i := 5) rfl (by decide +kernel) (by decide +kernel) ?_
    refine op_fn  (vs := _) rfl rfl rfl (brk_ok hph m M [] (fun f hf => absurd hf List.not_mem_nil) x HX z1 z2 z3 z4 HB OB cHB cOB h10 (BB.ext (Ext.trans E68 (Ext.trans E9 E10))) (RX.ext E10)) ?_
    rintro _ h11 E11 rfl
    refine dw_pure (i := 6) rfl (by decide +kernel) (pv_of (v := .bool _) rfl) ?_
    refine dw_end rfl ?_
    refine xp_cond rfl (fun he => ?_) (fun he => ?_)
    ·skip
     have hp : alikeB m k x = false := by
      have : ¬ soundsB m [.pin k] x = soundsB m [] x := by
       have : ((soundsB m [.pin k] x : Nat) : Int) ≠ ((soundsB m [] x : Nat) : Int) := by simpa using he
       omega
      exact decide_eq_false this
     refine xp_exit ?_
     intro V2
     have V3 := valid_set (o' := obL lp .done (some (.exit 1))) V2 (i := 5) rfl
     obtain ⟨h99, E99, e9, V9⟩ := wl_drop [_] [_, _, _, _, _, _] V3
     exact ⟨rfl, ⟨_, _, rfl⟩, h99, _, e9, V9, Ext.trans (Ext.trans E10 E11) E99, .inr ⟨rfl, Ext.trans E9 (Ext.trans (Ext.trans E10 E11) E99), useless_no hi hp, rfl⟩⟩
    ·skip
     have hp : alikeB m k x = true := by
      have : ((soundsB m [.pin k] x : Nat) : Int) = ((soundsB m [] x : Nat) : Int) := by simpa using he
      exact decide_eq_true (by omega)
     refine xp_skip ?_
     intro V2
     have V3 := valid_set (o' := obL lp .ready none) V2 (i := 5) rfl
     obtain ⟨h99, E99, e9, V9⟩ := wl_drop [_] [_, _, _, _, _, _] V3
     exact ⟨rfl, ⟨_, _, rfl⟩, h99, _, e9, V9, Ext.trans (Ext.trans E10 E11) E99, .inl ⟨rfl, Ext.trans E9 (Ext.trans (Ext.trans E10 E11) E99), fun j s hj hs => (Nat.lt_succ_iff_lt_or_eq.1 hj).elim (fun h => I1 j s h hs) (fun h => by subst h; rw [hi] at hs; cases hs; exact hp), rfl⟩⟩
   ·rintro v H ⟨h', M', rfl, V', E', ⟨E9, I1, rfl⟩ | ⟨E9, I1, rfl⟩⟩
    rotate_left
    ·refine ⟨h', [_, _, _, _, _], .done, some (.exit 1), rfl, V', by simp, fun h'' E'' => ?_⟩
     have hun : uselessN m (k + 1) = uselessN m k := by rw [uselessN_succ, if_neg (by rw [I1]; decide), List.append_nil]
     refine xp_exit ?_
     refine goes_norm [_, _, _, _, _] rfl ?_
     refine xp_region rfl ?_
     refine op_pure (pv_arith rfl (by omega)) ?_
     refine op_pure (pv_move (v := .int .i64 _) rfl) ?_
     refine ⟨(k + 1, a), ⟨rfl, rfl, trivial⟩, (by first | exact hD_k | exact allMarks_cons hD_k), rfl, (Ext.trans (Ext.trans (Ext.trans (Ext.trans (Ext.trans E_k G1) E7) E8) E') E''), fun h3 E3 => ⟨hkl, by rw [hun]; exact K2⟩, by first | omega | (dsimp only; omega), ?_⟩
     repeat (first | exact off_base _ _ _ | refine off_upd (by decide) ?_ | refine off_updL rfl ?_ | refine off_mix rfl ?_)
    ·refine ⟨h', [_, _, _, _, _], .ready, none, rfl, V', by simp, fun h'' E'' => ?_⟩
     have hun : uselessN m (k + 1) = uselessN m k ++ [(k : Int)] := by rw [uselessN_succ, if_pos (useless_yes I1)]
     have hul := uselessN_len m k
     refine goes_norm [_, _, _, _, _] rfl ?_
     refine xp_region rfl ?_
     refine op_pure (pv_move (v := .slice _ _ _) rfl) ?_
     refine op_pure (pv_move (v := .int .i64 _) rfl) ?_
     refine op_buildSlice (zc := [_]) (vs := [(0, .int .i64 _)]) (cs := [_]) rfl rfl rfl rfl rfl rfl rfl fun b40 hb40 => ?_
     refine wp_norm [_, _, _, _, _, _] rfl ?_
     refine op_appendR 2 K2 rfl rfl rfl (fun V => rdP V (i := 5) rfl) rfl rfl rfl rfl rfl rfl rfl rfl rfl (by omega) rfl (by rw [flat_len (m := 1) (fun _ _ => rfl)]; simp; omega) fun a2 h2a E2a ha2 => ?_
     refine wp_norm [_, _, _, _, _, _] rfl ?_
     refine op_pure (pv_assign (v := .slice _ _ _) rfl) ?_
     refine xp_region rfl ?_
     refine op_pure (pv_arith rfl (by omega)) ?_
     refine op_pure (pv_move (v := .int .i64 _) rfl) ?_
     refine ⟨(k + 1, a2), ⟨rfl, rfl, trivial⟩, (by first | exact hD_k | exact allMarks_cons hD_k), rfl, (Ext.trans (Ext.trans (Ext.trans (Ext.trans (Ext.trans (Ext.trans E_k G1) E7) E8) E') E'') E2a), fun h3 E3 => ⟨hkl, by rw [hun, List.flatMap_append]; exact ha2⟩, by first | omega | (dsimp only; omega), ?_⟩
     repeat (first | exact off_base _ _ _ | refine off_upd (by decide) ?_ | refine off_updL rfl ?_ | refine off_mix rfl ?_)
  ·skip
   have hke : k = m.pins.length := by have := geI hk; omega
   subst hke
   refine xp_exit ?_
   refine xp_seq ?_
   refine xp_region rfl ?_
   refine op_pure (pv_move (v := .slice _ _ _) rfl) ?_
   refine op_pure (pv_assign (v := .slice _ _ _) rfl) ?_
   refine op_pure (pv_assign (v := .int .i64 _) rfl) ?_
   refine xp_ret ?_
   refine res_listM (vs := [_, _]) hD_k Try.results62 ⟨resV_tmp rfl rfl, resV_tmp rfl rfl, trivial⟩ fun hM EM V => ?_
   exact ⟨Ext.trans (Ext.trans (Ext.trans E13 E6) E_k) (Ext.trans EM (ext_wl V)), _, rfl, AccP.row (i := 2) K2 (by omega) (fun _ _ => rfl) V rfl⟩
end
end Go.Proofs.Ythphpbdmbmiaiaa
/- Plain: useless pins, all hands, what a suspect is. Conditions: as each theorem states. -/
namespace Go.Proofs.Ythphpbdmbmiaiaa
open Go Go.HL Go.Proofs Go.Wx Go.Rd
section
variable [Lvl]
set_option maxRecDepth 100000
theorem snd_lv {m : MachP} (M : MOK m) {l : List FaultP} (hf : ∀ f ∈ l, FOK m f) (a : HandP) : soundsB m l a < 2 ^ m.levers.toNat := by
 have h1 := sounds_lt (brkM m l) a m.travel
 have h2 : (brkF m l).stay < 2 ^ m.levers.toNat := brk_stay_lt M hf
 have h3 : (brkM m l).levers = m.levers := rfl
 rw [h3] at h1
 unfold soundsB
 exact Nat.lt_of_le_of_lt Nat.and_le_left (Nat.or_lt_two_pow h1 h2)
theorem snd_six {m : MachP} (M : MOK m) {l : List FaultP} (hf : ∀ f ∈ l, FOK m f) (a : HandP) : soundsB m l a < 2 ^ 6 :=
 Nat.lt_of_lt_of_le (snd_lv M hf a) (Nat.pow_le_pow_right (by omega) (by have := M.levers; omega))
theorem pin_fok {m : MachP} {k : Nat} (hk : k < m.pins.length) : ∀ f ∈ [FaultP.pin k], FOK m f := fun f hf => by simp at hf; subst hf; exact hk
theorem snd_pin {m : MachP} (M : MOK m) {k : Nat} {a : HandP} (H : HOK m a) : soundsM { m with pins := m.pins.eraseIdx k } a m.travel = soundsB m [.pin k] a := by
 have e := own_sounds (m := m) (a := a) (fs := [.pin k]) M H (by simp)
 have h := sounds_small (pfit_of (brk_mok M [.pin k])) a m.travel
 have e2 : soundsB m [.pin k] a = (soundsM (brkM m [.pin k]) a m.travel ||| 0) &&& (2 ^ 64 - 1 - 0) := rfl
 rw [e2, Nat.or_zero, and_mask h]
 exact e
end
end Go.Proofs.Ythphpbdmbmiaiaa
/- Walks: what a useless pin is. Conditions: as each theorem states. -/
namespace Go.Proofs.Ythphpbdmbmiaiaa
open Go Go.HL Go.Proofs Go.Wx Go.Rd
section
variable [Lvl]
set_option maxRecDepth 100000
end
end Go.Proofs.Ythphpbdmbmiaiaa
/- Walks of the reference: Useless, Faults, Broken of any machine. Conditions: as each theorem states. -/
namespace Go.Proofs.Ythphpbdmbmiaiaa
open Go Go.HL Go.Proofs Go.Wx Go.Rd
section
variable [Lvl]
set_option maxRecDepth 100000
theorem FaultsG_ok (m : MachP) (S : Sml m) (AB AQ AL AW : Option Addr) (cB cQ cL cW : Nat) (h : AH) (RM : MachR h AB AQ AL AW m) :
  FnT Try.prog 48 #[machV AB AQ AL AW cB cQ cL cW m] h (fun v h' => ∃ L, v = .tuple #[L, .int .i64 (chkM m)] ∧ SlR h' 2 toldC (faultsL m) L) := by
 refine call_body Try.func48 rfl Try.ntmps48 rfl ?_
 refine xp_seq ?_
 refine xp_region rfl ?_
 refine op_box (v := .agg #[.int .i64 _, .int .i64 _, .int .i64 _, .int .i64 _, .int .i64 _, .slice _ _ _, .slice _ _ _, .slice _ _ _, .slice _ _ _]) (cs := [_, _, _, _, _, _, _, _, _]) rfl rfl fun b1 hb1 => ?_
 refine wp_norm [_] rfl ?_
 refine op_pure (pv_assign (v := .slice _ _ _) rfl) ?_
 refine op_pure (pv_assign (v := .int .i64 _) rfl) ?_
 refine xp_seq ?_
 refine xp_seq ?_
 refine xp_region rfl ?_
 refine op_loadPA 0 (vs := [.int .i64 _, .int .i64 _, .int .i64 _, .int .i64 _, .int .i64 _, .slice _ _ _, .slice _ _ _, .slice _ _ _, .slice _ _ _]) rfl rfl rfl rfl rfl ?_
 refine op_fn (caps := []) (vs := [.agg #[.int .i64 _, .int .i64 _, .int .i64 _, .int .i64 _, .int .i64 _, .slice _ _ _, .slice _ _ _, .slice _ _ _, .slice _ _ _]]) rfl rfl rfl (CheckS_ok m S AB AQ AL AW cB cQ cL cW h (RM.ext (Ext.refl _))) ?_
 rintro _ h3 E3 rfl
 refine op_pure (pv_assign (v := .int .i64 _) rfl) ?_
 refine xp_seq ?_
 refine xp_region rfl ?_
 refine op_pure (pv_move (v := .int .i64 _) rfl) ?_
 refine op_pure (pv_of (v := .bool _) rfl) ?_
 refine xp_cond rfl (fun hc => ?_) (fun hc => ?_)
 ·skip
  have hc' : chkM m ≠ 0 := by simpa using hc
  refine xp_seq ?_
  refine xp_region rfl ?_
  refine op_pure (pv_move (v := .int .i64 _) rfl) ?_
  refine op_pure (pv_assign (v := .slice _ _ _) rfl) ?_
  refine op_pure (pv_assign (v := .int .i64 _) rfl) ?_
  refine xp_ret ?_
  refine res_list (vs := [_, _]) Try.results48 ⟨resV_tmp rfl rfl, resV_tmp rfl rfl, trivial⟩ fun V => ?_
  exact ⟨(Ext.trans E3 (ext_wl V)), _, rfl, none, 0, by rw [faultsL, if_neg hc']; rfl, by rw [faultsL, if_neg hc']; exact ⟨fun _ hx => absurd hx List.not_mem_nil, Rd.nil _ _⟩⟩
 ·skip
  have hc' : chkM m = 0 := by simpa using hc
  have M := check_ok hc'
  refine xp_skip ?_
  refine xp_seq ?_
  refine xp_region rfl ?_
  refine op_loadPA 0 (vs := [.int .i64 _, .int .i64 _, .int .i64 _, .int .i64 _, .int .i64 _, .slice _ _ _, .slice _ _ _, .slice _ _ _, .slice _ _ _]) rfl rfl rfl rfl rfl ?_
  refine op_fn (caps := []) (vs := [.agg #[.int .i64 _, .int .i64 _, .int .i64 _, .int .i64 _, .int .i64 _, .slice _ _ _, .slice _ _ _, .slice _ _ _, .slice _ _ _]]) rfl rfl rfl (faultsR_ok m M AB AQ AL AW cB cQ cL cW h3) ?_
  rintro _ h4 E4 ⟨A4, c4, rfl, S4⟩
  refine op_pure (pv_assign (v := .slice _ _ _) rfl) ?_
  refine op_pure (pv_assign (v := .int .i64 _) rfl) ?_
  refine xp_ret ?_
  refine res_list (vs := [_, _]) Try.results48 ⟨resV_tmp rfl rfl, resV_tmp rfl rfl, trivial⟩ fun V => ?_
  rw [hc', faultsL, if_pos hc']
  exact ⟨(Ext.trans (Ext.trans E3 E4) (ext_wl V)), _, rfl, A4, c4, rfl, S4.ext (ext_wl V)⟩
theorem BrokenG_ok (m : MachP) (S : Sml m) (l : List Int) (hl : l.length < 2 ^ 40) (a : HandP) (SH : SmlH a) (AB AQ AL AW NA HA OA : Option Addr) (cB cQ cL cW cN cH cO : Nat) (hcQ : m.pins.length ≤ cQ) (hcL : m.links.length ≤ cL) (h : AH) (RM : MachR h AB AQ AL AW m) (RN : Row h 1 intC NA l) (RH : HandR h HA OA a) :
  FnT Try.prog 67 #[machV AB AQ AL AW cB cQ cL cW m, .slice NA l.length cN, handV HA OA cH cO a] h (fun v h' => ∃ L, v = .tuple #[L, .int .i64 (brokenE m l a)] ∧ SlR h' 1 intC (brokenL m l a) L) := by
 have hb1 := SH.b
 have hb2 := SH.o
 refine call_body Try.func67 rfl Try.ntmps67 rfl ?_
 refine xp_seq ?_
 refine xp_region rfl ?_
 refine op_box (v := .agg #[.int .i64 _, .int .i64 _, .int .i64 _, .int .i64 _, .int .i64 _, .slice _ _ _, .slice _ _ _, .slice _ _ _, .slice _ _ _]) (cs := [_, _, _, _, _, _, _, _, _]) rfl rfl fun b3 hb3 => ?_
 refine wp_norm [_] rfl ?_
 refine op_box (v := .agg #[.slice _ _ _, .slice _ _ _]) (cs := [_, _]) rfl rfl fun b5 hb5 => ?_
 refine wp_norm [_, _] rfl ?_
 refine op_pure (pv_assign (v := .slice _ _ _) rfl) ?_
 refine op_pure (pv_assign (v := .int .i64 _) rfl) ?_
 refine xp_seq ?_
 refine xp_seq ?_
 refine xp_region rfl ?_
 refine op_loadPA 0 (vs := [.int .i64 _, .int .i64 _, .int .i64 _, .int .i64 _, .int .i64 _, .slice _ _ _, .slice _ _ _, .slice _ _ _, .slice _ _ _]) rfl rfl rfl rfl rfl ?_
 refine op_fn (caps := []) (vs := [.agg #[.int .i64 _, .int .i64 _, .int .i64 _, .int .i64 _, .int .i64 _, .slice _ _ _, .slice _ _ _, .slice _ _ _, .slice _ _ _]]) rfl rfl rfl (CheckS_ok m S AB AQ AL AW cB cQ cL cW h (RM.ext (Ext.refl _))) ?_
 rintro _ h3 E3 rfl
 refine op_pure (pv_assign (v := .int .i64 _) rfl) ?_
 refine xp_seq ?_
 refine xp_region rfl ?_
 refine op_pure (pv_move (v := .int .i64 _) rfl) ?_
 refine op_pure (pv_of (v := .bool _) rfl) ?_
 refine xp_cond rfl (fun hc => ?_) (fun hc => ?_)
 ·skip
  have hc' : chkM m ≠ 0 := by simpa using hc
  have eE : brokenE m l a = chkM m := by rw [brokenE, if_pos hc']
  refine xp_seq ?_
  refine xp_region rfl ?_
  refine op_pure (pv_move (v := .int .i64 _) rfl) ?_
  refine op_pure (pv_assign (v := .slice _ _ _) rfl) ?_
  refine op_pure (pv_assign (v := .int .i64 _) rfl) ?_
  refine xp_ret ?_
  refine res_list (vs := [_, _]) Try.results67 ⟨resV_tmp rfl rfl, resV_tmp rfl rfl, trivial⟩ fun V => ?_
  exact ⟨(Ext.trans E3 (ext_wl V)), _, by rw [eE]; rfl, none, 0, by rw [brokenL, eE, if_neg hc']; rfl, by rw [brokenL, eE, if_neg hc']; exact row_nil _ _⟩
 ·skip
  have hc' : chkM m = 0 := by simpa using hc
  have M := check_ok hc'
  have mlv := M.levers
  have mpl := M.pl
  have mll := M.ll
  have fl := faults_len m
  refine xp_skip ?_
  refine xp_seq ?_
  refine xp_seq ?_
  refine xp_region rfl ?_
  refine op_pure (pv_move (v := .slice _ _ _) rfl) ?_
  refine op_loadPA 0 (vs := [.int .i64 _, .int .i64 _, .int .i64 _, .int .i64 _, .int .i64 _, .slice _ _ _, .slice _ _ _, .slice _ _ _, .slice _ _ _]) rfl rfl rfl rfl rfl ?_
  refine op_fn (caps := []) (vs := [.agg #[.int .i64 _, .int .i64 _, .int .i64 _, .int .i64 _, .int .i64 _, .slice _ _ _, .slice _ _ _, .slice _ _ _, .slice _ _ _]]) rfl rfl rfl (faultsR_ok m M AB AQ AL AW cB cQ cL cW h3) ?_
  rintro _ h4 E4 ⟨FA, cF, rfl, RF⟩
  refine op_pure (pv_len rfl rfl) ?_
  refine op_fn (caps := []) (vs := [.slice _ _ _, .int .i64 _]) rfl rfl rfl (checkSetR_ok l (faultsM m).length (by omega) NA cN h4 (RN.ext (Ext.trans E3 E4)) hl) ?_
  rintro _ h5 E5 rfl
  refine op_pure (pv_assign (v := .int .i64 _) rfl) ?_
  refine xp_seq ?_
  refine xp_region rfl ?_
  refine op_pure (pv_move (v := .int .i64 _) rfl) ?_
  refine op_pure (pv_of (v := .bool _) rfl) ?_
  refine xp_cond rfl (fun hs => ?_) (fun hs => ?_)
  ·skip
   have hs' : checkSetM l (faultsM m).length ≠ 0 := by simpa using hs
   have eE : brokenE m l a = checkSetM l (faultsM m).length := by rw [brokenE, if_neg (by simp [hc']), if_pos hs']
   refine xp_seq ?_
   refine xp_region rfl ?_
   refine op_pure (pv_move (v := .int .i64 _) rfl) ?_
   refine op_pure (pv_assign (v := .slice _ _ _) rfl) ?_
   refine op_pure (pv_assign (v := .int .i64 _) rfl) ?_
   refine xp_ret ?_
   refine res_list (vs := [_, _]) Try.results67 ⟨resV_tmp rfl rfl, resV_tmp rfl rfl, trivial⟩ fun V => ?_
   exact ⟨(Ext.trans (Ext.trans (Ext.trans E3 E4) E5) (ext_wl V)), _, by rw [eE]; rfl, none, 0, by rw [brokenL, eE, if_neg hs']; rfl, by rw [brokenL, eE, if_neg hs']; exact row_nil _ _⟩
  ·skip
   have hs' : checkSetM l (faultsM m).length = 0 := by simpa using hs
   have SS := checkSet_iff.1 hs'
   have eE : brokenE m l a = checkHandM m a := by rw [brokenE, if_neg (by simp [hc']), if_neg (by simp [hs'])]
   refine xp_skip ?_
   refine xp_seq ?_
   refine xp_seq ?_
   refine xp_region rfl ?_
   refine op_loadPA 0 (vs := [.int .i64 _, .int .i64 _, .int .i64 _, .int .i64 _, .int .i64 _, .slice _ _ _, .slice _ _ _, .slice _ _ _, .slice _ _ _]) rfl rfl rfl rfl rfl ?_
   refine op_loadPA 1 (vs := [.slice _ _ _, .slice _ _ _]) rfl rfl rfl rfl rfl ?_
   refine op_fn (caps := []) (vs := [.agg _, .agg _]) rfl rfl rfl (checkHandR_ok m M a AB AQ AL AW HA OA cB cQ cL cW cH cO h5 (RH.ext (Ext.trans (Ext.trans E3 E4) E5)) (by omega) (by omega)) ?_
   rintro _ h6 E6 rfl
   refine op_pure (pv_assign (v := .int .i64 _) rfl) ?_
   refine xp_seq ?_
   refine xp_region rfl ?_
   refine op_pure (pv_move (v := .int .i64 _) rfl) ?_
   refine op_pure (pv_of (v := .bool _) rfl) ?_
   refine xp_cond rfl (fun hd => ?_) (fun hd => ?_)
   ·skip
    have hd' : checkHandM m a ≠ 0 := by simpa using hd
    refine xp_seq ?_
    refine xp_region rfl ?_
    refine op_pure (pv_move (v := .int .i64 _) rfl) ?_
    refine op_pure (pv_assign (v := .slice _ _ _) rfl) ?_
    refine op_pure (pv_assign (v := .int .i64 _) rfl) ?_
    refine xp_ret ?_
    refine res_list (vs := [_, _]) Try.results67 ⟨resV_tmp rfl rfl, resV_tmp rfl rfl, trivial⟩ fun V => ?_
    exact ⟨(Ext.trans (Ext.trans (Ext.trans (Ext.trans E3 E4) E5) E6) (ext_wl V)), _, by rw [eE]; rfl, none, 0, by rw [brokenL, eE, if_neg hd']; rfl, by rw [brokenL, eE, if_neg hd']; exact row_nil _ _⟩
   ·skip
    have hd' : checkHandM m a = 0 := by simpa using hd
    have H := (checkHand_ok0 hd').2
    refine xp_skip ?_
    refine xp_seq ?_
    refine xp_region rfl ?_
    refine op_loadPA 0 (vs := [.int .i64 _, .int .i64 _, .int .i64 _, .int .i64 _, .int .i64 _, .slice _ _ _, .slice _ _ _, .slice _ _ _, .slice _ _ _]) rfl rfl rfl rfl rfl ?_
    refine op_pure (pv_move (v := .slice _ _ _) rfl) ?_
    refine op_loadPA 1 (vs := [.slice _ _ _, .slice _ _ _]) rfl rfl rfl rfl rfl ?_
    refine op_fn (caps := []) (vs := [.agg #[.int .i64 _, .int .i64 _, .int .i64 _, .int .i64 _, .int .i64 _, .slice _ _ _, .slice _ _ _, .slice _ _ _, .slice _ _ _], .slice _ _ _, .agg #[.slice _ _ _, .slice _ _ _]]) rfl rfl rfl (brokenR_ok m M l SS a H AB AQ AL AW NA HA OA cB cQ cL cW cN cH cO hcQ hcL h6 (RM.ext (Ext.trans (Ext.trans (Ext.trans E3 E4) E5) E6)) (RN.ext (Ext.trans (Ext.trans (Ext.trans E3 E4) E5) E6)) (RH.ext (Ext.trans (Ext.trans (Ext.trans E3 E4) E5) E6))) ?_
    rintro _ h7 E7 ⟨A7, c7, rfl, R7⟩
    refine op_pure (pv_assign (v := .slice _ _ _) rfl) ?_
    refine op_pure (pv_assign (v := .int .i64 _) rfl) ?_
    refine xp_ret ?_
    refine res_list (vs := [_, _]) Try.results67 ⟨resV_tmp rfl rfl, resV_tmp rfl rfl, trivial⟩ fun V => ?_
    rw [eE, hd', brokenL, eE, if_pos hd']
    exact ⟨(Ext.trans (Ext.trans (Ext.trans (Ext.trans (Ext.trans E3 E4) E5) E6) E7) (ext_wl V)), _, rfl, A7, c7, rfl, R7.ext (ext_wl V)⟩
set_option maxHeartbeats 4000000 in
theorem UselessG_ok (m : MachP) (S : Sml m) (AB AQ AL AW : Option Addr) (cB cQ cL cW : Nat) (hcQ : m.pins.length ≤ cQ) (h : AH) (RM : MachR h AB AQ AL AW m) :
  FnT Try.prog 66 #[machV AB AQ AL AW cB cQ cL cW m] h (fun v h' => ∃ L, v = .tuple #[L, .int .i64 (chkM m)] ∧ SlR h' 1 intC (uselessL m) L) := by
 refine call_body Try.func66 rfl Try.ntmps66 rfl ?_
 refine xp_seq ?_
 refine xp_region rfl ?_
 refine op_box (v := .agg #[.int .i64 _, .int .i64 _, .int .i64 _, .int .i64 _, .int .i64 _, .slice _ _ _, .slice _ _ _, .slice _ _ _, .slice _ _ _]) (cs := [_, _, _, _, _, _, _, _, _]) rfl rfl fun b1 hb1 => ?_
 refine wp_norm [_] rfl ?_
 refine op_pure (pv_assign (v := .slice _ _ _) rfl) ?_
 refine op_pure (pv_assign (v := .int .i64 _) rfl) ?_
 refine xp_seq ?_
 refine xp_seq ?_
 refine xp_region rfl ?_
 refine op_loadPA 0 (vs := [.int .i64 _, .int .i64 _, .int .i64 _, .int .i64 _, .int .i64 _, .slice _ _ _, .slice _ _ _, .slice _ _ _, .slice _ _ _]) rfl rfl rfl rfl rfl ?_
 refine op_fn (caps := []) (vs := [.agg #[.int .i64 _, .int .i64 _, .int .i64 _, .int .i64 _, .int .i64 _, .slice _ _ _, .slice _ _ _, .slice _ _ _, .slice _ _ _]]) rfl rfl rfl (CheckS_ok m S AB AQ AL AW cB cQ cL cW h (RM.ext (Ext.refl _))) ?_
 rintro _ h3 E3 rfl
 refine op_pure (pv_assign (v := .int .i64 _) rfl) ?_
 refine xp_seq ?_
 refine xp_region rfl ?_
 refine op_pure (pv_move (v := .int .i64 _) rfl) ?_
 refine op_pure (pv_of (v := .bool _) rfl) ?_
 refine xp_cond rfl (fun hc => ?_) (fun hc => ?_)
 ·skip
  have hc' : chkM m ≠ 0 := by simpa using hc
  refine xp_seq ?_
  refine xp_region rfl ?_
  refine op_pure (pv_move (v := .int .i64 _) rfl) ?_
  refine op_pure (pv_assign (v := .slice _ _ _) rfl) ?_
  refine op_pure (pv_assign (v := .int .i64 _) rfl) ?_
  refine xp_ret ?_
  refine res_list (vs := [_, _]) Try.results66 ⟨resV_tmp rfl rfl, resV_tmp rfl rfl, trivial⟩ fun V => ?_
  exact ⟨(Ext.trans E3 (ext_wl V)), _, rfl, none, 0, by rw [uselessL, if_neg hc']; rfl, by rw [uselessL, if_neg hc']; exact row_nil _ _⟩
 ·skip
  have hc' : chkM m = 0 := by simpa using hc
  have M := check_ok hc'
  have mbl := M.bl
  have mpl := M.pl
  have mrg := M.regs
  refine xp_skip ?_
  refine goes_more ?_
  refine goes_norm [_, _] rfl ?_
  refine xp_seq ?_
  refine xp_region rfl ?_
  refine op_pure (pv_assign (v := .slice _ _ _) rfl) ?_
  refine xp_seq ?_
  refine xp_region rfl ?_
  refine op_loadPA 0 (vs := [.int .i64 _, .int .i64 _, .int .i64 _, .int .i64 _, .int .i64 _, .slice _ _ _, .slice _ _ _, .slice _ _ _, .slice _ _ _]) rfl rfl rfl rfl rfl ?_
  refine op_fn (caps := []) (vs := [.agg #[.int .i64 _, .int .i64 _, .int .i64 _, .int .i64 _, .int .i64 _, .slice _ _ _, .slice _ _ _, .slice _ _ _, .slice _ _ _]]) rfl rfl rfl (HandsR_ok m (by omega) (by omega) AB AQ AL AW cB cQ cL cW h3 (RM.ext E3)) ?_
  rintro _ h8 E8 S8
  obtain ⟨gs, A8, c8, rfl, R8, EL8⟩ := SlX.els S8
  refine op_pure (pv_assign (v := .slice _ _ _) rfl) ?_
  refine xp_seq ?_
  refine xp_seq ?_
  refine xp_region rfl ?_
  refine op_pure (pv_assign (v := .int .i64 _) rfl) ?_
  refine xp_block ?_
  refine xp_loopL [5, 7, 8, 9, 17, 18, 19, 20, 21, 22, 23, 24, 25, 26, 27, 28, 29, 30, 31, 32, 33, 34, 35, 36, 37, 38, 39, 40, 41, 42, 43, 44, 45, 46, 47, 48, 49, 50, 51, 52] 2 (α := Nat × Acc) (fun ⟨k, a0⟩ => [(7, .int .i64 k), (5, .slice a0.A a0.n a0.c)]) (fun ⟨k, a0⟩ L => L.set 1 (a0.p)) (fun ⟨k, a0⟩ h_k => k ≤ m.pins.length ∧ AccR 3 1 ((uselessN m k).flatMap intC) a0) (fun ⟨k, a0⟩ => m.pins.length - k) ((0, acc0)) ⟨rfl, rfl, trivial⟩ (rfl) (⟨Nat.zero_le _, accR0⟩) ?_
  rintro ⟨k, a0⟩ T1 h_k E_k J_k
  refine goes_norm [_, _] rfl ?_
  obtain ⟨K1, K2⟩ := J_k
  refine xp_seq ?_
  refine xp_seq ?_
  refine xp_region rfl ?_
  refine op_pure (pv_move (v := .int .i64 _) rfl) ?_
  refine op_pure (pv_fieldAddr rfl rfl rfl rfl 6 rfl) ?_
  refine op_loadP 0 (v := .slice _ _ _) rfl rfl rfl rfl ?_
  refine op_pure (pv_len rfl rfl) ?_
  refine op_pure (pv_of (v := .bool _) rfl) ?_
  refine xp_cond rfl (fun hk => ?_) (fun hk => ?_)
  ·skip
   have hkl : k < m.pins.length := ltI hk
   obtain ⟨o, ho⟩ : ∃ o : MachP, o = { m with pins := m.pins.eraseIdx k } := ⟨_, rfl⟩
   have ho' : o = ownR m [.pin k] := ho
   have MO : MOK o := by rw [ho']; exact own_mok M _
   have otr : o.travel = m.travel := by rw [ho]
   have hhl : (handsM m).length ≤ 448 * 448 := by
    unfold handsM
    rw [pairs_len]
    exact Nat.mul_le_mul (setsM_len (by omega)) (setsM_len (by omega))
   obtain ⟨bv, hbv⟩ : ∃ bv : Nat → Bool, ∀ j, bv j = ((handsM m).take j).all (alikeB m k) := ⟨_, fun _ => rfl⟩
   have b0 : bv 0 = true := by rw [hbv]; rfl
   have us := uselessN_succ m k
   have ul := uselessN_len m k
   refine xp_skip ?_
   refine xp_seq ?_
   refine xp_block ?_
   refine xp_seq ?_
   refine xp_region rfl ?_
   refine op_pure (pv_assign (v := .bool _) rfl) ?_
   refine xp_seq ?_
   refine xp_seq ?_
   refine xp_region rfl ?_
   refine op_pure (pv_assign (v := .int .i64 _) rfl) ?_
   refine xp_block ?_
   refine xp_loopB [8, 9, 24, 25, 26, 27, 28, 29, 30, 31, 32, 33, 34, 35, 36, 37, 38, 39, 40, 41, 42, 43, 44, 45, 46, 47] 2 (α := Nat) (fun i => [(9, .int .i64 i), (8, .bool (bv i))]) (fun i => _) (fun i h_i => i ≤ (handsM m).length) (fun i => (handsM m).length - i) (0) ⟨rfl, boolE b0.symm, trivial⟩ (rfl) (Nat.zero_le _) ?_
   rintro i T2 h_i E_i J_i
   refine goes_norm [_, _] rfl ?_
   refine xp_seq ?_
   refine xp_seq ?_
   refine xp_region rfl ?_
   refine op_pure (pv_move (v := .int .i64 _) rfl) ?_
   refine op_pure (pv_move (v := .slice _ _ _) rfl) ?_
   refine op_pure (pv_len rfl rfl) ?_
   refine op_pure (pv_of (v := .bool _) rfl) ?_
   refine xp_cond rfl (fun hi => ?_) (fun hi => ?_)
   ·skip
    have hil : i < (handsM m).length := ltI hi
    obtain ⟨a, ha⟩ : ∃ a, a = (handsM m)[i] := ⟨_, rfl⟩
    have HX : HOK m a := by rw [ha]; exact hands_hok ⟨mrg.1, mrg.2⟩ (List.getElem?_eq_getElem hil)
    have HO : HOK o a := by rw [ho']; exact own_hok HX _
    have hbs : bv (i + 1) = (bv i && alikeB m k a) := by rw [hbv, hbv, take_snoc hil, List.all_append, ha]; simp
    obtain ⟨qa, hqa⟩ : ∃ q, q = listN (soundsB m [] a) 6 := ⟨_, rfl⟩
    obtain ⟨qb, hqb⟩ : ∃ q, q = listN (soundsB m [.pin k] a) 6 := ⟨_, rfl⟩
    have hqal : qa.length < 2 ^ 40 := by rw [hqa]; have := listN_len (soundsB m [] a) 6; omega
    have hqbl : qb.length < 2 ^ 40 := by rw [hqb]; have := listN_len (soundsB m [.pin k] a) 6; omega
    have hab : decide (qa = qb) = alikeB m k a := by
     unfold alikeB
     rw [decide_eq_decide, hqa, hqb, listN_inj (snd_six M (fun f hf => absurd hf List.not_mem_nil) a) (snd_six M (pin_fok hkl) a)]
     exact eq_comm
    obtain ⟨hic, B0, O0, e0, ⟨HA, cH, rfl, r1⟩, ⟨OA, cO, rfl, r2⟩⟩ := (EL8.ext TH.mono (Ext.trans E_k E_i)).at hil
    obtain ⟨g, off, hA, hcc⟩ := (R8.ext (Ext.trans E_k E_i)).at (by omega) hic
    have hcc : Cells h_i g (off + i * 2) [.slice HA (handsM m)[i].buttons.length cH, .slice OA (handsM m)[i].on.length cO] := by rw [← e0]; exact hcc
    rw [← ha] at r1 r2 hcc
    have L3 := soundsR_ok m M a (fit_of M HX) AB AQ AL AW HA OA cB cQ cL cW cH cO
    rw [show listN (soundsM m a m.travel) 6 = qa by rw [hqa, soundsB_nil M]] at L3
    rcases Bool.eq_false_or_eq_true (bv i) with hb | hb
    ·skip
     refine xp_skip ?_
     refine xp_seq ?_
     refine xp_block ?_
     refine xp_dw [] rfl rfl rfl ?_
     refine dw_pure (i := 0) rfl (by decide +kernel) (pv_move (v := .bool _) rfl) ?_
     refine dw_pure (i := 1) rfl (by decide +kernel) (pv_move (v := .bool _) rfl) ?_
     refine dw_loadG (i := 2) rfl (by decide +kernel) rfl hb ?_
     refine op_loadPA 0 (vs := [.int .i64 _, .int .i64 _, .int .i64 _, .int .i64 _, .int .i64 _, .slice _ _ _, .slice _ _ _, .slice _ _ _, .slice _ _ _]) rfl rfl rfl rfl rfl ?_
     refine dw_pureG (i := 3) rfl (by decide +kernel) rfl hb (pv_move (v := .slice _ _ _) rfl) ?_
     refine dw_pureG (i := 4) rfl (by decide +kernel) rfl hb (pv_move (v := .int .i64 _) rfl) ?_
     refine dw_pureG (i := 5) rfl (by decide +kernel) rfl hb (pv_indexE (m := 2) rfl hA rfl rfl rfl (by omega) (by omega)) ?_
     refine dw_loadG (i := 6) rfl (by decide +kernel) rfl hb ?_
     refine op_loadA rfl rfl rfl rfl hcc ?_
     refine dw_loadG (i := 8) rfl (by decide +kernel) rfl hb ?_
     refine op_loadPA 0 (vs := [.int .i64 _, .int .i64 _, .int .i64 _, .int .i64 _, .int .i64 _, .slice _ _ _, .slice _ _ _, .slice _ _ _, .slice _ _ _]) rfl rfl rfl rfl rfl ?_
     refine dw_pureG (i := 9) rfl (by decide +kernel) rfl hb (pv_move (v := .int .i64 _) rfl) ?_
     refine dw_pureG (i := 11) rfl (by decide +kernel) rfl hb (pv_move (v := .slice _ _ _) rfl) ?_
     refine dw_pureG (i := 12) rfl (by decide +kernel) rfl hb (pv_move (v := .int .i64 _) rfl) ?_
     refine dw_pureG (i := 13) rfl (by decide +kernel) rfl hb (pv_indexE (m := 2) rfl hA rfl rfl rfl (by omega) (by omega)) ?_
     refine dw_loadG (i := 14) rfl (by decide +kernel) rfl hb ?_
     refine op_loadA rfl rfl rfl rfl hcc ?_
     refine dw_effG (i := 7) rfl (by decide +kernel) rfl hb ?_
     refine op_fn (caps := []) (vs := [.agg _, .agg _]) rfl rfl rfl (L3 h_i (RM.ext (Ext.trans (Ext.trans (Ext.trans E3 E8) E_k) E_i)) ⟨r1, r2⟩) ?_
     rintro _ h10 E10 ⟨A10, c10, rfl, S10⟩
     refine ⟨ext_wlm E10 _, ?_⟩
     refine dw_effG (i := 10) rfl (by decide +kernel) rfl hb ?_
     refine op_fn (caps := []) (vs := [.agg _, .int .i64 _]) rfl rfl rfl (WithoutPinR_ok m k hkl (by omega) AB AQ AL AW cB cQ cL cW hcQ h10 (RM.q.ext (Ext.trans (Ext.trans (Ext.trans (Ext.trans E3 E8) E_k) E_i) E10))) ?_
     rintro _ h9 E9 ⟨A9, c9, rfl, R9, C9⟩
     refine ⟨ext_wlm E9 _, ?_⟩
     have RO : MachR h9 AB A9 AL AW o := by rw [ho]; exact ⟨RM.b.ext (Ext.trans (Ext.trans (Ext.trans (Ext.trans (Ext.trans E3 E8) E_k) E_i) E10) E9), R9, RM.l.ext (Ext.trans (Ext.trans (Ext.trans (Ext.trans (Ext.trans E3 E8) E_k) E_i) E10) E9), RM.w.ext (Ext.trans (Ext.trans (Ext.trans (Ext.trans (Ext.trans E3 E8) E_k) E_i) E10) E9)⟩
     rw [← ho]
     have L4 := soundsR_ok o MO a (fit_of MO HO) AB A9 AL AW HA OA cB c9 cL cW cH cO
     rw [show listN (soundsM o a o.travel) 6 = qb by rw [hqb, otr, ho, snd_pin M HX]] at L4
     refine dw_lastG (i := 15) rfl (by decide +kernel) (by decide +kernel) rfl hb ?_
     refine op_fn (caps := []) (vs := [.agg _, .agg _]) rfl rfl rfl (L4 h9 RO ⟨(r1.ext E10).ext E9, (r2.ext E10).ext E9⟩) ?_
     rintro _ h11 E11 ⟨A11, c11, rfl, S11⟩
     refine dw_lastG (i := 16) rfl (by decide +kernel) (by decide +kernel) rfl hb ?_
     refine op_fn (caps := []) (vs := [.slice _ _ _, .slice _ _ _]) rfl rfl rfl (sameR_ok qa qb _ _ _ _ h11 (S10.ext (Ext.trans E9 E11)) (S11.ext (Ext.refl _)) hqal hqbl) ?_
     rintro _ h12 E12 rfl
     refine dw_pure (i := 17) rfl (by decide +kernel) (pv_pickT rfl hb (v := .bool _) rfl) ?_
     refine dw_pure (i := 18) rfl (by decide +kernel) (pv_assign (v := .bool _) rfl) ?_
     refine dw_end rfl ?_
     refine xp_region rfl ?_
     refine op_pure (pv_move (v := .int .i64 _) rfl) ?_
     refine op_pure (pv_arith rfl (by omega)) ?_
     refine op_pure (pv_assign (v := .int .i64 _) rfl) ?_
     refine ⟨i + 1, ⟨rfl, boolE (by rw [hbs, hb, hab]; rfl), trivial⟩, rfl, rfl, (Ext.trans (Ext.trans (Ext.trans (Ext.trans E_i E10) E9) E11) E12), fun h3 E3 => hil, by first | omega | (dsimp only; omega), ?_⟩
     repeat (first | exact off_base _ _ _ | refine off_upd (by decide) ?_ | refine off_updL rfl ?_ | refine off_mix rfl ?_)
    ·skip
     refine xp_skip ?_
     refine xp_seq ?_
     refine xp_block ?_
     refine xp_dw [] rfl rfl rfl ?_
     refine dw_pure (i := 0) rfl (by decide +kernel) (pv_move (v := .bool _) rfl) ?_
     refine dw_pure (i := 1) rfl (by decide +kernel) (pv_move (v := .bool _) rfl) ?_
     refine dw_skip (i := 2) rfl (by decide +kernel) rfl hb ?_
     refine dw_skip (i := 3) rfl (by decide +kernel) rfl hb ?_
     refine dw_skip (i := 4) rfl (by decide +kernel) rfl hb ?_
     refine dw_skip (i := 5) rfl (by decide +kernel) rfl hb ?_
     refine dw_skip (i := 6) rfl (by decide +kernel) rfl hb ?_
     refine dw_skip (i := 8) rfl (by decide +kernel) rfl hb ?_
     refine dw_skip (i := 9) rfl (by decide +kernel) rfl hb ?_
     refine dw_skip (i := 11) rfl (by decide +kernel) rfl hb ?_
     refine dw_skip (i := 12) rfl (by decide +kernel) rfl hb ?_
     refine dw_skip (i := 13) rfl (by decide +kernel) rfl hb ?_
     refine dw_skip (i := 14) rfl (by decide +kernel) rfl hb ?_
     refine dw_skip (i := 7) rfl (by decide +kernel) rfl hb ?_
     refine dw_skip (i := 10) rfl (by decide +kernel) rfl hb ?_
     refine dw_skip (i := 15) rfl (by decide +kernel) rfl hb ?_
     refine dw_skip (i := 16) rfl (by decide +kernel) rfl hb ?_
     refine dw_pure (i := 17) rfl (by decide +kernel) (pv_pickF rfl hb (v := .bool _) rfl) ?_
     refine dw_pure (i := 18) rfl (by decide +kernel) (pv_assign (v := .bool _) rfl) ?_
     refine dw_end rfl ?_
     refine xp_region rfl ?_
     refine op_pure (pv_move (v := .int .i64 _) rfl) ?_
     refine op_pure (pv_arith rfl (by omega)) ?_
     refine op_pure (pv_assign (v := .int .i64 _) rfl) ?_
     refine ⟨i + 1, ⟨rfl, boolE (by rw [hbs, hb]; rfl), trivial⟩, rfl, rfl, E_i, fun h3 E3 => hil, by first | omega | (dsimp only; omega), ?_⟩
     repeat (first | exact off_base _ _ _ | refine off_upd (by decide) ?_ | refine off_updL rfl ?_ | refine off_mix rfl ?_)
   ·skip
    have hie : i = (handsM m).length := by have := geI hi; omega
    subst hie
    have hbu : bv (handsM m).length = uselessB m k := by rw [hbv, List.take_length]; rfl
    rw [hbu]
    refine xp_exit ?_
    refine xp_seq ?_
    refine xp_region rfl ?_
    refine op_pure (pv_move (v := .bool _) rfl) ?_
    refine xp_cond rfl (fun hu => ?_) (fun hu => ?_)
    ·skip
     refine xp_region rfl ?_
     refine op_pure (pv_move (v := .slice _ _ _) rfl) ?_
     refine op_pure (pv_move (v := .int .i64 _) rfl) ?_
     refine op_buildSlice (zc := [_]) (vs := [(0, .int .i64 _)]) (cs := [_]) rfl rfl rfl rfl rfl rfl rfl fun b51 hb51 => ?_
     refine wp_norm [_, _, _] rfl ?_
     refine op_appendR 1 K2 rfl rfl rfl (fun V => rdP V (i := 2) rfl) rfl rfl rfl rfl rfl rfl rfl rfl rfl (by omega) rfl (by rw [flat_len (m := 1) (fun _ _ => rfl)]; simp; omega) fun a2 h3a E3a ha2 => ?_
     refine wp_norm [_, _, _] rfl ?_
     refine op_pure (pv_assign (v := .slice _ _ _) rfl) ?_
     refine xp_region rfl ?_
     refine op_pure (pv_move (v := .int .i64 _) rfl) ?_
     refine op_pure (pv_arith rfl (by omega)) ?_
     refine op_pure (pv_assign (v := .int .i64 _) rfl) ?_
     refine ⟨(k + 1, a2), ⟨rfl, rfl, trivial⟩, rfl, rfl, (Ext.trans (Ext.trans E_k E_i) E3a), fun h3 E3 => ⟨hkl, by rw [us, if_pos hu, List.flatMap_append]; exact ha2⟩, by first | omega | (dsimp only; omega), ?_⟩
     repeat (first | exact off_base _ _ _ | refine off_upd (by decide) ?_ | refine off_updL rfl ?_ | refine off_mix rfl ?_)
    ·skip
     refine xp_skip ?_
     refine xp_region rfl ?_
     refine op_pure (pv_move (v := .int .i64 _) rfl) ?_
     refine op_pure (pv_arith rfl (by omega)) ?_
     refine op_pure (pv_assign (v := .int .i64 _) rfl) ?_
     refine ⟨(k + 1, a0), ⟨rfl, rfl, trivial⟩, rfl, rfl, (Ext.trans E_k E_i), fun h3 E3 => ⟨hkl, by rw [us, if_neg (by rw [hu]; decide), List.append_nil]; exact K2⟩, by first | omega | (dsimp only; omega), ?_⟩
     repeat (first | exact off_base _ _ _ | refine off_upd (by decide) ?_ | refine off_updL rfl ?_ | refine off_mix rfl ?_)
  ·skip
   have hke : k = m.pins.length := by have := geI hk; omega
   subst hke
   have ul := uselessN_len m m.pins.length
   refine xp_exit ?_
   refine xp_seq ?_
   refine xp_region rfl ?_
   refine op_pure (pv_move (v := .slice _ _ _) rfl) ?_
   refine op_pure (pv_assign (v := .slice _ _ _) rfl) ?_
   refine op_pure (pv_assign (v := .int .i64 _) rfl) ?_
   refine xp_ret ?_
   refine res_list (vs := [_, _]) Try.results66 ⟨resV_tmp rfl rfl, resV_tmp rfl rfl, trivial⟩ fun V => ?_
   rw [hc', uselessL, if_pos hc']
   exact ⟨(Ext.trans (Ext.trans (Ext.trans E3 E8) E_k) (ext_wl V)), _, rfl, AccP.row (i := 1) K2 (by omega) (fun _ _ => rfl) V rfl⟩
end
end Go.Proofs.Ythphpbdmbmiaiaa
/- Walks: RodFaults. Conditions: as each theorem states. -/
namespace Go.Proofs.Ythphpbdmbmiaiaa
open Go Go.HL Go.Proofs Go.Wx Go.Rd
section
variable [Lvl]
set_option maxRecDepth 100000
theorem toldEq (f : FaultP) : pev Try.prog (Op.equalIn Op.maxDepth 87 (.agg (toldC f).toArray) (.agg (toldC f).toArray)) = some true := by
 obtain ⟨a, b, e⟩ : ∃ a b : Int, toldC f = [.int .i64 a, .int .i64 b] := by cases f <;> exact ⟨_, _, rfl⟩
 rw [e]
 have h1 := eq_struct (P := Try.prog) (t := 87) (d := 9999) (fs := [_, _]) (xs := #[.int .i64 a, .int .i64 b]) (ys := #[.int .i64 a, .int .i64 b]) (rs := [a == a, b == b]) rfl (by kernel_rfl) rfl ?_
 ·refine h1.trans ?_
  simp
 ·intro i f r hf hr
  match i, hf, hr with
  | 0, hf, hr => cases hf; cases hr; exact ⟨by decide, _, _, rfl, rfl, eq_int rfl _ _⟩
  | 1, hf, hr => cases hf; cases hr; exact ⟨by decide, _, _, rfl, rfl, eq_int rfl _ _⟩
  | i + 2, hf, hr => simp at hf
theorem useless_le (m : MachP) : (uselessL m).length < 2 ^ 40 := by
 unfold uselessL
 split
 ·rename_i h
  have := (check_ok h).pl
  have := uselessN_len m m.pins.length
  omega
 ·simp
theorem broken_le (m : MachP) (l : List Int) (a : HandP) : (brokenL m l a).length < 2 ^ 40 := by
 unfold brokenL
 split
 ·have := listN_len (soundsB m (pickL m l) a) 6
  omega
 ·simp
theorem faultsL_le (m : MachP) : (faultsL m).length < 2 ^ 20 := by
 unfold faultsL
 split
 ·rename_i h
  have M := check_ok h
  have h1 := M.levers
  have h2 := M.pl
  have h3 := M.ll
  have := faults_len m
  omega
 ·simp
set_option maxHeartbeats 16000000 in
theorem faults_runs (w : World) (m0 : MachP) (AB0 AQ0 AL0 AW0 : Option Addr) (cB0 cQ0 cL0 cW0 : Nat) (RM0 : MachR (absH w.heap) AB0 AQ0 AL0 AW0 m0) (u1 : m0.pins.length ≤ cQ0) (u2 : m0.links.length ≤ cL0) (on0 : List Int) (OA0 : Option Addr) (cO0 : Nat) (RO0 : Row (absH w.heap) 1 intC OA0 on0) (hon0 : on0.length < 2 ^ 63) (a0 : HandP) (HA0 HO0 : Option Addr) (cH0 cP0 : Nat) (RH0 : HandR (absH w.heap) HA0 HO0 a0) (l : List Int) (A : Option Addr) (c : Nat) (R : Row (absH w.heap) 1 intC A l) (hl : l.length < 2 ^ 63) :
  RunsTrue Try.prog 13 #[machV AB0 AQ0 AL0 AW0 cB0 cQ0 cL0 cW0 m0, .slice OA0 on0.length cO0, handV HA0 HO0 cH0 cP0 a0, .slice A l.length c] w := by
 letI : Lvl := ⟨true, none, none⟩
 refine runs_body Try.func13 rfl Try.ntmps13 rfl Try.results13 rfl (by kernel_rfl) fun h hh => ?_
 rw [← hh] at RM0 RO0 RH0 R
 refine xp_seq ?_
 refine xp_region rfl ?_
 refine op_box (v := .agg #[.int .i64 _, .int .i64 _, .int .i64 _, .int .i64 _, .int .i64 _, .slice _ _ _, .slice _ _ _, .slice _ _ _, .slice _ _ _]) (cs := [_, _, _, _, _, _, _, _, _]) rfl rfl fun b4 hb4 => ?_
 refine wp_norm [_] rfl ?_
 refine op_box (v := .agg #[.slice _ _ _, .slice _ _ _]) (cs := [_, _]) rfl rfl fun b6 hb6 => ?_
 refine wp_norm [_, _] rfl ?_
 refine op_pure (pv_assign (v := .bool _) rfl) ?_
 refine xp_seq ?_
 refine xp_seq ?_
 refine xp_region rfl ?_
 refine op_loadPA 0 (vs := [.int .i64 _, .int .i64 _, .int .i64 _, .int .i64 _, .int .i64 _, .slice _ _ _, .slice _ _ _, .slice _ _ _, .slice _ _ _]) rfl rfl rfl rfl rfl ?_
 refine op_loadPA 1 (vs := [.slice _ _ _, .slice _ _ _]) rfl rfl rfl rfl rfl ?_
 refine op_fn (caps := []) (vs := [.agg _, .agg _]) rfl rfl rfl (large_ok m0 a0 AB0 AQ0 AL0 AW0 HA0 HO0 cB0 cQ0 cL0 cW0 cH0 cP0 h) ?_
 rintro _ g0 G0 rfl
 rcases Bool.eq_false_or_eq_true (largeB m0 a0) with hL | hL
 ·skip
  refine op_pure (pv_move (v := .bool _) rfl) ?_
  refine guard_no rfl hL ?_
  refine guard_no rfl hL ?_
  refine guard_no rfl hL ?_
  refine op_pure (pv_pickT rfl hL (v := .bool _) rfl) ?_
  refine xp_condT rfl (rfl) ?_
  refine xp_seq ?_
  refine xp_region rfl ?_
  refine op_fn (caps := []) (vs := []) rfl rfl rfl (rod_sounding rfl g0) ?_
  rintro _ h26 E26 rfl
  refine op_pure (pv_assign (v := .bool _) rfl) ?_
  refine xp_ret ?_
  exact ⟨rfl, fun V => (Ext.trans (Ext.trans G0 E26) (ext_wl V)), rfl⟩
 ·skip
  refine op_pure (pv_move (v := .bool _) rfl) ?_
  refine guard_yes rfl hL ?_
  refine op_pure (pv_move (v := .slice _ _ _) rfl) ?_
  refine guard_yes rfl hL ?_
  refine op_pure (pv_len rfl rfl) ?_
  refine guard_yes rfl hL ?_
  refine op_pure (pv_of (v := .bool _) rfl) ?_
  refine op_pure (pv_pickF rfl hL (v := .bool _) rfl) ?_
  refine xp_cond rfl (fun hN => ?_) (fun hN => ?_)
  ·skip
   refine xp_seq ?_
   refine xp_region rfl ?_
   refine op_fn (caps := []) (vs := []) rfl rfl rfl (rod_sounding rfl g0) ?_
   rintro _ h26 E26 rfl
   refine op_pure (pv_assign (v := .bool _) rfl) ?_
   refine xp_ret ?_
   exact ⟨rfl, fun V => (Ext.trans (Ext.trans G0 E26) (ext_wl V)), rfl⟩
  ·skip
   obtain ⟨S0, SH0⟩ := large_sml hL
   have lon0 : on0.length < 2 ^ 19 := by have := of_decide_eq_false hN; omega
   refine xp_skip ?_
   refine xp_seq ?_
   refine xp_region rfl ?_
   refine op_pure (pv_move (v := .slice _ _ _) rfl) ?_
   refine op_fnMM [_, _] [] [] rfl rfl rfl ((NewPot_ok l hl A c g0 (R.ext G0))) ?_
   rintro _ h1 _ E1 ⟨b, x, rfl, rfl⟩
   refine wp_norm [_, _, _] rfl ?_
   refine op_pure (pv_assign (v := .pointer _) rfl) ?_
   refine xp_seq ?_
   refine xp_region rfl ?_
   refine op_pure (pv_move (v := .pointer _) rfl) ?_
   refine op_fnMM [_, _] [_] [] (vs := _) rfl rfl rfl ((MachineOf_okC b x 4 6 3 (by omega) (by omega) (by omega) h1)) ?_
   rintro _ h2 _ E2 ⟨x2, m, rfl, VM, Md, hCap⟩
   refine wp_norm [_, _, _] rfl ?_
   obtain ⟨AB, AQ, AL, AW, cB, cQ, cL, cW, rfl, RM⟩ := VM.open
   obtain ⟨hcQ, hcL⟩ := hCap _ _ _ _ _ _ _ _ _ rfl
   have M := Md.ok
   have mbl := M.bl
   have mlv := M.levers
   have mrg := M.regs
   have mpl := M.pl
   have mll := M.ll
   have fln := faults_len m
   refine op_alloc (cs := [_, _, _, _, _, _, _, _, _]) rfl rfl fun b10 hb10 => ?_
   refine wp_norm [_, _, _, _] rfl ?_
   refine op_storeP 3 (v := .agg #[.int .i64 _, .int .i64 _, .int .i64 _, .int .i64 _, .int .i64 _, .slice _ _ _, .slice _ _ _, .slice _ _ _, .slice _ _ _]) (vs := [_, _, _, _, _, _, _, _, _]) (c' := [_, _, _, _, _, _, _, _, _]) rfl rfl rfl rfl rfl rfl rfl rfl rfl ?_
   refine wp_norm [_, _, _, _] rfl ?_
   refine xp_seq ?_
   refine xp_region rfl ?_
   refine op_loadPA 3 (vs := [.int .i64 _, .int .i64 _, .int .i64 _, .int .i64 _, .int .i64 _, .slice _ _ _, .slice _ _ _, .slice _ _ _, .slice _ _ _]) rfl rfl rfl rfl rfl ?_
   refine op_fn (caps := []) (vs := [.agg #[.int .i64 _, .int .i64 _, .int .i64 _, .int .i64 _, .int .i64 _, .slice _ _ _, .slice _ _ _, .slice _ _ _, .slice _ _ _]]) rfl rfl rfl (FaultsR_ok m M AB AQ AL AW cB cQ cL cW h2 (RM.ext (Ext.refl _))) ?_
   rintro _ h3 E3 ⟨_, rfl, AF, cF, rfl, RF⟩
   refine op_pure (pv_move (v := .tuple #[.slice _ _ _, .int .i64 _]) rfl) ?_
   refine op_pure (pv_of (v := .slice _ _ _) rfl) ?_
   refine op_pure (pv_of (v := .int .i64 _) rfl) ?_
   refine op_pure (pv_assign (v := .slice _ _ _) rfl) ?_
   refine op_pure (pv_assign (v := .int .i64 _) rfl) ?_
   refine xp_seq ?_
   refine xp_dw [false, false, true, false] rfl rfl rfl ?_
   refine dw_load (i := 0) rfl (by decide +kernel) ?_
   refine op_loadPA 0 (vs := [.int .i64 _, .int .i64 _, .int .i64 _, .int .i64 _, .int .i64 _, .slice _ _ _, .slice _ _ _, .slice _ _ _, .slice _ _ _]) rfl rfl rfl rfl rfl ?_
   refine dw_load (i := 1) rfl (by decide +kernel) ?_
   refine op_loadPA 3 (vs := [.int .i64 _, .int .i64 _, .int .i64 _, .int .i64 _, .int .i64 _, .slice _ _ _, .slice _ _ _, .slice _ _ _, .slice _ _ _]) rfl rfl rfl rfl rfl ?_
   refine dw_load (i := 2) rfl (by decide +kernel) ?_
   refine op_loadPA 3 (vs := [.int .i64 _, .int .i64 _, .int .i64 _, .int .i64 _, .int .i64 _, .slice _ _ _, .slice _ _ _, .slice _ _ _, .slice _ _ _]) rfl rfl rfl rfl rfl ?_
   refine dw_pure (i := 4) rfl (by decide +kernel) (pv_move (v := .slice _ _ _) rfl) ?_
   refine dw_pure (i := 5) rfl (by decide +kernel) (pv_move (v := .pointer _) rfl) ?_
   refine dw_pure (i := 6) rfl (by decide +kernel) (pv_move (v := .slice _ _ _) rfl) ?_
   refine dw_pure (i := 7) rfl (by decide +kernel) (pv_len rfl rfl) ?_
   refine dw_pure (i := 9) rfl (by decide +kernel) (pv_move (v := .slice _ _ _) rfl) ?_
   refine dw_load (i := 11) rfl (by decide +kernel) ?_
   refine op_loadPA 1 (vs := [.slice _ _ _, .slice _ _ _]) rfl rfl rfl rfl rfl ?_
   refine dw_pure (i := 12) rfl (by decide +kernel) (pv_move (v := .pointer _) rfl) ?_
   refine dw_load (i := 13) rfl (by decide +kernel) ?_
   refine op_loadPA 3 (vs := [.int .i64 _, .int .i64 _, .int .i64 _, .int .i64 _, .int .i64 _, .slice _ _ _, .slice _ _ _, .slice _ _ _, .slice _ _ _]) rfl rfl rfl rfl rfl ?_
   refine dw_load (i := 15) rfl (by decide +kernel) ?_
   refine op_loadPA 1 (vs := [.slice _ _ _, .slice _ _ _]) rfl rfl rfl rfl rfl ?_
   refine dw_eff (i := 8) rfl (by decide +kernel) ?_
   refine op_fnMM [_, _] [_] [_] (vs := [.pointer _, .int .i64 _]) rfl rfl rfl ((Pick_ok b x2 (faultsM m).length (by omega) h3)) ?_
   rintro _ h4 _ E4 ⟨x3, o1, rfl, ⟨A1, c1, rfl, R1⟩, k1, k2, k3⟩
   refine ⟨ext_wlm E4 _, ?_⟩
   refine dw_norm [_, _, _, _] rfl ?_
   refine dw_eff (i := 14) rfl (by decide +kernel) ?_
   refine op_fnMM [_, _] [_] [_] (vs := [.pointer _, .agg _]) rfl rfl rfl ((HandOf_ok b x3 m (by omega) (by omega) AB AQ AL AW cB cQ cL cW h4)) ?_
   rintro _ h5 _ E5 ⟨x5, a, rfl, VH, H⟩
   refine ⟨ext_wlm E5 _, ?_⟩
   refine dw_norm [_, _, _, _] rfl ?_
   obtain ⟨HA, OA, cH, cO, rfl, RH⟩ := VH.open
   have SHa := HOK.sml M H
   refine dw_eff (i := 3) rfl (by decide +kernel) ?_
   refine op_buildSliceR (zc := [_, _, _, _, _, _, _, _, _]) [[.int .i64 _, .int .i64 _, .int .i64 _, .int .i64 _, .int .i64 _, .slice _ _ _, .slice _ _ _, .slice _ _ _, .slice _ _ _], [.int .i64 _, .int .i64 _, .int .i64 _, .int .i64 _, .int .i64 _, .slice _ _ _, .slice _ _ _, .slice _ _ _, .slice _ _ _], [.int .i64 _, .int .i64 _, .int .i64 _, .int .i64 _, .int .i64 _, .slice _ _ _, .slice _ _ _, .slice _ _ _, .slice _ _ _]] rfl rfl rfl rfl rfl rfl rfl rfl fun b54 hb54 => ?_
   refine ⟨ext_newM hb54 _, ?_⟩
   refine dw_norm [_, _, _, _, _] rfl ?_
   refine dw_pure (i := 17) rfl (by decide +kernel) (pv_assign (v := .slice _ _ _) rfl) ?_
   refine dw_eff (i := 10) rfl (by decide +kernel) ?_
   refine op_buildSlice (zc := [_]) (vs := [(0, .slice _ _ _), (1, .slice _ _ _), (2, .slice _ _ _)]) (cs := [_, _, _]) rfl rfl rfl rfl rfl rfl rfl fun b61 hb61 => ?_
   refine ⟨ext_newM hb61 _, ?_⟩
   refine dw_norm [_, _, _, _, _, _] rfl ?_
   refine dw_pure (i := 18) rfl (by decide +kernel) (pv_assign (v := .slice _ _ _) rfl) ?_
   refine dw_eff (i := 16) rfl (by decide +kernel) ?_
   refine op_buildSlice (zc := [_, _]) (vs := [(0, .agg #[.slice _ _ _, .slice _ _ _]), (1, .agg #[.slice _ _ _, .slice _ _ _]), (2, .agg #[.slice _ _ _, .slice _ _ _])]) (cs := [_, _, _, _, _, _]) rfl rfl rfl rfl rfl rfl rfl fun b67 hb67 => ?_
   refine ⟨ext_newM hb67 _, ?_⟩
   refine dw_norm [_, _, _, _, _, _, _] rfl ?_
   refine dw_pure (i := 19) rfl (by decide +kernel) (pv_assign (v := .slice _ _ _) rfl) ?_
   refine dw_end rfl ?_
   refine goes_pub 4 rfl ?_
   intro g6 G6 P6
   refine goes_pub 5 rfl ?_
   intro g7 G7 P7
   refine goes_pub 6 rfl ?_
   intro g8 G8 P8
   obtain ⟨ms, hms⟩ : ∃ x : List MachP, x = [m0, m, m] := ⟨_, rfl⟩
   obtain ⟨os, hos⟩ : ∃ x : List (List Int), x = [on0, o1, on0] := ⟨_, rfl⟩
   obtain ⟨hs, hhs⟩ : ∃ x : List HandP, x = [a0, a, a0] := ⟨_, rfl⟩
   have hml : ms.length = 3 := by rw [hms]; rfl
   have hol : os.length = 3 := by rw [hos]; rfl
   have hhl : hs.length = 3 := by rw [hhs]; rfl
   have lo1 : o1.length < 2 ^ 19 := by omega
   have hmS : ∀ x ∈ ms, Sml x := by rw [hms]; exact all3 S0 Md.sml Md.sml
   have hoS : ∀ x ∈ os, x.length < 2 ^ 19 := by rw [hos]; exact all3 lon0 lo1 lon0
   have hhS : ∀ x ∈ hs, SmlH x := by rw [hhs]; exact all3 SH0 SHa SH0
   have R6 := row_of_block (enc := id) (m := 9) (l := [machC AB0 AQ0 AL0 AW0 cB0 cQ0 cL0 cW0 m0, machC AB AQ AL AW cB cQ cL cW m, machC AB AQ AL AW cB cQ cL cW m]) (all3 rfl rfl rfl) P6
   have R7 := row_of_block (enc := id) (m := 1) (l := [[.slice OA0 on0.length cO0], [.slice A1 o1.length c1], [.slice OA0 on0.length cO0]]) (all3 rfl rfl rfl) P7
   have R8 := row_of_block (enc := id) (m := 2) (l := [[.slice HA0 a0.buttons.length cH0, .slice HO0 a0.on.length cP0], [.slice HA a.buttons.length cH, .slice OA a.on.length cO], [.slice HA0 a0.buttons.length cH0, .slice HO0 a0.on.length cP0]]) (all3 rfl rfl rfl) P8
   have EL6 : Els g8 TMa ms [machC AB0 AQ0 AL0 AW0 cB0 cQ0 cL0 cW0 m0, machC AB AQ AL AW cB cQ cL cW m, machC AB AQ AL AW cB cQ cL cW m] := by
    rw [hms]
    exact els3 ⟨_, _, _, _, _, _, _, _, rfl, RM0.ext (Ext.trans (Ext.trans (Ext.trans (Ext.trans (Ext.trans (Ext.trans (Ext.trans (Ext.trans G0 E1) E2) E3) E4) E5) G6) G7) G8), u1, u2⟩ ⟨_, _, _, _, _, _, _, _, rfl, RM.ext (Ext.trans (Ext.trans (Ext.trans (Ext.trans (Ext.trans E3 E4) E5) G6) G7) G8), hcQ, hcL⟩ ⟨_, _, _, _, _, _, _, _, rfl, RM.ext (Ext.trans (Ext.trans (Ext.trans (Ext.trans (Ext.trans E3 E4) E5) G6) G7) G8), hcQ, hcL⟩
   have EL7 : Els g8 TL os [[.slice OA0 on0.length cO0], [.slice A1 o1.length c1], [.slice OA0 on0.length cO0]] := by
    rw [hos]
    exact els3 (tl_of (RO0.ext (Ext.trans (Ext.trans (Ext.trans (Ext.trans (Ext.trans (Ext.trans (Ext.trans (Ext.trans G0 E1) E2) E3) E4) E5) G6) G7) G8))) (tl_of (R1.ext (Ext.trans (Ext.trans (Ext.trans E5 G6) G7) G8))) (tl_of (RO0.ext (Ext.trans (Ext.trans (Ext.trans (Ext.trans (Ext.trans (Ext.trans (Ext.trans (Ext.trans G0 E1) E2) E3) E4) E5) G6) G7) G8)))
   have EL8 : Els g8 TH hs [[.slice HA0 a0.buttons.length cH0, .slice HO0 a0.on.length cP0], [.slice HA a.buttons.length cH, .slice OA a.on.length cO], [.slice HA0 a0.buttons.length cH0, .slice HO0 a0.on.length cP0]] := by
    rw [hhs]
    exact els3 (th_of (RH0.ext (Ext.trans (Ext.trans (Ext.trans (Ext.trans (Ext.trans (Ext.trans (Ext.trans (Ext.trans G0 E1) E2) E3) E4) E5) G6) G7) G8))) (th_of (RH.ext (Ext.trans (Ext.trans G6 G7) G8))) (th_of (RH0.ext (Ext.trans (Ext.trans (Ext.trans (Ext.trans (Ext.trans (Ext.trans (Ext.trans (Ext.trans G0 E1) E2) E3) E4) E5) G6) G7) G8)))
   generalize [machC AB0 AQ0 AL0 AW0 cB0 cQ0 cL0 cW0 m0, machC AB AQ AL AW cB cQ cL cW m, machC AB AQ AL AW cB cQ cL cW m] = cs6 at R6 EL6
   generalize [[Value.slice OA0 on0.length cO0], [.slice A1 o1.length c1], [.slice OA0 on0.length cO0]] = cs7 at R7 EL7
   generalize [[Value.slice HA0 a0.buttons.length cH0, .slice HO0 a0.on.length cP0], [.slice HA a.buttons.length cH, .slice OA a.on.length cO], [.slice HA0 a0.buttons.length cH0, .slice HO0 a0.on.length cP0]] = cs8 at R8 EL8
   refine xp_seq ?_
   refine xp_seq ?_
   refine xp_region rfl ?_
   refine op_pure (pv_assign (v := .int .i64 _) rfl) ?_
   refine xp_block ?_
   refine xp_loopB [8, 16, 17, 18, 19, 20, 21, 22, 23, 24, 25, 26, 27, 28, 29, 30, 31, 32, 68, 69, 70, 71, 72, 73, 74, 75, 76, 77, 78, 79, 80, 81, 82, 83, 84, 85, 86, 87, 88, 89, 90, 91, 92, 93, 94, 95, 96, 97, 98, 99, 100, 101, 102, 103, 104, 105, 106, 107, 108, 109, 110, 111, 112, 113, 114, 115, 116, 117, 118, 119, 120, 121, 122, 123, 124, 125, 126, 127, 128, 129, 130, 131, 132, 133, 134, 135, 136, 137, 138, 139, 140, 141, 142, 143, 144, 145, 146, 147, 148, 149, 150, 151, 152, 153, 154, 155, 156, 157, 158, 159, 160, 161, 162, 163, 164, 165, 166, 167, 168, 169, 170, 171, 172, 173, 174, 175, 176, 177, 178, 179, 180, 181, 182, 183, 184, 185, 186, 187, 188, 189, 190, 191, 192, 193, 194, 195, 196, 197, 198, 199, 200, 201, 202, 203, 204, 205, 206, 207, 208, 209, 210, 211] 7 (α := Nat) (fun i => [(16, .int .i64 i)]) (fun i => _) (fun i h_i => i ≤ 3) (fun i => 3 - i) (0) ⟨rfl, trivial⟩ (rfl) (Nat.zero_le _) ?_
   rintro i T1 h_i E_i J_i
   refine goes_norm [_, _, _, _, _, _, _] rfl ?_
   refine xp_seq ?_
   refine xp_seq ?_
   refine xp_region rfl ?_
   refine op_pure (pv_move (v := .int .i64 _) rfl) ?_
   refine op_pure (pv_move (v := .slice _ _ _) rfl) ?_
   refine op_pure (pv_len rfl rfl) ?_
   refine op_pure (pv_of (v := .bool _) rfl) ?_
   refine xp_cond rfl (fun hi => ?_) (fun hi => ?_)
   ·skip
    have hil : i < 3 := by have := of_decide_eq_true hi; omega
    have him : i < ms.length := by omega
    have hio : i < os.length := by omega
    have hih : i < hs.length := by omega
    have SM := hmS _ (List.getElem_mem him)
    have So := hoS _ (List.getElem_mem hio)
    have Sh := hhS _ (List.getElem_mem hih)
    have SMw := SM.w
    have Shb := Sh.b
    have Sho := Sh.o
    obtain ⟨hic, xB, xQ, xL, xW, yB, yQ, yL, yW, e6, RMi, hq1, hq2⟩ := (EL6.ext TMa.mono E_i).at him
    obtain ⟨hid, w7, e7, ⟨xO, yO, rfl, ROi⟩⟩ := (EL7.ext TL.mono E_i).at hio
    obtain ⟨hie, B0, O0, e8, ⟨xH, yH, rfl, rh1⟩, ⟨xP, yP, rfl, rh2⟩⟩ := (EL8.ext TH.mono E_i).at hih
    obtain ⟨gM, oM, hA, hcM⟩ := (R6.ext (Ext.trans (Ext.trans G7 G8) E_i)).at (by omega) hic
    obtain ⟨gO, oO, hO, hcO⟩ := (R7.ext (Ext.trans G8 E_i)).at (by omega) hid
    obtain ⟨gH, oH, hH, hcH⟩ := (R8.ext E_i).at (by omega) hie
    have hcM : Cells h_i gM (oM + i * 9) (machC xB xQ xL xW yB yQ yL yW ms[i]) := by rw [← e6]; exact hcM
    have hcO : Cells h_i gO (oO + i * 1) [.slice xO os[i].length yO] := by rw [← e7]; exact hcO
    have hcH : Cells h_i gH (oH + i * 2) [.slice xH hs[i].buttons.length yH, .slice xP hs[i].on.length yP] := by rw [← e8]; exact hcH
    have RHi : HandR h_i xH xP hs[i] := ⟨rh1, rh2⟩
    generalize ms[i] = mi at *
    generalize os[i] = oi at *
    generalize hs[i] = ai at *
    refine xp_skip ?_
    refine xp_seq ?_
    refine xp_block ?_
    refine xp_seq ?_
    refine xp_dw [] rfl rfl rfl ?_
    refine dw_pure (i := 0) rfl (by decide +kernel) (pv_move (v := .slice _ _ _) rfl) ?_
    refine dw_pure (i := 1) rfl (by decide +kernel) (pv_move (v := .int .i64 _) rfl) ?_
    refine dw_pure (i := 2) rfl (by decide +kernel) (pv_indexE (m := 9) rfl hA rfl rfl rfl (by omega) (by omega)) ?_
    refine dw_load (i := 3) rfl (by decide +kernel) ?_
    refine op_loadA rfl rfl rfl rfl (hcM.ext (Ext.refl _)) ?_
    refine dw_pure (i := 5) rfl (by decide +kernel) (pv_move (v := .slice _ _ _) rfl) ?_
    refine dw_pure (i := 6) rfl (by decide +kernel) (pv_move (v := .int .i64 _) rfl) ?_
    refine dw_pure (i := 7) rfl (by decide +kernel) (pv_indexE (m := 1) rfl hO rfl rfl rfl (by omega) (by omega)) ?_
    refine dw_load (i := 8) rfl (by decide +kernel) ?_
    refine op_load (v := .slice _ _ _) rfl rfl (((hcO.ext (Ext.refl _))) 0 _ rfl) ?_
    refine dw_pure (i := 10) rfl (by decide +kernel) (pv_move (v := .slice _ _ _) rfl) ?_
    refine dw_pure (i := 11) rfl (by decide +kernel) (pv_move (v := .int .i64 _) rfl) ?_
    refine dw_pure (i := 12) rfl (by decide +kernel) (pv_indexE (m := 2) rfl hH rfl rfl rfl (by omega) (by omega)) ?_
    refine dw_load (i := 13) rfl (by decide +kernel) ?_
    refine op_loadA rfl rfl rfl rfl (hcH.ext (Ext.refl _)) ?_
    refine dw_eff (i := 4) rfl (by decide +kernel) ?_
    refine op_fn (caps := []) (vs := [.agg _]) rfl rfl rfl (CopyMachine_ok mi SM xB xQ xL xW yB yQ yL yW h_i (RMi.ext (Ext.refl _))) ?_
    rintro _ k1 F1 ⟨zB, zQ, zL, zW, wB, wQ, wL, wW, rfl, RMo⟩
    refine ⟨ext_wlm F1 _, ?_⟩
    refine dw_eff (i := 9) rfl (by decide +kernel) ?_
    refine op_fn (caps := []) (vs := [.slice _ _ _]) rfl rfl rfl (Ints_ok oi xO yO k1 (ROi.ext F1) (by omega)) ?_
    rintro _ k2 F2 ⟨zO, wO, rfl, ROo⟩
    refine ⟨ext_wlm F2 _, ?_⟩
    refine dw_last (i := 14) rfl (by decide +kernel) (by decide +kernel) ?_
    refine op_fn (caps := []) (vs := [.agg _]) rfl rfl rfl (CopyHand_ok ai xH xP yH yP k2 (RHi.ext (Ext.trans F1 F2)) Shb Sho) ?_
    rintro _ k3 F3 VHo
    obtain ⟨zH, zP, wH, wP, rfl, RHo⟩ := VHo.open
    refine dw_eff (i := 15) rfl (by decide +kernel) ?_
    refine op_alloc (cs := [_, _, _, _, _, _, _, _, _]) rfl rfl fun b17 hb17 => ?_
    refine ⟨ext_new hb17 _, ?_⟩
    refine dw_norm [_, _, _, _, _, _, _, _] rfl ?_
    refine dw_eff (i := 16) rfl (by decide +kernel) ?_
    refine op_alloc (cs := [_, _]) rfl rfl fun b19 hb19 => ?_
    refine ⟨ext_new hb19 _, ?_⟩
    refine dw_norm [_, _, _, _, _, _, _, _, _] rfl ?_
    refine dw_last (i := 17) rfl (by decide +kernel) (by decide +kernel) ?_
    refine op_storeP 7 (v := .agg #[.int .i64 _, .int .i64 _, .int .i64 _, .int .i64 _, .int .i64 _, .slice _ _ _, .slice _ _ _, .slice _ _ _, .slice _ _ _]) (vs := [_, _, _, _, _, _, _, _, _]) (c' := [_, _, _, _, _, _, _, _, _]) rfl rfl rfl rfl rfl rfl rfl rfl rfl ?_
    refine dw_norm [_, _, _, _, _, _, _, _, _] rfl ?_
    refine dw_pure (i := 18) rfl (by decide +kernel) (pv_assign (v := .slice _ _ _) rfl) ?_
    refine dw_last (i := 19) rfl (by decide +kernel) (by decide +kernel) ?_
    refine op_storeP 8 (v := .agg #[.slice _ _ _, .slice _ _ _]) (vs := [_, _]) (c' := [_, _]) rfl rfl rfl rfl rfl rfl rfl rfl rfl ?_
    refine dw_norm [_, _, _, _, _, _, _, _, _] rfl ?_
    refine dw_end rfl ?_
    refine xp_seq ?_
    refine xp_region rfl ?_
    refine op_loadPA 7 (vs := [.int .i64 _, .int .i64 _, .int .i64 _, .int .i64 _, .int .i64 _, .slice _ _ _, .slice _ _ _, .slice _ _ _, .slice _ _ _]) rfl rfl rfl rfl rfl ?_
    refine op_fn (caps := []) (vs := [.agg _]) rfl rfl rfl (Useless_ok rfl mi zB zQ zL zW wB wQ wL wW k3 (RMo.ext (Ext.trans F2 F3)) (by omega)) ?_
    rintro _ k4 F4 ⟨_, rfl, D4, d4, rfl, RS4⟩
    refine op_pure (pv_move (v := .tuple #[.slice _ _ _, .int .i64 _]) rfl) ?_
    refine op_pure (pv_of (v := .slice _ _ _) rfl) ?_
    refine op_pure (pv_of (v := .int .i64 _) rfl) ?_
    refine op_pure (pv_assign (v := .slice _ _ _) rfl) ?_
    refine op_pure (pv_assign (v := .int .i64 _) rfl) ?_
    refine xp_seq ?_
    refine xp_region rfl ?_
    refine op_pure (pv_move (v := .slice _ _ _) rfl) ?_
    refine op_pure (pv_move (v := .int .i64 _) rfl) ?_
    refine op_pure (pv_indexE (m := 9) rfl hA rfl rfl rfl (by omega) (by omega)) ?_
    refine op_loadA rfl rfl rfl rfl (hcM.ext (Ext.trans (Ext.trans (Ext.trans F1 F2) F3) F4)) ?_
    refine op_fn (caps := []) (vs := [.agg _]) rfl rfl rfl (UselessG_ok mi SM xB xQ xL xW yB yQ yL yW hq1 k4 (RMi.ext (Ext.trans (Ext.trans (Ext.trans F1 F2) F3) F4))) ?_
    rintro _ k5 F5 ⟨_, rfl, D5, d5, rfl, RS5⟩
    refine op_pure (pv_move (v := .tuple #[.slice _ _ _, .int .i64 _]) rfl) ?_
    refine op_pure (pv_of (v := .slice _ _ _) rfl) ?_
    refine op_pure (pv_of (v := .int .i64 _) rfl) ?_
    refine op_pure (pv_assign (v := .slice _ _ _) rfl) ?_
    refine op_pure (pv_assign (v := .int .i64 _) rfl) ?_
    refine xp_seq ?_
    refine xp_region rfl ?_
    refine op_loadPA 7 (vs := [.int .i64 _, .int .i64 _, .int .i64 _, .int .i64 _, .int .i64 _, .slice _ _ _, .slice _ _ _, .slice _ _ _, .slice _ _ _]) rfl rfl rfl rfl rfl ?_
    refine op_fn (caps := []) (vs := [.agg _]) rfl rfl rfl (Faults_ok mi zB zQ zL zW wB wQ wL wW k5 (RMo.ext (Ext.trans (Ext.trans (Ext.trans F2 F3) F4) F5)) (by omega)) ?_
    rintro _ k6 F6 ⟨_, rfl, D6, d6, rfl, RS6⟩
    refine op_pure (pv_move (v := .tuple #[.slice _ _ _, .int .i64 _]) rfl) ?_
    refine op_pure (pv_of (v := .slice _ _ _) rfl) ?_
    refine op_pure (pv_of (v := .int .i64 _) rfl) ?_
    refine op_pure (pv_assign (v := .slice _ _ _) rfl) ?_
    refine op_pure (pv_assign (v := .int .i64 _) rfl) ?_
    refine xp_seq ?_
    refine xp_region rfl ?_
    refine op_pure (pv_move (v := .slice _ _ _) rfl) ?_
    refine op_pure (pv_move (v := .int .i64 _) rfl) ?_
    refine op_pure (pv_indexE (m := 9) rfl hA rfl rfl rfl (by omega) (by omega)) ?_
    refine op_loadA rfl rfl rfl rfl (hcM.ext (Ext.trans (Ext.trans (Ext.trans (Ext.trans (Ext.trans F1 F2) F3) F4) F5) F6)) ?_
    refine op_fn (caps := []) (vs := [.agg _]) rfl rfl rfl (FaultsG_ok mi SM xB xQ xL xW yB yQ yL yW k6 (RMi.ext (Ext.trans (Ext.trans (Ext.trans (Ext.trans (Ext.trans F1 F2) F3) F4) F5) F6))) ?_
    rintro _ k7 F7 ⟨_, rfl, D7, d7, rfl, RS7⟩
    refine op_pure (pv_move (v := .tuple #[.slice _ _ _, .int .i64 _]) rfl) ?_
    refine op_pure (pv_of (v := .slice _ _ _) rfl) ?_
    refine op_pure (pv_of (v := .int .i64 _) rfl) ?_
    refine op_pure (pv_assign (v := .slice _ _ _) rfl) ?_
    refine op_pure (pv_assign (v := .int .i64 _) rfl) ?_
    refine xp_seq ?_
    refine xp_region rfl ?_
    refine op_loadPA 7 (vs := [.int .i64 _, .int .i64 _, .int .i64 _, .int .i64 _, .int .i64 _, .slice _ _ _, .slice _ _ _, .slice _ _ _, .slice _ _ _]) rfl rfl rfl rfl rfl ?_
    refine op_pure (pv_move (v := .slice _ _ _) rfl) ?_
    refine op_loadPA 8 (vs := [.slice _ _ _, .slice _ _ _]) rfl rfl rfl rfl rfl ?_
    refine op_fn (caps := []) (vs := [.agg _, .slice _ _ _, .agg _]) rfl rfl rfl (Broken_ok rfl mi oi ai zB zQ zL zW zO zH zP wB wQ wL wW wO wH wP k7 (RMo.ext (Ext.trans (Ext.trans (Ext.trans (Ext.trans (Ext.trans F2 F3) F4) F5) F6) F7)) (ROo.ext (Ext.trans (Ext.trans (Ext.trans (Ext.trans F3 F4) F5) F6) F7)) (RHo.ext (Ext.trans (Ext.trans (Ext.trans F4 F5) F6) F7)) (by omega) So (by omega) (by omega)) ?_
    rintro _ k8 F8 ⟨_, rfl, D8, d8, rfl, RS8⟩
    refine op_pure (pv_move (v := .tuple #[.slice _ _ _, .int .i64 _]) rfl) ?_
    refine op_pure (pv_of (v := .slice _ _ _) rfl) ?_
    refine op_pure (pv_of (v := .int .i64 _) rfl) ?_
    refine op_pure (pv_assign (v := .slice _ _ _) rfl) ?_
    refine op_pure (pv_assign (v := .int .i64 _) rfl) ?_
    refine xp_seq ?_
    refine xp_dw [] rfl rfl rfl ?_
    refine dw_pure (i := 0) rfl (by decide +kernel) (pv_move (v := .slice _ _ _) rfl) ?_
    refine dw_pure (i := 1) rfl (by decide +kernel) (pv_move (v := .int .i64 _) rfl) ?_
    refine dw_pure (i := 2) rfl (by decide +kernel) (pv_indexE (m := 9) rfl hA rfl rfl rfl (by omega) (by omega)) ?_
    refine dw_load (i := 3) rfl (by decide +kernel) ?_
    refine op_loadA rfl rfl rfl rfl (hcM.ext (Ext.trans (Ext.trans (Ext.trans (Ext.trans (Ext.trans (Ext.trans (Ext.trans F1 F2) F3) F4) F5) F6) F7) F8)) ?_
    refine dw_pure (i := 4) rfl (by decide +kernel) (pv_move (v := .slice _ _ _) rfl) ?_
    refine dw_pure (i := 5) rfl (by decide +kernel) (pv_move (v := .int .i64 _) rfl) ?_
    refine dw_pure (i := 6) rfl (by decide +kernel) (pv_indexE (m := 1) rfl hO rfl rfl rfl (by omega) (by omega)) ?_
    refine dw_load (i := 7) rfl (by decide +kernel) ?_
    refine op_load (v := .slice _ _ _) rfl rfl (((hcO.ext (Ext.trans (Ext.trans (Ext.trans (Ext.trans (Ext.trans (Ext.trans (Ext.trans F1 F2) F3) F4) F5) F6) F7) F8))) 0 _ rfl) ?_
    refine dw_pure (i := 8) rfl (by decide +kernel) (pv_move (v := .slice _ _ _) rfl) ?_
    refine dw_pure (i := 9) rfl (by decide +kernel) (pv_move (v := .int .i64 _) rfl) ?_
    refine dw_pure (i := 10) rfl (by decide +kernel) (pv_indexE (m := 2) rfl hH rfl rfl rfl (by omega) (by omega)) ?_
    refine dw_load (i := 11) rfl (by decide +kernel) ?_
    refine op_loadA rfl rfl rfl rfl (hcH.ext (Ext.trans (Ext.trans (Ext.trans (Ext.trans (Ext.trans (Ext.trans (Ext.trans F1 F2) F3) F4) F5) F6) F7) F8)) ?_
    refine dw_last (i := 12) rfl (by decide +kernel) (by decide +kernel) ?_
    refine op_fn (caps := []) (vs := [.agg _, .slice _ _ _, .agg _]) rfl rfl rfl (BrokenG_ok mi SM oi (by omega) ai Sh xB xQ xL xW xO xH xP yB yQ yL yW yO yH yP hq1 hq2 k8 (RMi.ext (Ext.trans (Ext.trans (Ext.trans (Ext.trans (Ext.trans (Ext.trans (Ext.trans F1 F2) F3) F4) F5) F6) F7) F8)) (ROi.ext (Ext.trans (Ext.trans (Ext.trans (Ext.trans (Ext.trans (Ext.trans (Ext.trans F1 F2) F3) F4) F5) F6) F7) F8)) (RHi.ext (Ext.trans (Ext.trans (Ext.trans (Ext.trans (Ext.trans (Ext.trans (Ext.trans F1 F2) F3) F4) F5) F6) F7) F8))) ?_
    rintro _ k9 F9 ⟨_, rfl, D9, d9, rfl, RS9⟩
    have n1 : (chkM mi != chkM mi) = false := by simp
    have n2 : (brokenE mi oi ai != brokenE mi oi ai) = false := by simp
    have n3 : (((faultsL mi).length : Int) != ((faultsL mi).length : Int)) = false := by simp
    have l1 := useless_le mi
    have l2 := broken_le mi oi ai
    have l3 := faultsL_le mi
    refine dw_pure (i := 13) rfl (by decide +kernel) (pv_move (v := .tuple #[.slice _ _ _, .int .i64 _]) rfl) ?_
    refine dw_pure (i := 14) rfl (by decide +kernel) (pv_of (v := .slice _ _ _) rfl) ?_
    refine dw_pure (i := 15) rfl (by decide +kernel) (pv_of (v := .int .i64 _) rfl) ?_
    refine dw_pure (i := 16) rfl (by decide +kernel) (pv_assign (v := .slice _ _ _) rfl) ?_
    refine dw_pure (i := 17) rfl (by decide +kernel) (pv_assign (v := .int .i64 _) rfl) ?_
    refine dw_end rfl ?_
    refine xp_seq ?_
    refine xp_seq ?_
    refine xp_dw [] rfl rfl rfl ?_
    refine dw_pure (i := 0) rfl (by decide +kernel) (pv_move (v := .int .i64 _) rfl) ?_
    refine dw_pure (i := 1) rfl (by decide +kernel) (pv_move (v := .int .i64 _) rfl) ?_
    refine dw_pure (i := 2) rfl (by decide +kernel) (pv_of (v := .bool _) rfl) ?_
    refine dw_pure (i := 3) rfl (by decide +kernel) (pv_move (v := .bool _) rfl) ?_
    refine dw_pureG (i := 4) rfl (by decide +kernel) rfl n1 (pv_move (v := .int .i64 _) rfl) ?_
    refine dw_pureG (i := 5) rfl (by decide +kernel) rfl n1 (pv_move (v := .int .i64 _) rfl) ?_
    refine dw_pureG (i := 6) rfl (by decide +kernel) rfl n1 (pv_of (v := .bool _) rfl) ?_
    refine dw_pure (i := 7) rfl (by decide +kernel) (pv_pickF rfl n1 (v := .bool _) rfl) ?_
    refine dw_pure (i := 8) rfl (by decide +kernel) (pv_move (v := .bool _) rfl) ?_
    refine dw_pureG (i := 9) rfl (by decide +kernel) rfl n1 (pv_move (v := .int .i64 _) rfl) ?_
    refine dw_pureG (i := 10) rfl (by decide +kernel) rfl n1 (pv_move (v := .int .i64 _) rfl) ?_
    refine dw_pureG (i := 11) rfl (by decide +kernel) rfl n1 (pv_of (v := .bool _) rfl) ?_
    refine dw_pure (i := 12) rfl (by decide +kernel) (pv_pickF rfl n1 (v := .bool _) rfl) ?_
    refine dw_pure (i := 13) rfl (by decide +kernel) (pv_move (v := .bool _) rfl) ?_
    refine dw_pureG (i := 14) rfl (by decide +kernel) rfl n2 (pv_move (v := .slice _ _ _) rfl) ?_
    refine dw_pureG (i := 15) rfl (by decide +kernel) rfl n2 (pv_len rfl rfl) ?_
    refine dw_pureG (i := 16) rfl (by decide +kernel) rfl n2 (pv_move (v := .slice _ _ _) rfl) ?_
    refine dw_pureG (i := 17) rfl (by decide +kernel) rfl n2 (pv_len rfl rfl) ?_
    refine dw_pureG (i := 18) rfl (by decide +kernel) rfl n2 (pv_of (v := .bool _) rfl) ?_
    refine dw_pure (i := 19) rfl (by decide +kernel) (pv_pickF rfl n2 (v := .bool _) rfl) ?_
    refine dw_pure (i := 20) rfl (by decide +kernel) (pv_move (v := .bool _) rfl) ?_
    refine dw_pureG (i := 21) rfl (by decide +kernel) rfl n3 (pv_move (v := .slice _ _ _) rfl) ?_
    refine dw_pureG (i := 22) rfl (by decide +kernel) rfl n3 (pv_move (v := .slice _ _ _) rfl) ?_
    refine dw_lastG (i := 23) rfl (by decide +kernel) (by decide +kernel) rfl n3 ?_
    refine op_fn (caps := []) (vs := [.slice _ _ _, .slice _ _ _]) rfl rfl rfl (sameIntsS_ok (uselessL mi) _ _ _ _ k9 (RS4.ext (Ext.trans (Ext.trans (Ext.trans (Ext.trans F5 F6) F7) F8) F9)) (RS5.ext (Ext.trans (Ext.trans (Ext.trans F6 F7) F8) F9)) l1) ?_
    rintro _ k10 F10 rfl
    refine dw_pureG (i := 24) rfl (by decide +kernel) rfl n3 (pv_of (v := .bool _) rfl) ?_
    refine dw_pure (i := 25) rfl (by decide +kernel) (pv_pickF rfl n3 (v := .bool _) rfl) ?_
    refine dw_pure (i := 26) rfl (by decide +kernel) (pv_move (v := .bool _) rfl) ?_
    refine dw_pureG (i := 27) rfl (by decide +kernel) rfl rfl (pv_move (v := .slice _ _ _) rfl) ?_
    refine dw_pureG (i := 28) rfl (by decide +kernel) rfl rfl (pv_move (v := .slice _ _ _) rfl) ?_
    refine dw_lastG (i := 29) rfl (by decide +kernel) (by decide +kernel) rfl rfl ?_
    refine op_fn (caps := []) (vs := [.slice _ _ _, .slice _ _ _]) rfl rfl rfl (sameIntsS_ok (brokenL mi oi ai) _ _ _ _ k10 (RS8.ext (Ext.trans F9 F10)) (RS9.ext F10) l2) ?_
    rintro _ k11 F11 rfl
    refine dw_pureG (i := 30) rfl (by decide +kernel) rfl rfl (pv_of (v := .bool _) rfl) ?_
    refine dw_pure (i := 31) rfl (by decide +kernel) (pv_pickF rfl rfl (v := .bool _) rfl) ?_
    refine dw_pure (i := 32) rfl (by decide +kernel) (pv_move (v := .bool _) rfl) ?_
    refine dw_loadG (i := 33) rfl (by decide +kernel) rfl rfl ?_
    refine op_loadPA 7 (vs := [.int .i64 _, .int .i64 _, .int .i64 _, .int .i64 _, .int .i64 _, .slice _ _ _, .slice _ _ _, .slice _ _ _, .slice _ _ _]) rfl rfl rfl rfl rfl ?_
    refine dw_pureG (i := 34) rfl (by decide +kernel) rfl rfl (pv_move (v := .slice _ _ _) rfl) ?_
    refine dw_pureG (i := 35) rfl (by decide +kernel) rfl rfl (pv_move (v := .int .i64 _) rfl) ?_
    refine dw_pureG (i := 36) rfl (by decide +kernel) rfl rfl (pv_indexE (m := 9) rfl hA rfl rfl rfl (by omega) (by omega)) ?_
    refine dw_loadG (i := 37) rfl (by decide +kernel) rfl rfl ?_
    refine op_loadA rfl rfl rfl rfl (hcM.ext (Ext.trans (Ext.trans (Ext.trans (Ext.trans (Ext.trans (Ext.trans (Ext.trans (Ext.trans (Ext.trans (Ext.trans F1 F2) F3) F4) F5) F6) F7) F8) F9) F10) F11)) ?_
    refine dw_lastG (i := 38) rfl (by decide +kernel) (by decide +kernel) rfl rfl ?_
    refine op_fn (caps := []) (vs := [.agg _, .agg _]) rfl rfl rfl (SameMachines_ok mi SM zB zQ zL zW wB wQ wL wW xB xQ xL xW yB yQ yL yW k11 (RMo.ext (Ext.trans (Ext.trans (Ext.trans (Ext.trans (Ext.trans (Ext.trans (Ext.trans (Ext.trans (Ext.trans F2 F3) F4) F5) F6) F7) F8) F9) F10) F11)) (RMi.ext (Ext.trans (Ext.trans (Ext.trans (Ext.trans (Ext.trans (Ext.trans (Ext.trans (Ext.trans (Ext.trans (Ext.trans F1 F2) F3) F4) F5) F6) F7) F8) F9) F10) F11))) ?_
    rintro _ k12 F12 rfl
    refine dw_pureG (i := 39) rfl (by decide +kernel) rfl rfl (pv_of (v := .bool _) rfl) ?_
    refine dw_pure (i := 40) rfl (by decide +kernel) (pv_pickF rfl rfl (v := .bool _) rfl) ?_
    refine dw_pure (i := 41) rfl (by decide +kernel) (pv_move (v := .bool _) rfl) ?_
    refine dw_pureG (i := 42) rfl (by decide +kernel) rfl rfl (pv_move (v := .slice _ _ _) rfl) ?_
    refine dw_pureG (i := 43) rfl (by decide +kernel) rfl rfl (pv_move (v := .slice _ _ _) rfl) ?_
    refine dw_pureG (i := 44) rfl (by decide +kernel) rfl rfl (pv_move (v := .int .i64 _) rfl) ?_
    refine dw_pureG (i := 45) rfl (by decide +kernel) rfl rfl (pv_indexE (m := 1) rfl hO rfl rfl rfl (by omega) (by omega)) ?_
    refine dw_loadG (i := 46) rfl (by decide +kernel) rfl rfl ?_
    refine op_load (v := .slice _ _ _) rfl rfl (((hcO.ext (Ext.trans (Ext.trans (Ext.trans (Ext.trans (Ext.trans (Ext.trans (Ext.trans (Ext.trans (Ext.trans (Ext.trans (Ext.trans F1 F2) F3) F4) F5) F6) F7) F8) F9) F10) F11) F12))) 0 _ rfl) ?_
    refine dw_lastG (i := 47) rfl (by decide +kernel) (by decide +kernel) rfl rfl ?_
    refine op_fn (caps := []) (vs := [.slice _ _ _, .slice _ _ _]) rfl rfl rfl (sameIntsS_ok oi _ _ _ _ k12 (ROo.ext (Ext.trans (Ext.trans (Ext.trans (Ext.trans (Ext.trans (Ext.trans (Ext.trans (Ext.trans (Ext.trans F3 F4) F5) F6) F7) F8) F9) F10) F11) F12)) (ROi.ext (Ext.trans (Ext.trans (Ext.trans (Ext.trans (Ext.trans (Ext.trans (Ext.trans (Ext.trans (Ext.trans (Ext.trans (Ext.trans F1 F2) F3) F4) F5) F6) F7) F8) F9) F10) F11) F12)) (by omega)) ?_
    rintro _ k13 F13 rfl
    refine dw_pureG (i := 48) rfl (by decide +kernel) rfl rfl (pv_of (v := .bool _) rfl) ?_
    refine dw_pure (i := 49) rfl (by decide +kernel) (pv_pickF rfl rfl (v := .bool _) rfl) ?_
    refine dw_pure (i := 50) rfl (by decide +kernel) (pv_move (v := .bool _) rfl) ?_
    refine dw_loadG (i := 51) rfl (by decide +kernel) rfl rfl ?_
    refine op_loadPA 8 (vs := [.slice _ _ _, .slice _ _ _]) rfl rfl rfl rfl rfl ?_
    refine dw_pureG (i := 52) rfl (by decide +kernel) rfl rfl (pv_move (v := .slice _ _ _) rfl) ?_
    refine dw_pureG (i := 53) rfl (by decide +kernel) rfl rfl (pv_move (v := .int .i64 _) rfl) ?_
    refine dw_pureG (i := 54) rfl (by decide +kernel) rfl rfl (pv_indexE (m := 2) rfl hH rfl rfl rfl (by omega) (by omega)) ?_
    refine dw_loadG (i := 55) rfl (by decide +kernel) rfl rfl ?_
    refine op_loadA rfl rfl rfl rfl (hcH.ext (Ext.trans (Ext.trans (Ext.trans (Ext.trans (Ext.trans (Ext.trans (Ext.trans (Ext.trans (Ext.trans (Ext.trans (Ext.trans (Ext.trans F1 F2) F3) F4) F5) F6) F7) F8) F9) F10) F11) F12) F13)) ?_
    refine dw_lastG (i := 56) rfl (by decide +kernel) (by decide +kernel) rfl rfl ?_
    refine op_fn (caps := []) (vs := [.agg _, .agg _]) rfl rfl rfl (sameHandsS_ok ai zH zP xH xP wH wP yH yP k13 (RHo.ext (Ext.trans (Ext.trans (Ext.trans (Ext.trans (Ext.trans (Ext.trans (Ext.trans (Ext.trans (Ext.trans F4 F5) F6) F7) F8) F9) F10) F11) F12) F13)) (RHi.ext (Ext.trans (Ext.trans (Ext.trans (Ext.trans (Ext.trans (Ext.trans (Ext.trans (Ext.trans (Ext.trans (Ext.trans (Ext.trans (Ext.trans F1 F2) F3) F4) F5) F6) F7) F8) F9) F10) F11) F12) F13)) (by omega) (by omega)) ?_
    rintro _ k14 F14 rfl
    refine dw_pureG (i := 57) rfl (by decide +kernel) rfl rfl (pv_of (v := .bool _) rfl) ?_
    refine dw_pure (i := 58) rfl (by decide +kernel) (pv_pickF rfl rfl (v := .bool _) rfl) ?_
    refine dw_end rfl ?_
    refine xp_condF rfl (rfl) ?_
    refine xp_skip ?_
    refine xp_seq ?_
    refine xp_region rfl ?_
    refine op_pure (pv_assign (v := .int .i64 _) rfl) ?_
    refine xp_block ?_
    refine xp_loopB [8, 32, 197, 198, 199, 200, 201, 202, 203, 204, 205, 206, 207, 208, 209, 210, 211] 9 (α := Nat) (fun n => [(32, .int .i64 n)]) (fun n => _) (fun n h_n => n ≤ (faultsL mi).length) (fun n => (faultsL mi).length - n) (0) ⟨rfl, trivial⟩ (rfl) (Nat.zero_le _) ?_
    rintro n T2 h_n E_n J_n
    refine goes_norm [_, _, _, _, _, _, _, _, _] rfl ?_
    refine xp_seq ?_
    refine xp_seq ?_
    refine xp_region rfl ?_
    refine op_pure (pv_move (v := .int .i64 _) rfl) ?_
    refine op_pure (pv_move (v := .slice _ _ _) rfl) ?_
    refine op_pure (pv_len rfl rfl) ?_
    refine op_pure (pv_of (v := .bool _) rfl) ?_
    refine xp_cond rfl (fun hn => ?_) (fun hn => ?_)
    ·skip
     have hnl : n < (faultsL mi).length := ltI hn
     obtain ⟨gx, ox, hX, hcX⟩ := (RS6.ext (Ext.trans (Ext.trans (Ext.trans (Ext.trans (Ext.trans (Ext.trans (Ext.trans (Ext.trans F7 F8) F9) F10) F11) F12) F13) F14) E_n)).at (by omega) hnl
     obtain ⟨gy, oy, hY, hcY⟩ := (RS7.ext (Ext.trans (Ext.trans (Ext.trans (Ext.trans (Ext.trans (Ext.trans (Ext.trans F8 F9) F10) F11) F12) F13) F14) E_n)).at (by omega) hnl
     obtain ⟨ta, tb, et⟩ : ∃ a b : Int, toldC (faultsL mi)[n] = [.int .i64 a, .int .i64 b] := by cases (faultsL mi)[n] <;> exact ⟨_, _, rfl⟩
     have eqt := toldEq (faultsL mi)[n]
     rw [et] at hcX hcY eqt
     refine xp_skip ?_
     refine xp_seq ?_
     refine xp_block ?_
     refine xp_seq ?_
     refine xp_dw [] rfl rfl rfl ?_
     refine dw_pure (i := 0) rfl (by decide +kernel) (pv_move (v := .slice _ _ _) rfl) ?_
     refine dw_pure (i := 1) rfl (by decide +kernel) (pv_move (v := .int .i64 _) rfl) ?_
     refine dw_pure (i := 2) rfl (by decide +kernel) (pv_indexE (m := 2) rfl hX rfl rfl rfl (by omega) (by omega)) ?_
     refine dw_load (i := 3) rfl (by decide +kernel) ?_
     refine op_loadA rfl rfl rfl rfl hcX ?_
     refine dw_pure (i := 4) rfl (by decide +kernel) (pv_move (v := .slice _ _ _) rfl) ?_
     refine dw_pure (i := 5) rfl (by decide +kernel) (pv_move (v := .int .i64 _) rfl) ?_
     refine dw_pure (i := 6) rfl (by decide +kernel) (pv_indexE (m := 2) rfl hY rfl rfl rfl (by omega) (by omega)) ?_
     refine dw_load (i := 7) rfl (by decide +kernel) ?_
     refine op_loadA rfl rfl rfl rfl hcY ?_
     refine dw_pure (i := 8) rfl (by decide +kernel) (pv_neA rfl rfl (by kernel_rfl) eqt) ?_
     refine dw_end rfl ?_
     refine xp_condF rfl (rfl) ?_
     refine xp_skip ?_
     refine xp_region rfl ?_
     refine op_pure (pv_move (v := .int .i64 _) rfl) ?_
     refine op_pure (pv_arith rfl (by omega)) ?_
     refine op_pure (pv_assign (v := .int .i64 _) rfl) ?_
     refine ⟨n + 1, ⟨rfl, trivial⟩, rfl, rfl, E_n, fun h3 E3 => hnl, by first | omega | (dsimp only; omega), ?_⟩
     repeat (first | exact off_base _ _ _ | refine off_upd (by decide) ?_ | refine off_updL rfl ?_ | refine off_mix rfl ?_)
    ·skip
     refine xp_exit ?_
     refine xp_region rfl ?_
     refine op_pure (pv_move (v := .int .i64 _) rfl) ?_
     refine op_pure (pv_arith rfl (by omega)) ?_
     refine op_pure (pv_assign (v := .int .i64 _) rfl) ?_
     refine ⟨i + 1, ⟨rfl, trivial⟩, rfl, rfl, (Ext.trans (Ext.trans (Ext.trans (Ext.trans (Ext.trans (Ext.trans (Ext.trans (Ext.trans (Ext.trans (Ext.trans (Ext.trans (Ext.trans (Ext.trans (Ext.trans (Ext.trans E_i F1) F2) F3) F4) F5) F6) F7) F8) F9) F10) F11) F12) F13) F14) E_n), fun h3 E3 => by omega, by first | omega | (dsimp only; omega), ?_⟩
     repeat (first | exact off_base _ _ _ | refine off_upd (by decide) ?_ | refine off_updL rfl ?_ | refine off_mix rfl ?_)
   ·skip
    refine xp_exit ?_
    refine xp_seq ?_
    refine xp_region rfl ?_
    refine op_fn (caps := []) (vs := []) rfl rfl rfl (rod_sounding rfl h_i) ?_
    rintro _ h26 E26 rfl
    refine op_pure (pv_assign (v := .bool _) rfl) ?_
    refine xp_ret ?_
    exact ⟨rfl, fun V => (Ext.trans (Ext.trans (Ext.trans (Ext.trans (Ext.trans (Ext.trans (Ext.trans (Ext.trans (Ext.trans (Ext.trans (Ext.trans G0 E1) E2) E3) E4) E5) G6) G7) G8) E_i) E26) (ext_wl V)), rfl⟩
end
end Go.Proofs.Ythphpbdmbmiaiaa
