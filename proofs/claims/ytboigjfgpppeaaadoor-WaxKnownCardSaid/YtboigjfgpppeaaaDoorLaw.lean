/- WaxKnown: the law answers true, and its card. Conditions: what the listed variables hold at the start, tied to the program's text by the given tie. (The frame is the guide's shell.) -/
import Derived.Test.YtboigjfgpppeaaaDoorRows
import Derived.Test.YtboigjfgpppeaaaDoorCards
import Derived.Test.YtboigjfgpppeaaaDoorTie
import Derived.Test.YtboigjfgpppeaaaDoorLa6
import Derived.WalkKit
import Derived.ProofKit
import Derived.OpenShut
import Derived.ShutString
import Derived.ChangeOld
import Derived.Below
import Derived.LaidMore
import Derived.SevenTiedAt
namespace Go.Proofs.YtboigjfgpppeaaaDoor.waxKnown
open Go.ChangeShapes Go.WideShapes Go.ChangeAt Go.RowKit
open Go.ChangeMaps (open_string shut_string)
set_option linter.unusedVariables false
set_option maxRecDepth 100000

theorem own : ownKnob Tryd.prog.godebug = none := by kernel_rfl
theorem laidOut : laidOutB Tryd.prog = true := by kernel_rfl
theorem gPow : Tryd.prog.globalNamed "internal/strconv.uint64pow10" = some 0 := by kernel_rfl
theorem tPow : (Tryd.prog.globals[0]?).map (·.type) = some 143 := by kernel_rfl
abbrev laid3 : List (String × DataW Unit) := [("math/bits.deBruijn32tab", Rows.laid_math_bits_deBruijn32tab), ("math/bits.deBruijn64tab", Rows.laid_math_bits_deBruijn64tab), ("internal/strconv.uint64pow10", Rows.laid_internal_strconv_uint64pow10)]
/-- The door's own heap meets the condition. -/
theorem door_met (os : Os) (args : Array Value) : laidMetH Tryd.prog laid3 ((World.doorLaid Tryd.prog 400 os).forCall (fun _ _ => 0) ⟨#[], args, []⟩).memory :=
  laidMetH_of_parts3 (fuel := 8) (laidMet_of_run' 8 (by kernel_rfl) (by kernel_rfl)) (by kernel_rfl) (by kernel_rfl)
/-- What the condition gives the walk: the first powers of ten. -/
theorem of_laid {W : World} (h : laidMetH Tryd.prog laid3 W) : Go.Proofs.YtboigjfgpppeaaaDoor.Pow (Go.HL.absH W.heap) := by
  rw [MakeChecks.laidMetH_plain _ _ _ (by kernel_rfl)] at h
  obtain ⟨ps, ⟨g0, t0, cs0, f0, p0, q0, hg0, ht0, hv0, hd0, ⟨g1, t1, cs1, f1, p1, q1, hg1, ht1, hv1, hd1, ⟨g2, t2, cs2, f2, p2, q2, hg2, ht2, hv2, hd2, _, _⟩, _⟩, _⟩, _, _⟩ := h
  obtain rfl := Option.some.inj (gPow.symm.trans hg2)
  obtain rfl := Option.some.inj (tPow.symm.trans ht2)
  obtain ⟨xs, m1, rfl, hx1, hlen, hn3, hel⟩ := DataW.trod_array Tryd.underlying143 hd2
  have hc : Tryd.prog.cellsOf 135 = 1 := by kernel_rfl
  simp only [Prod.mk.injEq] at hx1
  have hx2 := hx1.1
  unfold Rows.laid_internal_strconv_uint64pow10 at hx2
  rw [DataW.agg.injEq] at hx2
  have key : ∀ i : Nat, i < 4 → cs2.toList[i]? = some (.int .u64 ((10 ^ i : Nat) : Int)) := by
    intro i hi
    have h0 := hel i (by omega)
    obtain ⟨x, hx⟩ : ∃ x, xs[i]? = some x := ⟨_, List.getElem?_eq_getElem (by omega)⟩
    rw [hx] at h0
    obtain ⟨k, e1, e2, _⟩ := DataW.trod_int Tryd.underlying135 h0
    rw [hc, Nat.mul_one] at e1
    have h1 : (xs.map (·.1))[i]? = some (.lit (.int .u64 k)) := by rw [List.getElem?_map, hx, e2]; rfl
    rw [← hx2] at h1
    have h2 : k = ((10 ^ i : Nat) : Int) := by
      match i, hi, h1 with
      | 0, _, h1 => exact ((DataW.lit.inj (Option.some.inj h1)) |> fun h => by injection h with _ h; exact h.symm)
      | 1, _, h1 => exact ((DataW.lit.inj (Option.some.inj h1)) |> fun h => by injection h with _ h; exact h.symm)
      | 2, _, h1 => exact ((DataW.lit.inj (Option.some.inj h1)) |> fun h => by injection h with _ h; exact h.symm)
      | 3, _, h1 => exact ((DataW.lit.inj (Option.some.inj h1)) |> fun h => by injection h with _ h; exact h.symm)
    rw [h2] at e1
    have h3 : ((cs2.toList.drop i).take 1)[0]? = some (Value.int .u64 ((10 ^ i : Nat) : Int)) := by rw [e1]; rfl
    rw [List.getElem?_take, if_pos (by decide), List.getElem?_drop] at h3
    exact h3
  intro _
  refine ⟨_, _, rfl, fun j u hu => ?_⟩
  have hj : j < 4 := by
    have := (List.getElem?_eq_some_iff.1 hu).1
    simpa using this
  rw [← Go.HL.cell_abs, World.var?_cell hg2 hv2, Nat.zero_add]
  have h1 := key j hj
  rw [List.getElem?_map, List.getElem?_range hj] at hu
  cases hu
  rw [← Array.getElem?_toList]
  exact h1

theorem walk (w : World) (hP : Go.Proofs.YtboigjfgpppeaaaDoor.Pow (Go.HL.absH w.heap)) : Calls Tryd.prog 3 #[] w fun e w' => e = .returned (.bool true) ∧ Below w.heap.size w w' := Go.Proofs.YtboigjfgpppeaaaDoor.known_calls w hP

/-! ### THE ROW's STEP -/
set_option maxRecDepth 100000 in
theorem lifted (os : Os) (started : os.Started) (H : Type) (enc : TypeId × Value → H) :
    ReturnsInHanded {} Tryd.checked os 3 .any (fun w args => (Rows.waxKnownSpec.pre enc Tryd.prog Tryd.f3 [] false w args ∧ laidMetH Tryd.prog laid3 w) ∧ sizedMet enc Tryd.prog Tryd.f3 (OpenSpec.ofChange Rows.waxKnownSpec) false w args)
      (Rows.waxKnownSpec.post enc Tryd.prog Tryd.f3 false true false false) := by
  refine returnsInHanded_of_change_and (C := Tryd.checked) (X := fun w _ => laidMetH Tryd.prog laid3 w) (fun _ _ _ hh h => h.of_heap hh) own started (by kernel_rfl) Tryd.func3
    (ChangeSpec.witness_shaped (enc := enc) (C := Tryd.checked) (os := os) (X := fun w _ => laidMetH Tryd.prog laid3 w) false (World.doorLaid Tryd.prog 400 os) #[] 8 rfl (World.shaped_of_RefB (by kernel_rfl) (by kernel_rfl)) (by kernel_rfl) (by kernel_rfl) (by kernel_rfl) (door_met os _)) ?_
  intro W base args ds gs before hval0 hW hcnd _ hL _
  have hval : ∀ (j : Nat) t v, Tryd.f3.params[j]? = some t → args[j]? = some v → Value.okWide Tryd.prog W .any base t v := hval0
  have hW' := hW
  obtain ⟨p, q, hA0, hV, rfl, hfz, hnd⟩ := hW
  have hA : DataW.TrodAll enc Tryd.prog W 0 (fun _ => true) true Tryd.f3.params.toList args.toList ds p := hA0
  rw [Tryd.params3] at hA hval
  obtain ⟨hargs, rfl, rfl⟩ := trodAll_none hA
  obtain ⟨rfl, rfl⟩ := trodVars_none hV
  obtain rfl : args = #[] := by cases args; simp_all
  clear hA0 hval0
  refine (walk W (of_laid hL)).mono fun e W' ⟨he, bel⟩ => ?_
  subst he
  exact ⟨_, rfl, _, _, _, [], _, [], hW', trodAll_mk1 (shut_bool Tryd.underlying4 _), trodAll_mk0, rfl, bel.frame _, fun h => by cases h⟩

theorem over : Rows.waxKnownRow.holds Tryd.pinned (OpenSpec.ofChange Rows.waxKnownSpec) :=
  OpenClaim.holds_of_wide 3 Tryd.f3 rfl rfl rfl rfl rfl rfl rfl ⟨rfl, rfl, rfl, rfl, rfl⟩ rfl rfl rfl rfl rfl (by kernel_rfl) Tryd.func3 (by kernel_rfl)
    (of_decide_eq_true (by kernel_rfl)) (by unfold Func.isWrapper; first | (rw [if_pos (by decide +kernel)]; kernel_rfl) | (rw [if_neg (by decide +kernel)]; exact ⟨rfl, rfl⟩))
    (fun os started H enc _ => lifted os started H enc)

/-- ████ THE TIED CARD ████ -/
theorem proved : Rows.WaxKnownCardSaid :=
  Claim7.holds_tied_plain_at .later [] [.data, .data, .data] true (true, "3cc075cf83bee83b6aeb6f47a33f6c48175cfd42ca789001b430d8ec186b6dfc") false
    over (fun _ h => by cases h) (by kernel_rfl) (fun _ h => by cases h) waxKnown_row_tie rfl ⟨rfl, rfl⟩ (by kernel_rfl) rfl
    (fun f fn hf hfn => by
      obtain rfl : f = 3 := Option.some.inj ((show Tryd.prog.funcNamed "musette/musettelaw06.WaxKnown" = some 3 by kernel_rfl).symm.trans hf) |>.symm
      obtain rfl : fn = Tryd.f3 := (Option.some.inj (Tryd.func3.symm.trans hfn)).symm
      exact ⟨by kernel_rfl, fun j t ht => by
        rw [Tryd.params3] at ht
        simp at ht⟩)
    (by kernel_rfl)
end Go.Proofs.YtboigjfgpppeaaaDoor.waxKnown
