/- WaxTexts: the law answers true and leaves the input as it was, and its card. Conditions: what the listed variables hold at the start, tied to the program's text by the given tie. (The frame is turned from the guide's shell.) -/
import Derived.Test.YtboigjfgpppeaaaGreatDoorRows
import Derived.Test.YtboigjfgpppeaaaGreatDoorCards
import Derived.Test.YtboigjfgpppeaaaGreatDoorTie
import Derived.Test.YtboigjfgpppeaaaGreatDoorLa8
import Derived.WalkKit
import Derived.ProofKit
import Derived.OpenShut
import Derived.ShutString
import Derived.ChangeOld
import Derived.ChangeMaps5
import Derived.Below
import Derived.LaidMore
import Derived.LaidLaws
import Derived.Lay
import Derived.SevenTiedAt
namespace Go.Proofs.YtboigjfgpppeaaaGreatDoor.waxTexts
open Go.ChangeShapes Go.WideShapes Go.ChangeAt Go.RowKit
open Go.ChangeMaps (open_string shut_string)
set_option linter.unusedVariables false
set_option maxRecDepth 100000

theorem own : ownKnob Tryz.prog.godebug = none := by kernel_rfl
theorem laidOut : laidOutB Tryz.prog = true := by kernel_rfl
theorem u8_of {z : Int} (h : (Lit.int .u8 z).wf = true) : ∃ b : UInt8, z = (b.toNat : Int) := by
  have h1 : (decide (IntKind.min .u8 ≤ z) && decide (z ≤ IntKind.max .u8)) = true := h
  rw [Bool.and_eq_true, decide_eq_true_eq, decide_eq_true_eq] at h1
  have h2 : (0 : Int) ≤ z := h1.1
  have h3 : z ≤ 255 := h1.2
  refine ⟨UInt8.ofNat z.toNat, ?_⟩
  rw [UInt8.toNat_ofNat']
  omega
abbrev laidL : List (String × DataW Unit) := [("math/bits.deBruijn32tab", Rows.laid_math_bits_deBruijn32tab), ("math/bits.deBruijn64tab", Rows.laid_math_bits_deBruijn64tab), ("internal/strconv.uint64pow10", Rows.laid_internal_strconv_uint64pow10), ("unicode/utf8.acceptRanges", Rows.laid_unicode_utf8_acceptRanges), ("strconv.ErrRange", Rows.laid_strconv_ErrRange), ("strconv.ErrSyntax", Rows.laid_strconv_ErrSyntax), ("unicode/utf8.first", Rows.laid_unicode_utf8_first)]
theorem gPow : ∃ g, Tryz.prog.globalNamed "internal/strconv.uint64pow10" = some g ∧ (Tryz.prog.globals[g]?).map (·.type) = some 181 ∧ g = 0 := ⟨0, by kernel_rfl, by kernel_rfl, rfl⟩
theorem gRng : ∃ g, Tryz.prog.globalNamed "strconv.ErrRange" = some g ∧ (Tryz.prog.globals[g]?).map (·.type) = some 171 ∧ g = 7 := ⟨7, by kernel_rfl, by kernel_rfl, rfl⟩
theorem gSyn : ∃ g, Tryz.prog.globalNamed "strconv.ErrSyntax" = some g ∧ (Tryz.prog.globals[g]?).map (·.type) = some 171 ∧ g = 6 := ⟨6, by kernel_rfl, by kernel_rfl, rfl⟩
/-- What the condition gives the walk: the first powers of ten. -/
theorem pow_of {W : World} (h : laidMet Tryz.prog laidL W) : Go.Proofs.YtboigjfgpppeaaaGreatDoor.Pow (Go.HL.absH W.heap) := by
  obtain ⟨ps, ⟨g0, t0, cs0, f0, p0, q0, hg0, ht0, hv0, hd0, ⟨g1, t1, cs1, f1, p1, q1, hg1, ht1, hv1, hd1, ⟨g2, t2, cs2, f2, p2, q2, hg2, ht2, hv2, hd2, ⟨g3, t3, cs3, f3, p3, q3, hg3, ht3, hv3, hd3, ⟨g4, t4, cs4, f4, p4, q4, hg4, ht4, hv4, hd4, ⟨g5, t5, cs5, f5, p5, q5, hg5, ht5, hv5, hd5, ⟨g6, t6, cs6, f6, p6, q6, hg6, ht6, hv6, hd6, _, _⟩, _⟩, _⟩, _⟩, _⟩, _⟩, _⟩, _, _⟩ := h
  obtain ⟨gg, ga, gb, rfl⟩ := gPow
  obtain rfl := Option.some.inj (ga.symm.trans hg2)
  obtain rfl := Option.some.inj (gb.symm.trans ht2)
  obtain ⟨xs, m1, rfl, hx1, hlen, hn3, hel⟩ := DataW.trod_array Tryz.underlying181 hd2
  have hc : Tryz.prog.cellsOf 65 = 1 := by kernel_rfl
  simp only [Prod.mk.injEq] at hx1
  have hx2 := hx1.1
  unfold Rows.laid_internal_strconv_uint64pow10 at hx2
  rw [DataW.agg.injEq] at hx2
  have key : ∀ i : Nat, i < 4 → cs2.toList[i]? = some (.int .u64 ((10 ^ i : Nat) : Int)) := by
    intro i hi
    have h0 := hel i (by omega)
    obtain ⟨x, hx⟩ : ∃ x, xs[i]? = some x := ⟨_, List.getElem?_eq_getElem (by omega)⟩
    rw [hx] at h0
    obtain ⟨k, e1, e2, _⟩ := DataW.trod_int Tryz.underlying65 h0
    rw [hc, Nat.mul_one] at e1
    have h1 : (xs.map (·.1))[i]? = some (.lit (.int .u64 k)) := by rw [List.getElem?_map, hx, e2]; rfl
    rw [← hx2] at h1
    have h2 : k = ((10 ^ i : Nat) : Int) := by
      match i, hi, h1 with
      | 0, _, h1 => exact ((DataW.lit.inj (Option.some.inj h1)) |> fun h => by injection h with _ h; exact h.symm)
      | 1, _, h1 => exact ((DataW.lit.inj (Option.some.inj h1)) |> fun h => by injection h with _ h; exact h.symm)
      | 2, _, h1 => exact ((DataW.lit.inj (Option.some.inj h1)) |> fun h => by injection h with _ h; exact h.symm)
      | 3, _, h1 => exact ((DataW.lit.inj (Option.some.inj h1)) |> fun h => by injection h with _ h; exact h.symm)
    rw [h2] at e1
    have h3 : ((cs2.toList.drop i).take 1)[0]? = some (Value.int .u64 ((10 ^ i : Nat) : Int)) := by rw [e1]; rfl
    rw [List.getElem?_take, if_pos (by decide), List.getElem?_drop] at h3
    exact h3
  intro _
  refine ⟨_, _, rfl, fun j u hu => ?_⟩
  have hj : j < 4 := by
    have := (List.getElem?_eq_some_iff.1 hu).1
    simpa using this
  rw [← Go.HL.cell_abs, World.var?_cell hg2 hv2, Nat.zero_add]
  have h1 := key j hj
  rw [List.getElem?_map, List.getElem?_range hj] at hu
  cases hu
  rw [← Array.getElem?_toList]
  exact h1
theorem errRng_of {W : World} (h : laidMet Tryz.prog laidL W) : ∃ t p, Go.HL.Rd (Go.HL.absH W.heap) (some ⟨7, 0, none⟩) [.iface t p] := by
  obtain ⟨ps, ⟨g0, t0, cs0, f0, p0, q0, hg0, ht0, hv0, hd0, ⟨g1, t1, cs1, f1, p1, q1, hg1, ht1, hv1, hd1, ⟨g2, t2, cs2, f2, p2, q2, hg2, ht2, hv2, hd2, ⟨g3, t3, cs3, f3, p3, q3, hg3, ht3, hv3, hd3, ⟨g4, t4, cs4, f4, p4, q4, hg4, ht4, hv4, hd4, ⟨g5, t5, cs5, f5, p5, q5, hg5, ht5, hv5, hd5, ⟨g6, t6, cs6, f6, p6, q6, hg6, ht6, hv6, hd6, _, _⟩, _⟩, _⟩, _⟩, _⟩, _⟩, _⟩, _, _⟩ := h
  obtain ⟨gg, ga, gb, rfl⟩ := gRng
  obtain rfl := Option.some.inj (ga.symm.trans hg4)
  obtain rfl := Option.some.inj (gb.symm.trans ht4)
  unfold Rows.laid_strconv_ErrRange at hd4
  obtain ⟨f', u, v, hcs, _, _⟩ := iface_of_trod Tryz.underlying171 hd4
  refine ⟨u, v, fun _ => ⟨_, _, rfl, fun j x hx => ?_⟩⟩
  have hj : j = 0 := by
    have := (List.getElem?_eq_some_iff.1 hx).1
    simp at this
    omega
  subst hj
  cases hx
  rw [← Go.HL.cell_abs, World.var?_cell hg4 hv4, ← Array.getElem?_toList, hcs]
  rfl
theorem errSyn_of {W : World} (h : laidMet Tryz.prog laidL W) : ∃ t p, Go.HL.Rd (Go.HL.absH W.heap) (some ⟨6, 0, none⟩) [.iface t p] := by
  obtain ⟨ps, ⟨g0, t0, cs0, f0, p0, q0, hg0, ht0, hv0, hd0, ⟨g1, t1, cs1, f1, p1, q1, hg1, ht1, hv1, hd1, ⟨g2, t2, cs2, f2, p2, q2, hg2, ht2, hv2, hd2, ⟨g3, t3, cs3, f3, p3, q3, hg3, ht3, hv3, hd3, ⟨g4, t4, cs4, f4, p4, q4, hg4, ht4, hv4, hd4, ⟨g5, t5, cs5, f5, p5, q5, hg5, ht5, hv5, hd5, ⟨g6, t6, cs6, f6, p6, q6, hg6, ht6, hv6, hd6, _, _⟩, _⟩, _⟩, _⟩, _⟩, _⟩, _⟩, _, _⟩ := h
  obtain ⟨gg, ga, gb, rfl⟩ := gSyn
  obtain rfl := Option.some.inj (ga.symm.trans hg5)
  obtain rfl := Option.some.inj (gb.symm.trans ht5)
  unfold Rows.laid_strconv_ErrSyntax at hd5
  obtain ⟨f', u, v, hcs, _, _⟩ := iface_of_trod Tryz.underlying171 hd5
  refine ⟨u, v, fun _ => ⟨_, _, rfl, fun j x hx => ?_⟩⟩
  have hj : j = 0 := by
    have := (List.getElem?_eq_some_iff.1 hx).1
    simp at this
    omega
  subst hj
  cases hx
  rw [← Go.HL.cell_abs, World.var?_cell hg5 hv5, ← Array.getElem?_toList, hcs]
  rfl

/-! ### THE ROW's STEP -/
set_option maxRecDepth 100000 in
theorem lifted (os : Os) (started : os.Started) (H : Type) (enc : TypeId × Value → H) :
    ReturnsInHanded {} Tryz.checked os 3 .any (fun w args => (Rows.waxTextsSpec.pre enc Tryz.prog Tryz.f3 [] false w args ∧ laidMetH Tryz.prog laidL w) ∧ sizedMet enc Tryz.prog Tryz.f3 (OpenSpec.ofChange Rows.waxTextsSpec) false w args)
      (Rows.waxTextsSpec.post enc Tryz.prog Tryz.f3 false true false false) := by
  refine returnsInHanded_of_change_and (C := Tryz.checked) (X := fun w _ => laidMetH Tryz.prog laidL w) (fun _ _ _ hh h => h.of_heap hh) own started (by kernel_rfl) Tryz.func3
    (ChangeSpec.witness_shaped (enc := enc) (C := Tryz.checked) (os := os) (X := fun w _ => laidMetH Tryz.prog laidL w) false (World.laidAll Tryz.prog os laidL) #[.agg #[.slice none 0 0, .slice none 0 0, .slice none 0 0, .slice none 0 0], .string ⟨#[]⟩, .slice none 0 0, .int .i64 0, .int .i64 0, .int .u8 0] 8 (World.laidAll_os _ _ _) (World.shaped_of_ZipB (by kernel_rfl) (by kernel_rfl)) (by kernel_rfl) (by kernel_rfl) (by kernel_rfl)
      (by rw [MakeChecks.laidMetH_plain _ _ _ (by kernel_rfl)]; exact laidMet_laidAll _ (by kernel_rfl) (by kernel_rfl))) ?_
  intro W base args ds gs before hval0 hW hcnd _ hL _
  letI : Go.HL.Lvl := ⟨false, none, none⟩
  rw [MakeChecks.laidMetH_plain _ _ _ (by kernel_rfl)] at hL
  have hval : ∀ (j : Nat) t v, Tryz.f3.params[j]? = some t → args[j]? = some v → Value.okWide Tryz.prog W .any base t v := hval0
  have hW' := hW
  obtain ⟨p, q, hA0, hV, rfl, hfz, hnd⟩ := hW
  have hA : DataW.TrodAll enc Tryz.prog W 0 (fun _ => true) true Tryz.f3.params.toList args.toList ds p := hA0
  rw [Tryz.params3] at hA hval
  obtain ⟨v0, vs0, d0, ds0, p0, q0, hargs, rfl, rfl, h0, r0⟩ := trodAll_cons hA
  obtain ⟨v1, vs1, d1, ds1, p1, q1, rfl, rfl, rfl, h1, r1⟩ := trodAll_cons r0
  obtain ⟨v2, vs2, d2, ds2, p2, q2, rfl, rfl, rfl, h2, r2⟩ := trodAll_cons r1
  obtain ⟨v3, vs3, d3, ds3, p3, q3, rfl, rfl, rfl, h3, r3⟩ := trodAll_cons r2
  obtain ⟨v4, vs4, d4, ds4, p4, q4, rfl, rfl, rfl, h4, r4⟩ := trodAll_cons r3
  obtain ⟨v5, vs5, d5, ds5, p5, q5, rfl, rfl, rfl, h5, r5⟩ := trodAll_cons r4
  obtain ⟨rfl, rfl, rfl⟩ := trodAll_nil r5
  obtain rfl : args = #[v0, v1, v2, v3, v4, v5] := by cases args; simp_all
  obtain ⟨rfl, rfl⟩ := trodVars_none hV
  have k0 := h0
  have lt0 : ∀ x ∈ p0, x.block < W.heap.size := by obtain ⟨m, hm⟩ := k0; exact DataW.trod_lt m _ _ _ hm
  obtain ⟨s0, A0, B0, C0, D0, a0, b0, c0, d0, e0, R0⟩ := Go.Proofs.YtboigjfgpppeaaaGreatDoor.season_in (hval 0 26 v0 rfl rfl) h0
  subst e0
  have k1 := h1
  have lt1 : ∀ x ∈ p1, x.block < W.heap.size := by obtain ⟨m, hm⟩ := k1; exact DataW.trod_lt m _ _ _ hm
  obtain ⟨s1, e1, _, _, ms1⟩ := open_string Tryz.underlying9 (hval 1 9 v1 rfl rfl) h1
  subst e1
  obtain ⟨t1, rfl⟩ := Go.HL.bs_of s1
  have k2 := h2
  have lt2 : ∀ x ∈ p2, x.block < W.heap.size := by obtain ⟨m, hm⟩ := k2; exact DataW.trod_lt m _ _ _ hm
  obtain ⟨l2, A2, c2, e2, R2, hm2⟩ := Go.Proofs.YtboigjfgpppeaaaGreatDoor.ints_in (hval 2 27 v2 rfl rfl) h2
  subst e2
  have k3 := h3
  have lt3 : ∀ x ∈ p3, x.block < W.heap.size := by obtain ⟨m, hm⟩ := k3; exact DataW.trod_lt m _ _ _ hm
  obtain ⟨z3, e3, _, _, _⟩ := open_int Tryz.underlying3 (hval 3 3 v3 rfl rfl) h3
  subst e3
  have k4 := h4
  have lt4 : ∀ x ∈ p4, x.block < W.heap.size := by obtain ⟨m, hm⟩ := k4; exact DataW.trod_lt m _ _ _ hm
  obtain ⟨z4, e4, _, _, _⟩ := open_int Tryz.underlying3 (hval 4 3 v4 rfl rfl) h4
  subst e4
  have k5 := h5
  have lt5 : ∀ x ∈ p5, x.block < W.heap.size := by obtain ⟨m, hm⟩ := k5; exact DataW.trod_lt m _ _ _ hm
  obtain ⟨z5, e5, _, _, wz5⟩ := open_int Tryz.underlying5 (hval 5 5 v5 rfl rfl) h5
  subst e5
  obtain ⟨b5, rfl⟩ := u8_of wz5
  clear hA0 hval0
  refine (Go.Proofs.YtboigjfgpppeaaaGreatDoor.texts_calls W s0 A0 B0 C0 D0 a0 b0 c0 d0 R0 t1 l2 (Nat.lt_of_le_of_lt hm2 (by decide)) A2 c2 R2 z3 z4 b5 (pow_of hL) ⟨errSyn_of hL, errRng_of hL⟩).mono fun e W' ⟨he, bel⟩ => ?_
  subst he
  exact ⟨_, rfl, _, _, _, [], _, [], hW', trodAll_mk1 (shut_bool Tryz.underlying4 _), (trodAll_cons_mk (Below.trod laidOut (by kernel_rfl) (of_decide_eq_true (by kernel_rfl)) k0 bel lt0) (trodAll_cons_mk (Below.trod laidOut (by kernel_rfl) (of_decide_eq_true (by kernel_rfl)) k1 bel lt1) (trodAll_cons_mk (Below.trod laidOut (by kernel_rfl) (of_decide_eq_true (by kernel_rfl)) k2 bel lt2) (trodAll_cons_mk (Below.trod laidOut (by kernel_rfl) (of_decide_eq_true (by kernel_rfl)) k3 bel lt3) (trodAll_cons_mk (Below.trod laidOut (by kernel_rfl) (of_decide_eq_true (by kernel_rfl)) k4 bel lt4) (trodAll_cons_mk (Below.trod laidOut (by kernel_rfl) (of_decide_eq_true (by kernel_rfl)) k5 bel lt5) trodAll_mk0)))))), rfl, bel.frame _, fun h => by cases h⟩

theorem over : Rows.waxTextsRow.holds Tryz.pinned (OpenSpec.ofChange Rows.waxTextsSpec) :=
  OpenClaim.holds_of_wide 3 Tryz.f3 rfl rfl rfl rfl rfl rfl rfl ⟨rfl, rfl, rfl, rfl, rfl⟩ rfl rfl rfl rfl rfl (by kernel_rfl) Tryz.func3 (by kernel_rfl)
    (of_decide_eq_true (by kernel_rfl)) (by unfold Func.isWrapper; first | (rw [if_pos (by decide +kernel)]; kernel_rfl) | (rw [if_neg (by decide +kernel)]; exact ⟨rfl, rfl⟩))
    (fun os started H enc _ => lifted os started H enc)

/-- ████ THE TIED CARD ████ -/
theorem proved : Rows.WaxTextsCardSaid :=
  Claim7.holds_tied_plain_at .later [] [.data, .data, .data, .data, .sentinel, .sentinel, .pinned] true (true, "e9635c6f864383fb3dc49cfd10f0c3ac0f0962ebea7ea8baa7be389bf1b365b4") true
    over (fun _ h => by cases h) (by kernel_rfl) (fun _ h => by cases h) waxTexts_row_tie rfl ⟨rfl, rfl⟩ (by kernel_rfl) rfl
    (fun f fn hf hfn => by
      obtain rfl : f = 3 := Option.some.inj ((show Tryz.prog.funcNamed "musette/musettelaw06.WaxTexts" = some 3 by kernel_rfl).symm.trans hf) |>.symm
      obtain rfl : fn = Tryz.f3 := (Option.some.inj (Tryz.func3.symm.trans hfn)).symm
      exact ⟨by kernel_rfl, fun j t ht => by
        rw [Tryz.params3] at ht
        have hm : t ∈ [26, 9, 27, 3, 3, 5] := by simpa using Array.mem_of_getElem? ht
        have hall : ([26, 9, 27, 3, 3, 5].all fun u => !Tryz.prog.wantsStandIn u) = true := by kernel_rfl
        exact (show Tryz.prog.wantsStandIn t = false by simpa using List.all_eq_true.1 hall t hm)⟩)
    (by kernel_rfl)
end Go.Proofs.YtboigjfgpppeaaaGreatDoor.waxTexts
