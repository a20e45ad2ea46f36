/-
  No cell of these rows narrows 'for every input' (looked for: loops, veiled, ifaces, maps, wideKeys, modest, calm, conditions, laid).
  DERIVED. THE GIVEN ROWS OF THIS SEAT. 14 by the template 'for every input the law returns true; each argument reads behind the call as it read before'; 0 by the template 'total and deterministic' (their statements: YthphpbdmbmiaiaaTotals.lean).
  GIVEN WITH THE SEED: the statements are not yours to turn. If you find one false, say at which input.
  Laid BY PROGRAM, IN A SANDBOX (cutbox-rows.mjs): the forced cells as the released guide's own fill.sh prints them over the translation d5c0df2f3b39d6f9… (all of the seat's roots in one cut). By AI agents, Wed Nov 11 2026. No macro, syntax, notation, axiom, sorry.
-/
import Derived.Test.YthphpbdmbmiaiaaChecked
import GoSem.Claim
import GoSem.ClaimJoined
import GoSem.ClaimMapViews
import Derived.JoinedTies
import Derived.KernelRfl
namespace Go.Proofs.Ythphpbdmbmiaiaa
/- THE CELL 'sum', in the pinned program and in every row, IS THE sha256 OF THE DUMP (.gsa) THAT YthphpbdmbmiaiaaProg.lean LOADS. Nothing in Lean hashes anything: it is a label: what it is worth is what the hold of that sum in a sandbox is worth. -/
noncomputable def Try.pinned : Pinned := { name := "ythphpbdmbmiaiaa", sum := "d5c0df2f3b39d6f99c29be4e289a30920c9be3f033dd272196e46e2bd52266b4", checked := Try.checked }
namespace Rows
def none {H : Type} : Left H := { results := [], args := [] }

/-- 'musettelaw03.RodMore': WHATEVER THE INPUT: true; the input reads as it did. -/
def rodMoreSpec : ChangeSpec := { name := "rodMore", fn := fun _ => fun
  | [d] => { results := [.lit (.bool true)], args := [d] }
  | _ => none }
def rodMoreRow : OpenClaim := { program := "ythphpbdmbmiaiaa", sum := "d5c0df2f3b39d6f99c29be4e289a30920c9be3f033dd272196e46e2bd52266b4", func := "musette/musettelaw03.RodMore", spec := "rodMore", unfollowed := true, recurses := true, leaving := true, apart := false }
def RodMoreSaid : Prop := rodMoreRow.holds Try.pinned (OpenSpec.ofChange rodMoreSpec)

/-- ITS FALSE NEIGHBOUR: 'it returns false'. Refute it at one input. -/
def rodMoreWrong : ChangeSpec := { name := "rodMore", fn := fun _ => fun
  | [d] => { results := [.lit (.bool false)], args := [d] }
  | _ => none }
def RodMoreWrongFalsely : Prop := rodMoreRow.holds Try.pinned (OpenSpec.ofChange rodMoreWrong)

/-- 'musettelaw03.RodSteps': WHATEVER THE INPUT: true; the input reads as it did. -/
def rodStepsSpec : ChangeSpec := { name := "rodSteps", fn := fun _ => fun
  | [d] => { results := [.lit (.bool true)], args := [d] }
  | _ => none }
def rodStepsRow : OpenClaim := { program := "ythphpbdmbmiaiaa", sum := "d5c0df2f3b39d6f99c29be4e289a30920c9be3f033dd272196e46e2bd52266b4", func := "musette/musettelaw03.RodSteps", spec := "rodSteps", unfollowed := true, recurses := true, leaving := true, apart := false }
def RodStepsSaid : Prop := rodStepsRow.holds Try.pinned (OpenSpec.ofChange rodStepsSpec)

/-- ITS FALSE NEIGHBOUR: 'it returns false'. Refute it at one input. -/
def rodStepsWrong : ChangeSpec := { name := "rodSteps", fn := fun _ => fun
  | [d] => { results := [.lit (.bool false)], args := [d] }
  | _ => none }
def RodStepsWrongFalsely : Prop := rodStepsRow.holds Try.pinned (OpenSpec.ofChange rodStepsWrong)

/-- 'musettelaw03.RodRenamed': WHATEVER THE INPUT: true; the input reads as it did. -/
def rodRenamedSpec : ChangeSpec := { name := "rodRenamed", fn := fun _ => fun
  | [d] => { results := [.lit (.bool true)], args := [d] }
  | _ => none }
def rodRenamedRow : OpenClaim := { program := "ythphpbdmbmiaiaa", sum := "d5c0df2f3b39d6f99c29be4e289a30920c9be3f033dd272196e46e2bd52266b4", func := "musette/musettelaw03.RodRenamed", spec := "rodRenamed", unfollowed := true, recurses := true, leaving := true, apart := false }
def RodRenamedSaid : Prop := rodRenamedRow.holds Try.pinned (OpenSpec.ofChange rodRenamedSpec)

/-- ITS FALSE NEIGHBOUR: 'it returns false'. Refute it at one input. -/
def rodRenamedWrong : ChangeSpec := { name := "rodRenamed", fn := fun _ => fun
  | [d] => { results := [.lit (.bool false)], args := [d] }
  | _ => none }
def RodRenamedWrongFalsely : Prop := rodRenamedRow.holds Try.pinned (OpenSpec.ofChange rodRenamedWrong)

/-- 'musettelaw03.RodSounds': WHATEVER THE INPUT: true; the input reads as it did. -/
def rodSoundsSpec : ChangeSpec := { name := "rodSounds", fn := fun _ => fun
  | [d1, d2, d3, d4] => { results := [.lit (.bool true)], args := [d1, d2, d3, d4] }
  | _ => none }
def rodSoundsRow : OpenClaim := { program := "ythphpbdmbmiaiaa", sum := "d5c0df2f3b39d6f99c29be4e289a30920c9be3f033dd272196e46e2bd52266b4", func := "musette/musettelaw03.RodSounds", spec := "rodSounds", unfollowed := true, recurses := true, leaving := true, apart := false }
def RodSoundsSaid : Prop := rodSoundsRow.holds Try.pinned (OpenSpec.ofChange rodSoundsSpec)

/-- ITS FALSE NEIGHBOUR: 'it returns false'. Refute it at one input. -/
def rodSoundsWrong : ChangeSpec := { name := "rodSounds", fn := fun _ => fun
  | [d1, d2, d3, d4] => { results := [.lit (.bool false)], args := [d1, d2, d3, d4] }
  | _ => none }
def RodSoundsWrongFalsely : Prop := rodSoundsRow.holds Try.pinned (OpenSpec.ofChange rodSoundsWrong)

/-- 'musettelaw03.RodDeep': WHATEVER THE INPUT: true; the input reads as it did. -/
def rodDeepSpec : ChangeSpec := { name := "rodDeep", fn := fun _ => fun
  | [d] => { results := [.lit (.bool true)], args := [d] }
  | _ => none }
def rodDeepRow : OpenClaim := { program := "ythphpbdmbmiaiaa", sum := "d5c0df2f3b39d6f99c29be4e289a30920c9be3f033dd272196e46e2bd52266b4", func := "musette/musettelaw03.RodDeep", spec := "rodDeep", unfollowed := true, recurses := true, leaving := true, apart := false }
def RodDeepSaid : Prop := rodDeepRow.holds Try.pinned (OpenSpec.ofChange rodDeepSpec)

/-- ITS FALSE NEIGHBOUR: 'it returns false'. Refute it at one input. -/
def rodDeepWrong : ChangeSpec := { name := "rodDeep", fn := fun _ => fun
  | [d] => { results := [.lit (.bool false)], args := [d] }
  | _ => none }
def RodDeepWrongFalsely : Prop := rodDeepRow.holds Try.pinned (OpenSpec.ofChange rodDeepWrong)

/-- 'musettelaw03.RodChords': WHATEVER THE INPUT: true; the input reads as it did. -/
def rodChordsSpec : ChangeSpec := { name := "rodChords", fn := fun _ => fun
  | [d] => { results := [.lit (.bool true)], args := [d] }
  | _ => none }
def rodChordsRow : OpenClaim := { program := "ythphpbdmbmiaiaa", sum := "d5c0df2f3b39d6f99c29be4e289a30920c9be3f033dd272196e46e2bd52266b4", func := "musette/musettelaw03.RodChords", spec := "rodChords", unfollowed := true, recurses := true, leaving := true, apart := false }
def RodChordsSaid : Prop := rodChordsRow.holds Try.pinned (OpenSpec.ofChange rodChordsSpec)

/-- ITS FALSE NEIGHBOUR: 'it returns false'. Refute it at one input. -/
def rodChordsWrong : ChangeSpec := { name := "rodChords", fn := fun _ => fun
  | [d] => { results := [.lit (.bool false)], args := [d] }
  | _ => none }
def RodChordsWrongFalsely : Prop := rodChordsRow.holds Try.pinned (OpenSpec.ofChange rodChordsWrong)

/-- 'musettelaw03.RodTests': WHATEVER THE INPUT: true; the input reads as it did. -/
def rodTestsSpec : ChangeSpec := { name := "rodTests", fn := fun _ => fun
  | [d] => { results := [.lit (.bool true)], args := [d] }
  | _ => none }
def rodTestsRow : OpenClaim := { program := "ythphpbdmbmiaiaa", sum := "d5c0df2f3b39d6f99c29be4e289a30920c9be3f033dd272196e46e2bd52266b4", func := "musette/musettelaw03.RodTests", spec := "rodTests", unfollowed := true, recurses := true, leaving := true, apart := false }
def RodTestsSaid : Prop := rodTestsRow.holds Try.pinned (OpenSpec.ofChange rodTestsSpec)

/-- ITS FALSE NEIGHBOUR: 'it returns false'. Refute it at one input. -/
def rodTestsWrong : ChangeSpec := { name := "rodTests", fn := fun _ => fun
  | [d] => { results := [.lit (.bool false)], args := [d] }
  | _ => none }
def RodTestsWrongFalsely : Prop := rodTestsRow.holds Try.pinned (OpenSpec.ofChange rodTestsWrong)

/-- 'musettelaw03.RodCharts': WHATEVER THE INPUT: true; the input reads as it did. -/
def rodChartsSpec : ChangeSpec := { name := "rodCharts", fn := fun _ => fun
  | [d1, d2, d3, d4, d5, d6] => { results := [.lit (.bool true)], args := [d1, d2, d3, d4, d5, d6] }
  | _ => none }
def rodChartsRow : OpenClaim := { program := "ythphpbdmbmiaiaa", sum := "d5c0df2f3b39d6f99c29be4e289a30920c9be3f033dd272196e46e2bd52266b4", func := "musette/musettelaw03.RodCharts", spec := "rodCharts", unfollowed := true, recurses := true, leaving := true, apart := false }
def RodChartsSaid : Prop := rodChartsRow.holds Try.pinned (OpenSpec.ofChange rodChartsSpec)

/-- ITS FALSE NEIGHBOUR: 'it returns false'. Refute it at one input. -/
def rodChartsWrong : ChangeSpec := { name := "rodCharts", fn := fun _ => fun
  | [d1, d2, d3, d4, d5, d6] => { results := [.lit (.bool false)], args := [d1, d2, d3, d4, d5, d6] }
  | _ => none }
def RodChartsWrongFalsely : Prop := rodChartsRow.holds Try.pinned (OpenSpec.ofChange rodChartsWrong)

/-- 'musettelaw03.RodFound': WHATEVER THE INPUT: true; the input reads as it did. -/
def rodFoundSpec : ChangeSpec := { name := "rodFound", fn := fun _ => fun
  | [d] => { results := [.lit (.bool true)], args := [d] }
  | _ => none }
def rodFoundRow : OpenClaim := { program := "ythphpbdmbmiaiaa", sum := "d5c0df2f3b39d6f99c29be4e289a30920c9be3f033dd272196e46e2bd52266b4", func := "musette/musettelaw03.RodFound", spec := "rodFound", unfollowed := true, recurses := true, leaving := true, apart := false }
def RodFoundSaid : Prop := rodFoundRow.holds Try.pinned (OpenSpec.ofChange rodFoundSpec)

/-- ITS FALSE NEIGHBOUR: 'it returns false'. Refute it at one input. -/
def rodFoundWrong : ChangeSpec := { name := "rodFound", fn := fun _ => fun
  | [d] => { results := [.lit (.bool false)], args := [d] }
  | _ => none }
def RodFoundWrongFalsely : Prop := rodFoundRow.holds Try.pinned (OpenSpec.ofChange rodFoundWrong)

/-- 'musettelaw03.RodUseless': WHATEVER THE INPUT: true; the input reads as it did. -/
def rodUselessSpec : ChangeSpec := { name := "rodUseless", fn := fun _ => fun
  | [d] => { results := [.lit (.bool true)], args := [d] }
  | _ => none }
def rodUselessRow : OpenClaim := { program := "ythphpbdmbmiaiaa", sum := "d5c0df2f3b39d6f99c29be4e289a30920c9be3f033dd272196e46e2bd52266b4", func := "musette/musettelaw03.RodUseless", spec := "rodUseless", unfollowed := true, recurses := true, leaving := true, apart := false }
def RodUselessSaid : Prop := rodUselessRow.holds Try.pinned (OpenSpec.ofChange rodUselessSpec)

/-- ITS FALSE NEIGHBOUR: 'it returns false'. Refute it at one input. -/
def rodUselessWrong : ChangeSpec := { name := "rodUseless", fn := fun _ => fun
  | [d] => { results := [.lit (.bool false)], args := [d] }
  | _ => none }
def RodUselessWrongFalsely : Prop := rodUselessRow.holds Try.pinned (OpenSpec.ofChange rodUselessWrong)

/-- 'musettelaw03.RodFaults': WHATEVER THE INPUT: true; the input reads as it did. -/
def rodFaultsSpec : ChangeSpec := { name := "rodFaults", fn := fun _ => fun
  | [d1, d2, d3, d4] => { results := [.lit (.bool true)], args := [d1, d2, d3, d4] }
  | _ => none }
def rodFaultsRow : OpenClaim := { program := "ythphpbdmbmiaiaa", sum := "d5c0df2f3b39d6f99c29be4e289a30920c9be3f033dd272196e46e2bd52266b4", func := "musette/musettelaw03.RodFaults", spec := "rodFaults", unfollowed := true, recurses := true, leaving := true, apart := false }
def RodFaultsSaid : Prop := rodFaultsRow.holds Try.pinned (OpenSpec.ofChange rodFaultsSpec)

/-- ITS FALSE NEIGHBOUR: 'it returns false'. Refute it at one input. -/
def rodFaultsWrong : ChangeSpec := { name := "rodFaults", fn := fun _ => fun
  | [d1, d2, d3, d4] => { results := [.lit (.bool false)], args := [d1, d2, d3, d4] }
  | _ => none }
def RodFaultsWrongFalsely : Prop := rodFaultsRow.holds Try.pinned (OpenSpec.ofChange rodFaultsWrong)

/-- 'musettelaw03.RodFewest': WHATEVER THE INPUT: true; the input reads as it did. -/
def rodFewestSpec : ChangeSpec := { name := "rodFewest", fn := fun _ => fun
  | [d] => { results := [.lit (.bool true)], args := [d] }
  | _ => none }
def rodFewestRow : OpenClaim := { program := "ythphpbdmbmiaiaa", sum := "d5c0df2f3b39d6f99c29be4e289a30920c9be3f033dd272196e46e2bd52266b4", func := "musette/musettelaw03.RodFewest", spec := "rodFewest", unfollowed := true, recurses := true, leaving := true, apart := false }
def RodFewestSaid : Prop := rodFewestRow.holds Try.pinned (OpenSpec.ofChange rodFewestSpec)

/-- ITS FALSE NEIGHBOUR: 'it returns false'. Refute it at one input. -/
def rodFewestWrong : ChangeSpec := { name := "rodFewest", fn := fun _ => fun
  | [d] => { results := [.lit (.bool false)], args := [d] }
  | _ => none }
def RodFewestWrongFalsely : Prop := rodFewestRow.holds Try.pinned (OpenSpec.ofChange rodFewestWrong)

/-- 'musettelaw03.RodPlays': WHATEVER THE INPUT: true; the input reads as it did. -/
def rodPlaysSpec : ChangeSpec := { name := "rodPlays", fn := fun _ => fun
  | [d1, d2, d3, d4, d5] => { results := [.lit (.bool true)], args := [d1, d2, d3, d4, d5] }
  | _ => none }
def rodPlaysRow : OpenClaim := { program := "ythphpbdmbmiaiaa", sum := "d5c0df2f3b39d6f99c29be4e289a30920c9be3f033dd272196e46e2bd52266b4", func := "musette/musettelaw03.RodPlays", spec := "rodPlays", inPlace := ["slices.overlaps[int]"], unfollowed := true, recurses := true, leaving := true, apart := false }
def RodPlaysSaid : Prop := rodPlaysRow.holds Try.pinned (OpenSpec.ofChange rodPlaysSpec)

/-- ITS FALSE NEIGHBOUR: 'it returns false'. Refute it at one input. -/
def rodPlaysWrong : ChangeSpec := { name := "rodPlays", fn := fun _ => fun
  | [d1, d2, d3, d4, d5] => { results := [.lit (.bool false)], args := [d1, d2, d3, d4, d5] }
  | _ => none }
def RodPlaysWrongFalsely : Prop := rodPlaysRow.holds Try.pinned (OpenSpec.ofChange rodPlaysWrong)

/-- 'musettelaw03.RodOrder': WHATEVER THE INPUT: true; the input reads as it did. -/
def rodOrderSpec : ChangeSpec := { name := "rodOrder", fn := fun _ => fun
  | [d] => { results := [.lit (.bool true)], args := [d] }
  | _ => none }
def rodOrderRow : OpenClaim := { program := "ythphpbdmbmiaiaa", sum := "d5c0df2f3b39d6f99c29be4e289a30920c9be3f033dd272196e46e2bd52266b4", func := "musette/musettelaw03.RodOrder", spec := "rodOrder", inPlace := ["slices.overlaps[int]"], unfollowed := true, recurses := true, leaving := true, apart := false }
def RodOrderSaid : Prop := rodOrderRow.holds Try.pinned (OpenSpec.ofChange rodOrderSpec)

/-- ITS FALSE NEIGHBOUR: 'it returns false'. Refute it at one input. -/
def rodOrderWrong : ChangeSpec := { name := "rodOrder", fn := fun _ => fun
  | [d] => { results := [.lit (.bool false)], args := [d] }
  | _ => none }
def RodOrderWrongFalsely : Prop := rodOrderRow.holds Try.pinned (OpenSpec.ofChange rodOrderWrong)

/- THE SECOND FORM. 'bulk': how many values and letters a reading holds, each counted each time it is reached (what is shared counts as often as it is met; a slice's spare places count too). A statement '..UptoSaid' is the law's where the arguments, and the package variables that the reading takes, are together of bulk at most 1048576: NARROWER than '..Said'. Prove '..Said' where nothing that the law and all that it calls make is longer than what came in: it says more and counts as full. Else prove '..UptoSaid'. A law counts once. -/
mutual
def uptoBulk {H : Type} : DataW H → Nat
  | .lit (.string bytes) => bytes.length + 1
  | .lit _ => 1
  | .nil => 1
  | .ptr d => uptoBulk d + 1
  | .slice elems spare => uptoBulkAll elems + uptoBulkAll spare + 1
  | .agg parts => uptoBulkAll parts + 1
  | .iface _ d => uptoBulk d + 1
  | .map entries => uptoBulkEntries entries + 1
  | .held _ => 1
def uptoBulkAll {H : Type} : List (DataW H) → Nat
  | [] => 0
  | d :: r => uptoBulk d + uptoBulkAll r
def uptoBulkEntries {H : Type} : List (Lit × DataW H) → Nat
  | [] => 0
  | x :: r => uptoBulkEntry x + uptoBulkEntries r
def uptoBulkEntry {H : Type} : Lit × DataW H → Nat
  | (.string bytes, d) => bytes.length + uptoBulk d + 1
  | (_, d) => uptoBulk d + 1
 end
def uptoSmall : (H : Type) → List (DataW H) → Bool := fun _ ds => decide (uptoBulkAll ds ≤ 1048576)
def OpenSpec.upto (s : _root_.Go.ChangeSpec) : _root_.Go.OpenSpec := { _root_.Go.OpenSpec.ofChange s with cond := some uptoSmall }

/-- 'musettelaw03.RodMore', WHERE WHAT IT READS IS OF BULK AT MOST 1048576: true; the input reads as it did. -/
def rodMoreUptoRow : OpenClaim := { program := "ythphpbdmbmiaiaa", sum := "d5c0df2f3b39d6f99c29be4e289a30920c9be3f033dd272196e46e2bd52266b4", func := "musette/musettelaw03.RodMore", spec := "rodMore", unfollowed := true, recurses := true, leaving := true, apart := false, narrowed := true }
def RodMoreUptoSaid : Prop := rodMoreUptoRow.holds Try.pinned (OpenSpec.upto rodMoreSpec)

/-- 'musettelaw03.RodSteps', WHERE WHAT IT READS IS OF BULK AT MOST 1048576: true; the input reads as it did. -/
def rodStepsUptoRow : OpenClaim := { program := "ythphpbdmbmiaiaa", sum := "d5c0df2f3b39d6f99c29be4e289a30920c9be3f033dd272196e46e2bd52266b4", func := "musette/musettelaw03.RodSteps", spec := "rodSteps", unfollowed := true, recurses := true, leaving := true, apart := false, narrowed := true }
def RodStepsUptoSaid : Prop := rodStepsUptoRow.holds Try.pinned (OpenSpec.upto rodStepsSpec)

/-- 'musettelaw03.RodRenamed', WHERE WHAT IT READS IS OF BULK AT MOST 1048576: true; the input reads as it did. -/
def rodRenamedUptoRow : OpenClaim := { program := "ythphpbdmbmiaiaa", sum := "d5c0df2f3b39d6f99c29be4e289a30920c9be3f033dd272196e46e2bd52266b4", func := "musette/musettelaw03.RodRenamed", spec := "rodRenamed", unfollowed := true, recurses := true, leaving := true, apart := false, narrowed := true }
def RodRenamedUptoSaid : Prop := rodRenamedUptoRow.holds Try.pinned (OpenSpec.upto rodRenamedSpec)

/-- 'musettelaw03.RodSounds', WHERE WHAT IT READS IS OF BULK AT MOST 1048576: true; the input reads as it did. -/
def rodSoundsUptoRow : OpenClaim := { program := "ythphpbdmbmiaiaa", sum := "d5c0df2f3b39d6f99c29be4e289a30920c9be3f033dd272196e46e2bd52266b4", func := "musette/musettelaw03.RodSounds", spec := "rodSounds", unfollowed := true, recurses := true, leaving := true, apart := false, narrowed := true }
def RodSoundsUptoSaid : Prop := rodSoundsUptoRow.holds Try.pinned (OpenSpec.upto rodSoundsSpec)

/-- 'musettelaw03.RodDeep', WHERE WHAT IT READS IS OF BULK AT MOST 1048576: true; the input reads as it did. -/
def rodDeepUptoRow : OpenClaim := { program := "ythphpbdmbmiaiaa", sum := "d5c0df2f3b39d6f99c29be4e289a30920c9be3f033dd272196e46e2bd52266b4", func := "musette/musettelaw03.RodDeep", spec := "rodDeep", unfollowed := true, recurses := true, leaving := true, apart := false, narrowed := true }
def RodDeepUptoSaid : Prop := rodDeepUptoRow.holds Try.pinned (OpenSpec.upto rodDeepSpec)

/-- 'musettelaw03.RodChords', WHERE WHAT IT READS IS OF BULK AT MOST 1048576: true; the input reads as it did. -/
def rodChordsUptoRow : OpenClaim := { program := "ythphpbdmbmiaiaa", sum := "d5c0df2f3b39d6f99c29be4e289a30920c9be3f033dd272196e46e2bd52266b4", func := "musette/musettelaw03.RodChords", spec := "rodChords", unfollowed := true, recurses := true, leaving := true, apart := false, narrowed := true }
def RodChordsUptoSaid : Prop := rodChordsUptoRow.holds Try.pinned (OpenSpec.upto rodChordsSpec)

/-- 'musettelaw03.RodTests', WHERE WHAT IT READS IS OF BULK AT MOST 1048576: true; the input reads as it did. -/
def rodTestsUptoRow : OpenClaim := { program := "ythphpbdmbmiaiaa", sum := "d5c0df2f3b39d6f99c29be4e289a30920c9be3f033dd272196e46e2bd52266b4", func := "musette/musettelaw03.RodTests", spec := "rodTests", unfollowed := true, recurses := true, leaving := true, apart := false, narrowed := true }
def RodTestsUptoSaid : Prop := rodTestsUptoRow.holds Try.pinned (OpenSpec.upto rodTestsSpec)

/-- 'musettelaw03.RodCharts', WHERE WHAT IT READS IS OF BULK AT MOST 1048576: true; the input reads as it did. -/
def rodChartsUptoRow : OpenClaim := { program := "ythphpbdmbmiaiaa", sum := "d5c0df2f3b39d6f99c29be4e289a30920c9be3f033dd272196e46e2bd52266b4", func := "musette/musettelaw03.RodCharts", spec := "rodCharts", unfollowed := true, recurses := true, leaving := true, apart := false, narrowed := true }
def RodChartsUptoSaid : Prop := rodChartsUptoRow.holds Try.pinned (OpenSpec.upto rodChartsSpec)

/-- 'musettelaw03.RodFound', WHERE WHAT IT READS IS OF BULK AT MOST 1048576: true; the input reads as it did. -/
def rodFoundUptoRow : OpenClaim := { program := "ythphpbdmbmiaiaa", sum := "d5c0df2f3b39d6f99c29be4e289a30920c9be3f033dd272196e46e2bd52266b4", func := "musette/musettelaw03.RodFound", spec := "rodFound", unfollowed := true, recurses := true, leaving := true, apart := false, narrowed := true }
def RodFoundUptoSaid : Prop := rodFoundUptoRow.holds Try.pinned (OpenSpec.upto rodFoundSpec)

/-- 'musettelaw03.RodUseless', WHERE WHAT IT READS IS OF BULK AT MOST 1048576: true; the input reads as it did. -/
def rodUselessUptoRow : OpenClaim := { program := "ythphpbdmbmiaiaa", sum := "d5c0df2f3b39d6f99c29be4e289a30920c9be3f033dd272196e46e2bd52266b4", func := "musette/musettelaw03.RodUseless", spec := "rodUseless", unfollowed := true, recurses := true, leaving := true, apart := false, narrowed := true }
def RodUselessUptoSaid : Prop := rodUselessUptoRow.holds Try.pinned (OpenSpec.upto rodUselessSpec)

/-- 'musettelaw03.RodFaults', WHERE WHAT IT READS IS OF BULK AT MOST 1048576: true; the input reads as it did. -/
def rodFaultsUptoRow : OpenClaim := { program := "ythphpbdmbmiaiaa", sum := "d5c0df2f3b39d6f99c29be4e289a30920c9be3f033dd272196e46e2bd52266b4", func := "musette/musettelaw03.RodFaults", spec := "rodFaults", unfollowed := true, recurses := true, leaving := true, apart := false, narrowed := true }
def RodFaultsUptoSaid : Prop := rodFaultsUptoRow.holds Try.pinned (OpenSpec.upto rodFaultsSpec)

/-- 'musettelaw03.RodFewest', WHERE WHAT IT READS IS OF BULK AT MOST 1048576: true; the input reads as it did. -/
def rodFewestUptoRow : OpenClaim := { program := "ythphpbdmbmiaiaa", sum := "d5c0df2f3b39d6f99c29be4e289a30920c9be3f033dd272196e46e2bd52266b4", func := "musette/musettelaw03.RodFewest", spec := "rodFewest", unfollowed := true, recurses := true, leaving := true, apart := false, narrowed := true }
def RodFewestUptoSaid : Prop := rodFewestUptoRow.holds Try.pinned (OpenSpec.upto rodFewestSpec)

/-- 'musettelaw03.RodPlays', WHERE WHAT IT READS IS OF BULK AT MOST 1048576: true; the input reads as it did. -/
def rodPlaysUptoRow : OpenClaim := { program := "ythphpbdmbmiaiaa", sum := "d5c0df2f3b39d6f99c29be4e289a30920c9be3f033dd272196e46e2bd52266b4", func := "musette/musettelaw03.RodPlays", spec := "rodPlays", inPlace := ["slices.overlaps[int]"], unfollowed := true, recurses := true, leaving := true, apart := false, narrowed := true }
def RodPlaysUptoSaid : Prop := rodPlaysUptoRow.holds Try.pinned (OpenSpec.upto rodPlaysSpec)

/-- 'musettelaw03.RodOrder', WHERE WHAT IT READS IS OF BULK AT MOST 1048576: true; the input reads as it did. -/
def rodOrderUptoRow : OpenClaim := { program := "ythphpbdmbmiaiaa", sum := "d5c0df2f3b39d6f99c29be4e289a30920c9be3f033dd272196e46e2bd52266b4", func := "musette/musettelaw03.RodOrder", spec := "rodOrder", inPlace := ["slices.overlaps[int]"], unfollowed := true, recurses := true, leaving := true, apart := false, narrowed := true }
def RodOrderUptoSaid : Prop := rodOrderUptoRow.holds Try.pinned (OpenSpec.upto rodOrderSpec)

end Rows
end Go.Proofs.Ythphpbdmbmiaiaa
