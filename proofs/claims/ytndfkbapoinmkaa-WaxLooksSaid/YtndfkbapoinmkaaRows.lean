/-
  No cell of these rows narrows 'for every input' (looked for: loops, veiled, ifaces, maps, wideKeys, modest, calm, conditions, laid).
  DERIVED. THE GIVEN ROWS OF THIS SEAT. 15 by the template 'for every input the law returns true; each argument reads behind the call as it read before'; 0 by the template 'total and deterministic' (their statements: YtndfkbapoinmkaaTotals.lean).
  GIVEN WITH THE SEED: the statements are not yours to turn. If you find one false, say at which input.
  Laid BY PROGRAM, IN A SANDBOX (cutbox-rows.mjs): the forced cells as the released guide's own fill.sh prints them over the translation c003d5c45f64b848… (all of the seat's roots in one cut). By AI agents, Wed Nov 11 2026. No macro, syntax, notation, axiom, sorry.
-/
import Derived.Test.YtndfkbapoinmkaaChecked
import GoSem.Claim
import GoSem.ClaimJoined
import GoSem.ClaimMapViews
import Derived.JoinedTies
import Derived.KernelRfl
namespace Go.Proofs.Ytndfkbapoinmkaa
/- THE CELL 'sum', in the pinned program and in every row, IS THE sha256 OF THE DUMP (.gsa) THAT YtndfkbapoinmkaaProg.lean LOADS. Nothing in Lean hashes anything: it is a label: what it is worth is what the hold of that sum in a sandbox is worth. -/
noncomputable def Try.pinned : Pinned := { name := "ytndfkbapoinmkaa", sum := "c003d5c45f64b848e50d45d278436741956f1dba296be68a4f9057f04092179c", checked := Try.checked }
namespace Rows
def none {H : Type} : Left H := { results := [], args := [] }

/-- 'musettelaw06.WaxFails': WHATEVER THE INPUT: true; the input reads as it did. -/
def waxFailsSpec : ChangeSpec := { name := "waxFails", fn := fun _ => fun
  | [d1, d2, d3, d4] => { results := [.lit (.bool true)], args := [d1, d2, d3, d4] }
  | _ => none }
def waxFailsRow : OpenClaim := { program := "ytndfkbapoinmkaa", sum := "c003d5c45f64b848e50d45d278436741956f1dba296be68a4f9057f04092179c", func := "musette/musettelaw06.WaxFails", spec := "waxFails", unfollowed := true, recurses := true, plainKeys := false, apart := false }
def WaxFailsSaid : Prop := waxFailsRow.holds Try.pinned (OpenSpec.ofChange waxFailsSpec)

/-- ITS FALSE NEIGHBOUR: 'it returns false'. Refute it at one input. -/
def waxFailsWrong : ChangeSpec := { name := "waxFails", fn := fun _ => fun
  | [d1, d2, d3, d4] => { results := [.lit (.bool false)], args := [d1, d2, d3, d4] }
  | _ => none }
def WaxFailsWrongFalsely : Prop := waxFailsRow.holds Try.pinned (OpenSpec.ofChange waxFailsWrong)

/-- 'musettelaw06.WaxLater': WHATEVER THE INPUT: true; the input reads as it did. -/
def waxLaterSpec : ChangeSpec := { name := "waxLater", fn := fun _ => fun
  | [d] => { results := [.lit (.bool true)], args := [d] }
  | _ => none }
def waxLaterRow : OpenClaim := { program := "ytndfkbapoinmkaa", sum := "c003d5c45f64b848e50d45d278436741956f1dba296be68a4f9057f04092179c", func := "musette/musettelaw06.WaxLater", spec := "waxLater", unfollowed := true, recurses := true, plainKeys := false, apart := false }
def WaxLaterSaid : Prop := waxLaterRow.holds Try.pinned (OpenSpec.ofChange waxLaterSpec)

/-- ITS FALSE NEIGHBOUR: 'it returns false'. Refute it at one input. -/
def waxLaterWrong : ChangeSpec := { name := "waxLater", fn := fun _ => fun
  | [d] => { results := [.lit (.bool false)], args := [d] }
  | _ => none }
def WaxLaterWrongFalsely : Prop := waxLaterRow.holds Try.pinned (OpenSpec.ofChange waxLaterWrong)

/-- 'musettelaw06.WaxMargin': WHATEVER THE INPUT: true; the input reads as it did. -/
def waxMarginSpec : ChangeSpec := { name := "waxMargin", fn := fun _ => fun
  | [d] => { results := [.lit (.bool true)], args := [d] }
  | _ => none }
def waxMarginRow : OpenClaim := { program := "ytndfkbapoinmkaa", sum := "c003d5c45f64b848e50d45d278436741956f1dba296be68a4f9057f04092179c", func := "musette/musettelaw06.WaxMargin", spec := "waxMargin", unfollowed := true, recurses := true, plainKeys := false, apart := false }
def WaxMarginSaid : Prop := waxMarginRow.holds Try.pinned (OpenSpec.ofChange waxMarginSpec)

/-- ITS FALSE NEIGHBOUR: 'it returns false'. Refute it at one input. -/
def waxMarginWrong : ChangeSpec := { name := "waxMargin", fn := fun _ => fun
  | [d] => { results := [.lit (.bool false)], args := [d] }
  | _ => none }
def WaxMarginWrongFalsely : Prop := waxMarginRow.holds Try.pinned (OpenSpec.ofChange waxMarginWrong)

/-- 'musettelaw06.WaxApart': WHATEVER THE INPUT: true; the input reads as it did. -/
def waxApartSpec : ChangeSpec := { name := "waxApart", fn := fun _ => fun
  | [d] => { results := [.lit (.bool true)], args := [d] }
  | _ => none }
def waxApartRow : OpenClaim := { program := "ytndfkbapoinmkaa", sum := "c003d5c45f64b848e50d45d278436741956f1dba296be68a4f9057f04092179c", func := "musette/musettelaw06.WaxApart", spec := "waxApart", unfollowed := true, recurses := true, plainKeys := false, apart := false }
def WaxApartSaid : Prop := waxApartRow.holds Try.pinned (OpenSpec.ofChange waxApartSpec)

/-- ITS FALSE NEIGHBOUR: 'it returns false'. Refute it at one input. -/
def waxApartWrong : ChangeSpec := { name := "waxApart", fn := fun _ => fun
  | [d] => { results := [.lit (.bool false)], args := [d] }
  | _ => none }
def WaxApartWrongFalsely : Prop := waxApartRow.holds Try.pinned (OpenSpec.ofChange waxApartWrong)

/-- 'musettelaw06.WaxLooks': WHATEVER THE INPUT: true; the input reads as it did. -/
def waxLooksSpec : ChangeSpec := { name := "waxLooks", fn := fun _ => fun
  | [d1, d2, d3, d4] => { results := [.lit (.bool true)], args := [d1, d2, d3, d4] }
  | _ => none }
def waxLooksRow : OpenClaim := { program := "ytndfkbapoinmkaa", sum := "c003d5c45f64b848e50d45d278436741956f1dba296be68a4f9057f04092179c", func := "musette/musettelaw06.WaxLooks", spec := "waxLooks", unfollowed := true, recurses := true, plainKeys := false, apart := false }
def WaxLooksSaid : Prop := waxLooksRow.holds Try.pinned (OpenSpec.ofChange waxLooksSpec)

/-- ITS FALSE NEIGHBOUR: 'it returns false'. Refute it at one input. -/
def waxLooksWrong : ChangeSpec := { name := "waxLooks", fn := fun _ => fun
  | [d1, d2, d3, d4] => { results := [.lit (.bool false)], args := [d1, d2, d3, d4] }
  | _ => none }
def WaxLooksWrongFalsely : Prop := waxLooksRow.holds Try.pinned (OpenSpec.ofChange waxLooksWrong)

/-- 'musettelaw06.WaxLooked': WHATEVER THE INPUT: true; the input reads as it did. -/
def waxLookedSpec : ChangeSpec := { name := "waxLooked", fn := fun _ => fun
  | [d] => { results := [.lit (.bool true)], args := [d] }
  | _ => none }
def waxLookedRow : OpenClaim := { program := "ytndfkbapoinmkaa", sum := "c003d5c45f64b848e50d45d278436741956f1dba296be68a4f9057f04092179c", func := "musette/musettelaw06.WaxLooked", spec := "waxLooked", unfollowed := true, recurses := true, plainKeys := false, apart := false }
def WaxLookedSaid : Prop := waxLookedRow.holds Try.pinned (OpenSpec.ofChange waxLookedSpec)

/-- ITS FALSE NEIGHBOUR: 'it returns false'. Refute it at one input. -/
def waxLookedWrong : ChangeSpec := { name := "waxLooked", fn := fun _ => fun
  | [d] => { results := [.lit (.bool false)], args := [d] }
  | _ => none }
def WaxLookedWrongFalsely : Prop := waxLookedRow.holds Try.pinned (OpenSpec.ofChange waxLookedWrong)

/-- 'musettelaw06.WaxFirst': WHATEVER THE INPUT: true; the input reads as it did. -/
def waxFirstSpec : ChangeSpec := { name := "waxFirst", fn := fun _ => fun
  | [d1, d2, d3] => { results := [.lit (.bool true)], args := [d1, d2, d3] }
  | _ => none }
def waxFirstRow : OpenClaim := { program := "ytndfkbapoinmkaa", sum := "c003d5c45f64b848e50d45d278436741956f1dba296be68a4f9057f04092179c", func := "musette/musettelaw06.WaxFirst", spec := "waxFirst", unfollowed := true, recurses := true, plainKeys := false, apart := false }
def WaxFirstSaid : Prop := waxFirstRow.holds Try.pinned (OpenSpec.ofChange waxFirstSpec)

/-- ITS FALSE NEIGHBOUR: 'it returns false'. Refute it at one input. -/
def waxFirstWrong : ChangeSpec := { name := "waxFirst", fn := fun _ => fun
  | [d1, d2, d3] => { results := [.lit (.bool false)], args := [d1, d2, d3] }
  | _ => none }
def WaxFirstWrongFalsely : Prop := waxFirstRow.holds Try.pinned (OpenSpec.ofChange waxFirstWrong)

/-- 'musettelaw06.WaxWeather': WHATEVER THE INPUT: true; the input reads as it did. -/
def waxWeatherSpec : ChangeSpec := { name := "waxWeather", fn := fun _ => fun
  | [d1, d2, d3, d4] => { results := [.lit (.bool true)], args := [d1, d2, d3, d4] }
  | _ => none }
def waxWeatherRow : OpenClaim := { program := "ytndfkbapoinmkaa", sum := "c003d5c45f64b848e50d45d278436741956f1dba296be68a4f9057f04092179c", func := "musette/musettelaw06.WaxWeather", spec := "waxWeather", unfollowed := true, recurses := true, plainKeys := false, apart := false }
def WaxWeatherSaid : Prop := waxWeatherRow.holds Try.pinned (OpenSpec.ofChange waxWeatherSpec)

/-- ITS FALSE NEIGHBOUR: 'it returns false'. Refute it at one input. -/
def waxWeatherWrong : ChangeSpec := { name := "waxWeather", fn := fun _ => fun
  | [d1, d2, d3, d4] => { results := [.lit (.bool false)], args := [d1, d2, d3, d4] }
  | _ => none }
def WaxWeatherWrongFalsely : Prop := waxWeatherRow.holds Try.pinned (OpenSpec.ofChange waxWeatherWrong)

/-- 'musettelaw06.WaxHarder': WHATEVER THE INPUT: true; the input reads as it did. -/
def waxHarderSpec : ChangeSpec := { name := "waxHarder", fn := fun _ => fun
  | [d1, d2, d3, d4, d5, d6, d7, d8] => { results := [.lit (.bool true)], args := [d1, d2, d3, d4, d5, d6, d7, d8] }
  | _ => none }
def waxHarderRow : OpenClaim := { program := "ytndfkbapoinmkaa", sum := "c003d5c45f64b848e50d45d278436741956f1dba296be68a4f9057f04092179c", func := "musette/musettelaw06.WaxHarder", spec := "waxHarder", unfollowed := true, recurses := true, plainKeys := false, apart := false }
def WaxHarderSaid : Prop := waxHarderRow.holds Try.pinned (OpenSpec.ofChange waxHarderSpec)

/-- ITS FALSE NEIGHBOUR: 'it returns false'. Refute it at one input. -/
def waxHarderWrong : ChangeSpec := { name := "waxHarder", fn := fun _ => fun
  | [d1, d2, d3, d4, d5, d6, d7, d8] => { results := [.lit (.bool false)], args := [d1, d2, d3, d4, d5, d6, d7, d8] }
  | _ => none }
def WaxHarderWrongFalsely : Prop := waxHarderRow.holds Try.pinned (OpenSpec.ofChange waxHarderWrong)

/-- 'musettelaw06.WaxHotter': WHATEVER THE INPUT: true; the input reads as it did. -/
def waxHotterSpec : ChangeSpec := { name := "waxHotter", fn := fun _ => fun
  | [d] => { results := [.lit (.bool true)], args := [d] }
  | _ => none }
def waxHotterRow : OpenClaim := { program := "ytndfkbapoinmkaa", sum := "c003d5c45f64b848e50d45d278436741956f1dba296be68a4f9057f04092179c", func := "musette/musettelaw06.WaxHotter", spec := "waxHotter", unfollowed := true, recurses := true, plainKeys := false, apart := false }
def WaxHotterSaid : Prop := waxHotterRow.holds Try.pinned (OpenSpec.ofChange waxHotterSpec)

/-- ITS FALSE NEIGHBOUR: 'it returns false'. Refute it at one input. -/
def waxHotterWrong : ChangeSpec := { name := "waxHotter", fn := fun _ => fun
  | [d] => { results := [.lit (.bool false)], args := [d] }
  | _ => none }
def WaxHotterWrongFalsely : Prop := waxHotterRow.holds Try.pinned (OpenSpec.ofChange waxHotterWrong)

/-- 'musettelaw06.WaxBetter': WHATEVER THE INPUT: true; the input reads as it did. -/
def waxBetterSpec : ChangeSpec := { name := "waxBetter", fn := fun _ => fun
  | [d] => { results := [.lit (.bool true)], args := [d] }
  | _ => none }
def waxBetterRow : OpenClaim := { program := "ytndfkbapoinmkaa", sum := "c003d5c45f64b848e50d45d278436741956f1dba296be68a4f9057f04092179c", func := "musette/musettelaw06.WaxBetter", spec := "waxBetter", unfollowed := true, recurses := true, plainKeys := false, apart := false }
def WaxBetterSaid : Prop := waxBetterRow.holds Try.pinned (OpenSpec.ofChange waxBetterSpec)

/-- ITS FALSE NEIGHBOUR: 'it returns false'. Refute it at one input. -/
def waxBetterWrong : ChangeSpec := { name := "waxBetter", fn := fun _ => fun
  | [d] => { results := [.lit (.bool false)], args := [d] }
  | _ => none }
def WaxBetterWrongFalsely : Prop := waxBetterRow.holds Try.pinned (OpenSpec.ofChange waxBetterWrong)

/-- 'musettelaw06.WaxAll': WHATEVER THE INPUT: true; the input reads as it did. -/
def waxAllSpec : ChangeSpec := { name := "waxAll", fn := fun _ => fun
  | [d] => { results := [.lit (.bool true)], args := [d] }
  | _ => none }
def waxAllRow : OpenClaim := { program := "ytndfkbapoinmkaa", sum := "c003d5c45f64b848e50d45d278436741956f1dba296be68a4f9057f04092179c", func := "musette/musettelaw06.WaxAll", spec := "waxAll", unfollowed := true, recurses := true, plainKeys := false, apart := false }
def WaxAllSaid : Prop := waxAllRow.holds Try.pinned (OpenSpec.ofChange waxAllSpec)

/-- ITS FALSE NEIGHBOUR: 'it returns false'. Refute it at one input. -/
def waxAllWrong : ChangeSpec := { name := "waxAll", fn := fun _ => fun
  | [d] => { results := [.lit (.bool false)], args := [d] }
  | _ => none }
def WaxAllWrongFalsely : Prop := waxAllRow.holds Try.pinned (OpenSpec.ofChange waxAllWrong)

/-- 'musettelaw06.WaxWrong': WHATEVER THE INPUT: true; the input reads as it did. -/
def waxWrongSpec : ChangeSpec := { name := "waxWrong", fn := fun _ => fun
  | [d1, d2, d3, d4] => { results := [.lit (.bool true)], args := [d1, d2, d3, d4] }
  | _ => none }
def waxWrongRow : OpenClaim := { program := "ytndfkbapoinmkaa", sum := "c003d5c45f64b848e50d45d278436741956f1dba296be68a4f9057f04092179c", func := "musette/musettelaw06.WaxWrong", spec := "waxWrong", unfollowed := true, recurses := true, plainKeys := false, apart := false }
def WaxWrongSaid : Prop := waxWrongRow.holds Try.pinned (OpenSpec.ofChange waxWrongSpec)

/-- ITS FALSE NEIGHBOUR: 'it returns false'. Refute it at one input. -/
def waxWrongWrong : ChangeSpec := { name := "waxWrong", fn := fun _ => fun
  | [d1, d2, d3, d4] => { results := [.lit (.bool false)], args := [d1, d2, d3, d4] }
  | _ => none }
def WaxWrongWrongFalsely : Prop := waxWrongRow.holds Try.pinned (OpenSpec.ofChange waxWrongWrong)

/-- 'musettelaw06.WaxFewest': WHATEVER THE INPUT: true; the input reads as it did. -/
def waxFewestSpec : ChangeSpec := { name := "waxFewest", fn := fun _ => fun
  | [d] => { results := [.lit (.bool true)], args := [d] }
  | _ => none }
def waxFewestRow : OpenClaim := { program := "ytndfkbapoinmkaa", sum := "c003d5c45f64b848e50d45d278436741956f1dba296be68a4f9057f04092179c", func := "musette/musettelaw06.WaxFewest", spec := "waxFewest", unfollowed := true, recurses := true, plainKeys := false, apart := false }
def WaxFewestSaid : Prop := waxFewestRow.holds Try.pinned (OpenSpec.ofChange waxFewestSpec)

/-- ITS FALSE NEIGHBOUR: 'it returns false'. Refute it at one input. -/
def waxFewestWrong : ChangeSpec := { name := "waxFewest", fn := fun _ => fun
  | [d] => { results := [.lit (.bool false)], args := [d] }
  | _ => none }
def WaxFewestWrongFalsely : Prop := waxFewestRow.holds Try.pinned (OpenSpec.ofChange waxFewestWrong)

/-- 'musettelaw06.WaxTrue': WHATEVER THE INPUT: true; the input reads as it did. -/
def waxTrueSpec : ChangeSpec := { name := "waxTrue", fn := fun _ => fun
  | [d] => { results := [.lit (.bool true)], args := [d] }
  | _ => none }
def waxTrueRow : OpenClaim := { program := "ytndfkbapoinmkaa", sum := "c003d5c45f64b848e50d45d278436741956f1dba296be68a4f9057f04092179c", func := "musette/musettelaw06.WaxTrue", spec := "waxTrue", unfollowed := true, recurses := true, plainKeys := false, apart := false }
def WaxTrueSaid : Prop := waxTrueRow.holds Try.pinned (OpenSpec.ofChange waxTrueSpec)

/-- ITS FALSE NEIGHBOUR: 'it returns false'. Refute it at one input. -/
def waxTrueWrong : ChangeSpec := { name := "waxTrue", fn := fun _ => fun
  | [d] => { results := [.lit (.bool false)], args := [d] }
  | _ => none }
def WaxTrueWrongFalsely : Prop := waxTrueRow.holds Try.pinned (OpenSpec.ofChange waxTrueWrong)

/- THE SECOND FORM. 'bulk': how many values and letters a reading holds, each counted each time it is reached (what is shared counts as often as it is met; a slice's spare places count too). A statement '..UptoSaid' is the law's where the arguments, and the package variables that the reading takes, are together of bulk at most 1048576: NARROWER than '..Said'. Prove '..Said' where nothing that the law and all that it calls make is longer than what came in: it says more and counts as full. Else prove '..UptoSaid'. A law counts once. -/
mutual
def uptoBulk {H : Type} : DataW H → Nat
  | .lit (.string bytes) => bytes.length + 1
  | .lit _ => 1
  | .nil => 1
  | .ptr d => uptoBulk d + 1
  | .slice elems spare => uptoBulkAll elems + uptoBulkAll spare + 1
  | .agg parts => uptoBulkAll parts + 1
  | .iface _ d => uptoBulk d + 1
  | .map entries => uptoBulkEntries entries + 1
  | .held _ => 1
def uptoBulkAll {H : Type} : List (DataW H) → Nat
  | [] => 0
  | d :: r => uptoBulk d + uptoBulkAll r
def uptoBulkEntries {H : Type} : List (Lit × DataW H) → Nat
  | [] => 0
  | x :: r => uptoBulkEntry x + uptoBulkEntries r
def uptoBulkEntry {H : Type} : Lit × DataW H → Nat
  | (.string bytes, d) => bytes.length + uptoBulk d + 1
  | (_, d) => uptoBulk d + 1
 end
def uptoSmall : (H : Type) → List (DataW H) → Bool := fun _ ds => decide (uptoBulkAll ds ≤ 1048576)
def OpenSpec.upto (s : _root_.Go.ChangeSpec) : _root_.Go.OpenSpec := { _root_.Go.OpenSpec.ofChange s with cond := some uptoSmall }

/-- 'musettelaw06.WaxFails', WHERE WHAT IT READS IS OF BULK AT MOST 1048576: true; the input reads as it did. -/
def waxFailsUptoRow : OpenClaim := { program := "ytndfkbapoinmkaa", sum := "c003d5c45f64b848e50d45d278436741956f1dba296be68a4f9057f04092179c", func := "musette/musettelaw06.WaxFails", spec := "waxFails", unfollowed := true, recurses := true, plainKeys := false, apart := false, narrowed := true }
def WaxFailsUptoSaid : Prop := waxFailsUptoRow.holds Try.pinned (OpenSpec.upto waxFailsSpec)

/-- 'musettelaw06.WaxLater', WHERE WHAT IT READS IS OF BULK AT MOST 1048576: true; the input reads as it did. -/
def waxLaterUptoRow : OpenClaim := { program := "ytndfkbapoinmkaa", sum := "c003d5c45f64b848e50d45d278436741956f1dba296be68a4f9057f04092179c", func := "musette/musettelaw06.WaxLater", spec := "waxLater", unfollowed := true, recurses := true, plainKeys := false, apart := false, narrowed := true }
def WaxLaterUptoSaid : Prop := waxLaterUptoRow.holds Try.pinned (OpenSpec.upto waxLaterSpec)

/-- 'musettelaw06.WaxMargin', WHERE WHAT IT READS IS OF BULK AT MOST 1048576: true; the input reads as it did. -/
def waxMarginUptoRow : OpenClaim := { program := "ytndfkbapoinmkaa", sum := "c003d5c45f64b848e50d45d278436741956f1dba296be68a4f9057f04092179c", func := "musette/musettelaw06.WaxMargin", spec := "waxMargin", unfollowed := true, recurses := true, plainKeys := false, apart := false, narrowed := true }
def WaxMarginUptoSaid : Prop := waxMarginUptoRow.holds Try.pinned (OpenSpec.upto waxMarginSpec)

/-- 'musettelaw06.WaxApart', WHERE WHAT IT READS IS OF BULK AT MOST 1048576: true; the input reads as it did. -/
def waxApartUptoRow : OpenClaim := { program := "ytndfkbapoinmkaa", sum := "c003d5c45f64b848e50d45d278436741956f1dba296be68a4f9057f04092179c", func := "musette/musettelaw06.WaxApart", spec := "waxApart", unfollowed := true, recurses := true, plainKeys := false, apart := false, narrowed := true }
def WaxApartUptoSaid : Prop := waxApartUptoRow.holds Try.pinned (OpenSpec.upto waxApartSpec)

/-- 'musettelaw06.WaxLooks', WHERE WHAT IT READS IS OF BULK AT MOST 1048576: true; the input reads as it did. -/
def waxLooksUptoRow : OpenClaim := { program := "ytndfkbapoinmkaa", sum := "c003d5c45f64b848e50d45d278436741956f1dba296be68a4f9057f04092179c", func := "musette/musettelaw06.WaxLooks", spec := "waxLooks", unfollowed := true, recurses := true, plainKeys := false, apart := false, narrowed := true }
def WaxLooksUptoSaid : Prop := waxLooksUptoRow.holds Try.pinned (OpenSpec.upto waxLooksSpec)

/-- 'musettelaw06.WaxLooked', WHERE WHAT IT READS IS OF BULK AT MOST 1048576: true; the input reads as it did. -/
def waxLookedUptoRow : OpenClaim := { program := "ytndfkbapoinmkaa", sum := "c003d5c45f64b848e50d45d278436741956f1dba296be68a4f9057f04092179c", func := "musette/musettelaw06.WaxLooked", spec := "waxLooked", unfollowed := true, recurses := true, plainKeys := false, apart := false, narrowed := true }
def WaxLookedUptoSaid : Prop := waxLookedUptoRow.holds Try.pinned (OpenSpec.upto waxLookedSpec)

/-- 'musettelaw06.WaxFirst', WHERE WHAT IT READS IS OF BULK AT MOST 1048576: true; the input reads as it did. -/
def waxFirstUptoRow : OpenClaim := { program := "ytndfkbapoinmkaa", sum := "c003d5c45f64b848e50d45d278436741956f1dba296be68a4f9057f04092179c", func := "musette/musettelaw06.WaxFirst", spec := "waxFirst", unfollowed := true, recurses := true, plainKeys := false, apart := false, narrowed := true }
def WaxFirstUptoSaid : Prop := waxFirstUptoRow.holds Try.pinned (OpenSpec.upto waxFirstSpec)

/-- 'musettelaw06.WaxWeather', WHERE WHAT IT READS IS OF BULK AT MOST 1048576: true; the input reads as it did. -/
def waxWeatherUptoRow : OpenClaim := { program := "ytndfkbapoinmkaa", sum := "c003d5c45f64b848e50d45d278436741956f1dba296be68a4f9057f04092179c", func := "musette/musettelaw06.WaxWeather", spec := "waxWeather", unfollowed := true, recurses := true, plainKeys := false, apart := false, narrowed := true }
def WaxWeatherUptoSaid : Prop := waxWeatherUptoRow.holds Try.pinned (OpenSpec.upto waxWeatherSpec)

/-- 'musettelaw06.WaxHarder', WHERE WHAT IT READS IS OF BULK AT MOST 1048576: true; the input reads as it did. -/
def waxHarderUptoRow : OpenClaim := { program := "ytndfkbapoinmkaa", sum := "c003d5c45f64b848e50d45d278436741956f1dba296be68a4f9057f04092179c", func := "musette/musettelaw06.WaxHarder", spec := "waxHarder", unfollowed := true, recurses := true, plainKeys := false, apart := false, narrowed := true }
def WaxHarderUptoSaid : Prop := waxHarderUptoRow.holds Try.pinned (OpenSpec.upto waxHarderSpec)

/-- 'musettelaw06.WaxHotter', WHERE WHAT IT READS IS OF BULK AT MOST 1048576: true; the input reads as it did. -/
def waxHotterUptoRow : OpenClaim := { program := "ytndfkbapoinmkaa", sum := "c003d5c45f64b848e50d45d278436741956f1dba296be68a4f9057f04092179c", func := "musette/musettelaw06.WaxHotter", spec := "waxHotter", unfollowed := true, recurses := true, plainKeys := false, apart := false, narrowed := true }
def WaxHotterUptoSaid : Prop := waxHotterUptoRow.holds Try.pinned (OpenSpec.upto waxHotterSpec)

/-- 'musettelaw06.WaxBetter', WHERE WHAT IT READS IS OF BULK AT MOST 1048576: true; the input reads as it did. -/
def waxBetterUptoRow : OpenClaim := { program := "ytndfkbapoinmkaa", sum := "c003d5c45f64b848e50d45d278436741956f1dba296be68a4f9057f04092179c", func := "musette/musettelaw06.WaxBetter", spec := "waxBetter", unfollowed := true, recurses := true, plainKeys := false, apart := false, narrowed := true }
def WaxBetterUptoSaid : Prop := waxBetterUptoRow.holds Try.pinned (OpenSpec.upto waxBetterSpec)

/-- 'musettelaw06.WaxAll', WHERE WHAT IT READS IS OF BULK AT MOST 1048576: true; the input reads as it did. -/
def waxAllUptoRow : OpenClaim := { program := "ytndfkbapoinmkaa", sum := "c003d5c45f64b848e50d45d278436741956f1dba296be68a4f9057f04092179c", func := "musette/musettelaw06.WaxAll", spec := "waxAll", unfollowed := true, recurses := true, plainKeys := false, apart := false, narrowed := true }
def WaxAllUptoSaid : Prop := waxAllUptoRow.holds Try.pinned (OpenSpec.upto waxAllSpec)

/-- 'musettelaw06.WaxWrong', WHERE WHAT IT READS IS OF BULK AT MOST 1048576: true; the input reads as it did. -/
def waxWrongUptoRow : OpenClaim := { program := "ytndfkbapoinmkaa", sum := "c003d5c45f64b848e50d45d278436741956f1dba296be68a4f9057f04092179c", func := "musette/musettelaw06.WaxWrong", spec := "waxWrong", unfollowed := true, recurses := true, plainKeys := false, apart := false, narrowed := true }
def WaxWrongUptoSaid : Prop := waxWrongUptoRow.holds Try.pinned (OpenSpec.upto waxWrongSpec)

/-- 'musettelaw06.WaxFewest', WHERE WHAT IT READS IS OF BULK AT MOST 1048576: true; the input reads as it did. -/
def waxFewestUptoRow : OpenClaim := { program := "ytndfkbapoinmkaa", sum := "c003d5c45f64b848e50d45d278436741956f1dba296be68a4f9057f04092179c", func := "musette/musettelaw06.WaxFewest", spec := "waxFewest", unfollowed := true, recurses := true, plainKeys := false, apart := false, narrowed := true }
def WaxFewestUptoSaid : Prop := waxFewestUptoRow.holds Try.pinned (OpenSpec.upto waxFewestSpec)

/-- 'musettelaw06.WaxTrue', WHERE WHAT IT READS IS OF BULK AT MOST 1048576: true; the input reads as it did. -/
def waxTrueUptoRow : OpenClaim := { program := "ytndfkbapoinmkaa", sum := "c003d5c45f64b848e50d45d278436741956f1dba296be68a4f9057f04092179c", func := "musette/musettelaw06.WaxTrue", spec := "waxTrue", unfollowed := true, recurses := true, plainKeys := false, apart := false, narrowed := true }
def WaxTrueUptoSaid : Prop := waxTrueUptoRow.holds Try.pinned (OpenSpec.upto waxTrueSpec)

end Rows
end Go.Proofs.Ytndfkbapoinmkaa
