/-
  NARROWER THAN 'FOR EVERY INPUT', by the rows' own cells (each row's printed sentence says how): TuneTunings: laid · TunePitches: laid · TuneEvens: laid · TuneWrongs: laid · TuneTrue: laid · TuneEnds: laid · TuneNarrower: laid · TuneWider: laid · TuneEven: laid · TuneApart: laid · TuneSure: laid · TuneLeft: laid · TuneKnown: laid.
  DERIVED. THE GIVEN ROWS OF THIS SEAT. 13 by the template 'for every input the law returns true; each argument reads behind the call as it read before'; 0 by the template 'total and deterministic' (their statements: YtgehkojccmkggaaDoorTotals.lean).
  GIVEN WITH THE SEED: the statements are not yours to turn. If you find one false, say at which input.
  Laid BY PROGRAM, IN A SANDBOX (cutbox-rows.mjs): the forced cells as the released guide's own fill.sh prints them over the translation ffca86343d445152… (all of the seat's roots in one cut). By AI agents, Wed Nov 11 2026. No macro, syntax, notation, axiom, sorry.
-/
import Derived.Test.YtgehkojccmkggaaDoorChecked
import GoSem.Claim
import GoSem.ClaimJoined
import GoSem.ClaimMapViews
import Derived.JoinedTies
import Derived.KernelRfl
namespace Go.Proofs.YtgehkojccmkggaaDoor
/- THE CELL 'sum', in the pinned program and in every row, IS THE sha256 OF THE DUMP (.gsa) THAT YtgehkojccmkggaaDoorProg.lean LOADS. Nothing in Lean hashes anything: it is a label: what it is worth is what the hold of that sum in a sandbox is worth. -/
noncomputable def Tryd.pinned : Pinned := { name := "ytgehkojccmkggaadoor", sum := "ffca86343d445152a76258dca946f652b8624f16b754194c2b7a9e57c3887268", checked := Tryd.checked }
namespace Rows
def none {H : Type} : Left H := { results := [], args := [] }

/- WHAT THE LISTED PACKAGE-LEVEL VARIABLES READ AS WHEN THE CALL BEGINS. Each datum BY PROGRAM (the guide's laid-datum.mjs) off the statement by which the dump's own 'gosem.cut.vars' lays the variable. In a bare row this is a premise. The card (YtgehkojccmkggaaDoorCards.lean) ties it to the program's text. -/
def laid_saron_tune_asks {H : Type} : DataW H := .iface "func table" (.agg [.iface "func" (.lit (.string [40, 115, 97, 114, 111, 110, 47, 116, 117, 110, 101, 46, 115, 101, 116, 41, 46, 115, 116, 101, 112])), .iface "func" (.lit (.string [40, 115, 97, 114, 111, 110, 47, 116, 117, 110, 101, 46, 115, 101, 116, 41, 46, 112, 97, 105, 114]))])

/-- 'saronlaw01.TuneTunings': WHATEVER THE INPUT: true; the input reads as it did. -/
def tuneTuningsSpec : ChangeSpec := { name := "tuneTunings", fn := fun _ => fun
  | [d1, d2] => { results := [.lit (.bool true)], args := [d1, d2] }
  | _ => none }
def tuneTuningsRow : OpenClaim := { program := "ytgehkojccmkggaadoor", sum := "ffca86343d445152a76258dca946f652b8624f16b754194c2b7a9e57c3887268", func := "saron/saronlaw01.TuneTunings", spec := "tuneTunings", unfollowed := true, recurses := true, named := ["saron/tune.asks"], plainKeys := false, apart := false, laid := [("saron/tune.asks", laid_saron_tune_asks)] }
def TuneTuningsSaid : Prop := tuneTuningsRow.holds Tryd.pinned (OpenSpec.ofChange tuneTuningsSpec)

/-- ITS FALSE NEIGHBOUR: 'it returns false'. Refute it at one input. -/
def tuneTuningsWrong : ChangeSpec := { name := "tuneTunings", fn := fun _ => fun
  | [d1, d2] => { results := [.lit (.bool false)], args := [d1, d2] }
  | _ => none }
def TuneTuningsWrongFalsely : Prop := tuneTuningsRow.holds Tryd.pinned (OpenSpec.ofChange tuneTuningsWrong)

/-- 'saronlaw01.TunePitches': WHATEVER THE INPUT: true; the input reads as it did. -/
def tunePitchesSpec : ChangeSpec := { name := "tunePitches", fn := fun _ => fun
  | [d1, d2] => { results := [.lit (.bool true)], args := [d1, d2] }
  | _ => none }
def tunePitchesRow : OpenClaim := { program := "ytgehkojccmkggaadoor", sum := "ffca86343d445152a76258dca946f652b8624f16b754194c2b7a9e57c3887268", func := "saron/saronlaw01.TunePitches", spec := "tunePitches", unfollowed := true, recurses := true, named := ["saron/tune.asks"], plainKeys := false, apart := false, laid := [("saron/tune.asks", laid_saron_tune_asks)] }
def TunePitchesSaid : Prop := tunePitchesRow.holds Tryd.pinned (OpenSpec.ofChange tunePitchesSpec)

/-- ITS FALSE NEIGHBOUR: 'it returns false'. Refute it at one input. -/
def tunePitchesWrong : ChangeSpec := { name := "tunePitches", fn := fun _ => fun
  | [d1, d2] => { results := [.lit (.bool false)], args := [d1, d2] }
  | _ => none }
def TunePitchesWrongFalsely : Prop := tunePitchesRow.holds Tryd.pinned (OpenSpec.ofChange tunePitchesWrong)

/-- 'saronlaw01.TuneEvens': WHATEVER THE INPUT: true; the input reads as it did. -/
def tuneEvensSpec : ChangeSpec := { name := "tuneEvens", fn := fun _ => fun
  | [d] => { results := [.lit (.bool true)], args := [d] }
  | _ => none }
def tuneEvensRow : OpenClaim := { program := "ytgehkojccmkggaadoor", sum := "ffca86343d445152a76258dca946f652b8624f16b754194c2b7a9e57c3887268", func := "saron/saronlaw01.TuneEvens", spec := "tuneEvens", unfollowed := true, recurses := true, named := ["saron/tune.asks"], plainKeys := false, apart := false, laid := [("saron/tune.asks", laid_saron_tune_asks)] }
def TuneEvensSaid : Prop := tuneEvensRow.holds Tryd.pinned (OpenSpec.ofChange tuneEvensSpec)

/-- ITS FALSE NEIGHBOUR: 'it returns false'. Refute it at one input. -/
def tuneEvensWrong : ChangeSpec := { name := "tuneEvens", fn := fun _ => fun
  | [d] => { results := [.lit (.bool false)], args := [d] }
  | _ => none }
def TuneEvensWrongFalsely : Prop := tuneEvensRow.holds Tryd.pinned (OpenSpec.ofChange tuneEvensWrong)

/-- 'saronlaw01.TuneWrongs': WHATEVER THE INPUT: true; the input reads as it did. -/
def tuneWrongsSpec : ChangeSpec := { name := "tuneWrongs", fn := fun _ => fun
  | [d] => { results := [.lit (.bool true)], args := [d] }
  | _ => none }
def tuneWrongsRow : OpenClaim := { program := "ytgehkojccmkggaadoor", sum := "ffca86343d445152a76258dca946f652b8624f16b754194c2b7a9e57c3887268", func := "saron/saronlaw01.TuneWrongs", spec := "tuneWrongs", unfollowed := true, recurses := true, named := ["saron/tune.asks"], plainKeys := false, apart := false, laid := [("saron/tune.asks", laid_saron_tune_asks)] }
def TuneWrongsSaid : Prop := tuneWrongsRow.holds Tryd.pinned (OpenSpec.ofChange tuneWrongsSpec)

/-- ITS FALSE NEIGHBOUR: 'it returns false'. Refute it at one input. -/
def tuneWrongsWrong : ChangeSpec := { name := "tuneWrongs", fn := fun _ => fun
  | [d] => { results := [.lit (.bool false)], args := [d] }
  | _ => none }
def TuneWrongsWrongFalsely : Prop := tuneWrongsRow.holds Tryd.pinned (OpenSpec.ofChange tuneWrongsWrong)

/-- 'saronlaw01.TuneTrue': WHATEVER THE INPUT: true; the input reads as it did. -/
def tuneTrueSpec : ChangeSpec := { name := "tuneTrue", fn := fun _ => fun
  | [d1, d2, d3] => { results := [.lit (.bool true)], args := [d1, d2, d3] }
  | _ => none }
def tuneTrueRow : OpenClaim := { program := "ytgehkojccmkggaadoor", sum := "ffca86343d445152a76258dca946f652b8624f16b754194c2b7a9e57c3887268", func := "saron/saronlaw01.TuneTrue", spec := "tuneTrue", unfollowed := true, recurses := true, named := ["saron/tune.asks"], plainKeys := false, apart := false, laid := [("saron/tune.asks", laid_saron_tune_asks)] }
def TuneTrueSaid : Prop := tuneTrueRow.holds Tryd.pinned (OpenSpec.ofChange tuneTrueSpec)

/-- ITS FALSE NEIGHBOUR: 'it returns false'. Refute it at one input. -/
def tuneTrueWrong : ChangeSpec := { name := "tuneTrue", fn := fun _ => fun
  | [d1, d2, d3] => { results := [.lit (.bool false)], args := [d1, d2, d3] }
  | _ => none }
def TuneTrueWrongFalsely : Prop := tuneTrueRow.holds Tryd.pinned (OpenSpec.ofChange tuneTrueWrong)

/-- 'saronlaw01.TuneEnds': WHATEVER THE INPUT: true; the input reads as it did. -/
def tuneEndsSpec : ChangeSpec := { name := "tuneEnds", fn := fun _ => fun
  | [d1, d2] => { results := [.lit (.bool true)], args := [d1, d2] }
  | _ => none }
def tuneEndsRow : OpenClaim := { program := "ytgehkojccmkggaadoor", sum := "ffca86343d445152a76258dca946f652b8624f16b754194c2b7a9e57c3887268", func := "saron/saronlaw01.TuneEnds", spec := "tuneEnds", unfollowed := true, recurses := true, named := ["saron/tune.asks"], plainKeys := false, apart := false, laid := [("saron/tune.asks", laid_saron_tune_asks)] }
def TuneEndsSaid : Prop := tuneEndsRow.holds Tryd.pinned (OpenSpec.ofChange tuneEndsSpec)

/-- ITS FALSE NEIGHBOUR: 'it returns false'. Refute it at one input. -/
def tuneEndsWrong : ChangeSpec := { name := "tuneEnds", fn := fun _ => fun
  | [d1, d2] => { results := [.lit (.bool false)], args := [d1, d2] }
  | _ => none }
def TuneEndsWrongFalsely : Prop := tuneEndsRow.holds Tryd.pinned (OpenSpec.ofChange tuneEndsWrong)

/-- 'saronlaw01.TuneNarrower': WHATEVER THE INPUT: true; the input reads as it did. -/
def tuneNarrowerSpec : ChangeSpec := { name := "tuneNarrower", fn := fun _ => fun
  | [d1, d2] => { results := [.lit (.bool true)], args := [d1, d2] }
  | _ => none }
def tuneNarrowerRow : OpenClaim := { program := "ytgehkojccmkggaadoor", sum := "ffca86343d445152a76258dca946f652b8624f16b754194c2b7a9e57c3887268", func := "saron/saronlaw01.TuneNarrower", spec := "tuneNarrower", unfollowed := true, recurses := true, named := ["saron/tune.asks"], plainKeys := false, apart := false, laid := [("saron/tune.asks", laid_saron_tune_asks)] }
def TuneNarrowerSaid : Prop := tuneNarrowerRow.holds Tryd.pinned (OpenSpec.ofChange tuneNarrowerSpec)

/-- ITS FALSE NEIGHBOUR: 'it returns false'. Refute it at one input. -/
def tuneNarrowerWrong : ChangeSpec := { name := "tuneNarrower", fn := fun _ => fun
  | [d1, d2] => { results := [.lit (.bool false)], args := [d1, d2] }
  | _ => none }
def TuneNarrowerWrongFalsely : Prop := tuneNarrowerRow.holds Tryd.pinned (OpenSpec.ofChange tuneNarrowerWrong)

/-- 'saronlaw01.TuneWider': WHATEVER THE INPUT: true; the input reads as it did. -/
def tuneWiderSpec : ChangeSpec := { name := "tuneWider", fn := fun _ => fun
  | [d1, d2] => { results := [.lit (.bool true)], args := [d1, d2] }
  | _ => none }
def tuneWiderRow : OpenClaim := { program := "ytgehkojccmkggaadoor", sum := "ffca86343d445152a76258dca946f652b8624f16b754194c2b7a9e57c3887268", func := "saron/saronlaw01.TuneWider", spec := "tuneWider", unfollowed := true, recurses := true, named := ["saron/tune.asks"], plainKeys := false, apart := false, laid := [("saron/tune.asks", laid_saron_tune_asks)] }
def TuneWiderSaid : Prop := tuneWiderRow.holds Tryd.pinned (OpenSpec.ofChange tuneWiderSpec)

/-- ITS FALSE NEIGHBOUR: 'it returns false'. Refute it at one input. -/
def tuneWiderWrong : ChangeSpec := { name := "tuneWider", fn := fun _ => fun
  | [d1, d2] => { results := [.lit (.bool false)], args := [d1, d2] }
  | _ => none }
def TuneWiderWrongFalsely : Prop := tuneWiderRow.holds Tryd.pinned (OpenSpec.ofChange tuneWiderWrong)

/-- 'saronlaw01.TuneEven': WHATEVER THE INPUT: true; the input reads as it did. -/
def tuneEvenSpec : ChangeSpec := { name := "tuneEven", fn := fun _ => fun
  | [d1, d2] => { results := [.lit (.bool true)], args := [d1, d2] }
  | _ => none }
def tuneEvenRow : OpenClaim := { program := "ytgehkojccmkggaadoor", sum := "ffca86343d445152a76258dca946f652b8624f16b754194c2b7a9e57c3887268", func := "saron/saronlaw01.TuneEven", spec := "tuneEven", unfollowed := true, recurses := true, named := ["saron/tune.asks"], plainKeys := false, apart := false, laid := [("saron/tune.asks", laid_saron_tune_asks)] }
def TuneEvenSaid : Prop := tuneEvenRow.holds Tryd.pinned (OpenSpec.ofChange tuneEvenSpec)

/-- ITS FALSE NEIGHBOUR: 'it returns false'. Refute it at one input. -/
def tuneEvenWrong : ChangeSpec := { name := "tuneEven", fn := fun _ => fun
  | [d1, d2] => { results := [.lit (.bool false)], args := [d1, d2] }
  | _ => none }
def TuneEvenWrongFalsely : Prop := tuneEvenRow.holds Tryd.pinned (OpenSpec.ofChange tuneEvenWrong)

/-- 'saronlaw01.TuneApart': WHATEVER THE INPUT: true; the input reads as it did. -/
def tuneApartSpec : ChangeSpec := { name := "tuneApart", fn := fun _ => fun
  | [d1, d2] => { results := [.lit (.bool true)], args := [d1, d2] }
  | _ => none }
def tuneApartRow : OpenClaim := { program := "ytgehkojccmkggaadoor", sum := "ffca86343d445152a76258dca946f652b8624f16b754194c2b7a9e57c3887268", func := "saron/saronlaw01.TuneApart", spec := "tuneApart", unfollowed := true, recurses := true, named := ["saron/tune.asks"], plainKeys := false, apart := false, laid := [("saron/tune.asks", laid_saron_tune_asks)] }
def TuneApartSaid : Prop := tuneApartRow.holds Tryd.pinned (OpenSpec.ofChange tuneApartSpec)

/-- ITS FALSE NEIGHBOUR: 'it returns false'. Refute it at one input. -/
def tuneApartWrong : ChangeSpec := { name := "tuneApart", fn := fun _ => fun
  | [d1, d2] => { results := [.lit (.bool false)], args := [d1, d2] }
  | _ => none }
def TuneApartWrongFalsely : Prop := tuneApartRow.holds Tryd.pinned (OpenSpec.ofChange tuneApartWrong)

/-- 'saronlaw01.TuneSure': WHATEVER THE INPUT: true; the input reads as it did. -/
def tuneSureSpec : ChangeSpec := { name := "tuneSure", fn := fun _ => fun
  | [d1, d2] => { results := [.lit (.bool true)], args := [d1, d2] }
  | _ => none }
def tuneSureRow : OpenClaim := { program := "ytgehkojccmkggaadoor", sum := "ffca86343d445152a76258dca946f652b8624f16b754194c2b7a9e57c3887268", func := "saron/saronlaw01.TuneSure", spec := "tuneSure", unfollowed := true, recurses := true, named := ["saron/tune.asks"], plainKeys := false, apart := false, laid := [("saron/tune.asks", laid_saron_tune_asks)] }
def TuneSureSaid : Prop := tuneSureRow.holds Tryd.pinned (OpenSpec.ofChange tuneSureSpec)

/-- ITS FALSE NEIGHBOUR: 'it returns false'. Refute it at one input. -/
def tuneSureWrong : ChangeSpec := { name := "tuneSure", fn := fun _ => fun
  | [d1, d2] => { results := [.lit (.bool false)], args := [d1, d2] }
  | _ => none }
def TuneSureWrongFalsely : Prop := tuneSureRow.holds Tryd.pinned (OpenSpec.ofChange tuneSureWrong)

/-- 'saronlaw01.TuneLeft': WHATEVER THE INPUT: true; the input reads as it did. -/
def tuneLeftSpec : ChangeSpec := { name := "tuneLeft", fn := fun _ => fun
  | [d1, d2] => { results := [.lit (.bool true)], args := [d1, d2] }
  | _ => none }
def tuneLeftRow : OpenClaim := { program := "ytgehkojccmkggaadoor", sum := "ffca86343d445152a76258dca946f652b8624f16b754194c2b7a9e57c3887268", func := "saron/saronlaw01.TuneLeft", spec := "tuneLeft", unfollowed := true, recurses := true, named := ["saron/tune.asks"], plainKeys := false, apart := false, laid := [("saron/tune.asks", laid_saron_tune_asks)] }
def TuneLeftSaid : Prop := tuneLeftRow.holds Tryd.pinned (OpenSpec.ofChange tuneLeftSpec)

/-- ITS FALSE NEIGHBOUR: 'it returns false'. Refute it at one input. -/
def tuneLeftWrong : ChangeSpec := { name := "tuneLeft", fn := fun _ => fun
  | [d1, d2] => { results := [.lit (.bool false)], args := [d1, d2] }
  | _ => none }
def TuneLeftWrongFalsely : Prop := tuneLeftRow.holds Tryd.pinned (OpenSpec.ofChange tuneLeftWrong)

/-- 'saronlaw01.TuneKnown': WHATEVER THE INPUT: true; the input reads as it did. -/
def tuneKnownSpec : ChangeSpec := { name := "tuneKnown", fn := fun _ => fun
  | [] => { results := [.lit (.bool true)], args := [] }
  | _ => none }
def tuneKnownRow : OpenClaim := { program := "ytgehkojccmkggaadoor", sum := "ffca86343d445152a76258dca946f652b8624f16b754194c2b7a9e57c3887268", func := "saron/saronlaw01.TuneKnown", spec := "tuneKnown", unfollowed := true, recurses := true, named := ["saron/tune.asks"], plainKeys := false, apart := false, laid := [("saron/tune.asks", laid_saron_tune_asks)] }
def TuneKnownSaid : Prop := tuneKnownRow.holds Tryd.pinned (OpenSpec.ofChange tuneKnownSpec)

/-- ITS FALSE NEIGHBOUR: 'it returns false'. Refute it at one input. -/
def tuneKnownWrong : ChangeSpec := { name := "tuneKnown", fn := fun _ => fun
  | [] => { results := [.lit (.bool false)], args := [] }
  | _ => none }
def TuneKnownWrongFalsely : Prop := tuneKnownRow.holds Tryd.pinned (OpenSpec.ofChange tuneKnownWrong)

/- THE SECOND FORM. 'bulk': how many values and letters a reading holds, each counted each time it is reached (what is shared counts as often as it is met; a slice's spare places count too). A statement '..UptoSaid' is the law's where the arguments, and the package variables that the reading takes, are together of bulk at most 1048576: NARROWER than '..Said'. Prove '..Said' where nothing that the law and all that it calls make is longer than what came in: it says more and counts as full. Else prove '..UptoSaid'. A law counts once. -/
mutual
def uptoBulk {H : Type} : DataW H → Nat
  | .lit (.string bytes) => bytes.length + 1
  | .lit _ => 1
  | .nil => 1
  | .ptr d => uptoBulk d + 1
  | .slice elems spare => uptoBulkAll elems + uptoBulkAll spare + 1
  | .agg parts => uptoBulkAll parts + 1
  | .iface _ d => uptoBulk d + 1
  | .map entries => uptoBulkEntries entries + 1
  | .held _ => 1
def uptoBulkAll {H : Type} : List (DataW H) → Nat
  | [] => 0
  | d :: r => uptoBulk d + uptoBulkAll r
def uptoBulkEntries {H : Type} : List (Lit × DataW H) → Nat
  | [] => 0
  | x :: r => uptoBulkEntry x + uptoBulkEntries r
def uptoBulkEntry {H : Type} : Lit × DataW H → Nat
  | (.string bytes, d) => bytes.length + uptoBulk d + 1
  | (_, d) => uptoBulk d + 1
 end
def uptoSmall : (H : Type) → List (DataW H) → Bool := fun _ ds => decide (uptoBulkAll ds ≤ 1048576)
def OpenSpec.upto (s : _root_.Go.ChangeSpec) : _root_.Go.OpenSpec := { _root_.Go.OpenSpec.ofChange s with cond := some uptoSmall }

/-- 'saronlaw01.TuneTunings', WHERE WHAT IT READS IS OF BULK AT MOST 1048576: true; the input reads as it did. -/
def tuneTuningsUptoRow : OpenClaim := { program := "ytgehkojccmkggaadoor", sum := "ffca86343d445152a76258dca946f652b8624f16b754194c2b7a9e57c3887268", func := "saron/saronlaw01.TuneTunings", spec := "tuneTunings", unfollowed := true, recurses := true, named := ["saron/tune.asks"], plainKeys := false, apart := false, laid := [("saron/tune.asks", laid_saron_tune_asks)], narrowed := true }
def TuneTuningsUptoSaid : Prop := tuneTuningsUptoRow.holds Tryd.pinned (OpenSpec.upto tuneTuningsSpec)

/-- 'saronlaw01.TunePitches', WHERE WHAT IT READS IS OF BULK AT MOST 1048576: true; the input reads as it did. -/
def tunePitchesUptoRow : OpenClaim := { program := "ytgehkojccmkggaadoor", sum := "ffca86343d445152a76258dca946f652b8624f16b754194c2b7a9e57c3887268", func := "saron/saronlaw01.TunePitches", spec := "tunePitches", unfollowed := true, recurses := true, named := ["saron/tune.asks"], plainKeys := false, apart := false, laid := [("saron/tune.asks", laid_saron_tune_asks)], narrowed := true }
def TunePitchesUptoSaid : Prop := tunePitchesUptoRow.holds Tryd.pinned (OpenSpec.upto tunePitchesSpec)

/-- 'saronlaw01.TuneEvens', WHERE WHAT IT READS IS OF BULK AT MOST 1048576: true; the input reads as it did. -/
def tuneEvensUptoRow : OpenClaim := { program := "ytgehkojccmkggaadoor", sum := "ffca86343d445152a76258dca946f652b8624f16b754194c2b7a9e57c3887268", func := "saron/saronlaw01.TuneEvens", spec := "tuneEvens", unfollowed := true, recurses := true, named := ["saron/tune.asks"], plainKeys := false, apart := false, laid := [("saron/tune.asks", laid_saron_tune_asks)], narrowed := true }
def TuneEvensUptoSaid : Prop := tuneEvensUptoRow.holds Tryd.pinned (OpenSpec.upto tuneEvensSpec)

/-- 'saronlaw01.TuneWrongs', WHERE WHAT IT READS IS OF BULK AT MOST 1048576: true; the input reads as it did. -/
def tuneWrongsUptoRow : OpenClaim := { program := "ytgehkojccmkggaadoor", sum := "ffca86343d445152a76258dca946f652b8624f16b754194c2b7a9e57c3887268", func := "saron/saronlaw01.TuneWrongs", spec := "tuneWrongs", unfollowed := true, recurses := true, named := ["saron/tune.asks"], plainKeys := false, apart := false, laid := [("saron/tune.asks", laid_saron_tune_asks)], narrowed := true }
def TuneWrongsUptoSaid : Prop := tuneWrongsUptoRow.holds Tryd.pinned (OpenSpec.upto tuneWrongsSpec)

/-- 'saronlaw01.TuneTrue', WHERE WHAT IT READS IS OF BULK AT MOST 1048576: true; the input reads as it did. -/
def tuneTrueUptoRow : OpenClaim := { program := "ytgehkojccmkggaadoor", sum := "ffca86343d445152a76258dca946f652b8624f16b754194c2b7a9e57c3887268", func := "saron/saronlaw01.TuneTrue", spec := "tuneTrue", unfollowed := true, recurses := true, named := ["saron/tune.asks"], plainKeys := false, apart := false, laid := [("saron/tune.asks", laid_saron_tune_asks)], narrowed := true }
def TuneTrueUptoSaid : Prop := tuneTrueUptoRow.holds Tryd.pinned (OpenSpec.upto tuneTrueSpec)

/-- 'saronlaw01.TuneEnds', WHERE WHAT IT READS IS OF BULK AT MOST 1048576: true; the input reads as it did. -/
def tuneEndsUptoRow : OpenClaim := { program := "ytgehkojccmkggaadoor", sum := "ffca86343d445152a76258dca946f652b8624f16b754194c2b7a9e57c3887268", func := "saron/saronlaw01.TuneEnds", spec := "tuneEnds", unfollowed := true, recurses := true, named := ["saron/tune.asks"], plainKeys := false, apart := false, laid := [("saron/tune.asks", laid_saron_tune_asks)], narrowed := true }
def TuneEndsUptoSaid : Prop := tuneEndsUptoRow.holds Tryd.pinned (OpenSpec.upto tuneEndsSpec)

/-- 'saronlaw01.TuneNarrower', WHERE WHAT IT READS IS OF BULK AT MOST 1048576: true; the input reads as it did. -/
def tuneNarrowerUptoRow : OpenClaim := { program := "ytgehkojccmkggaadoor", sum := "ffca86343d445152a76258dca946f652b8624f16b754194c2b7a9e57c3887268", func := "saron/saronlaw01.TuneNarrower", spec := "tuneNarrower", unfollowed := true, recurses := true, named := ["saron/tune.asks"], plainKeys := false, apart := false, laid := [("saron/tune.asks", laid_saron_tune_asks)], narrowed := true }
def TuneNarrowerUptoSaid : Prop := tuneNarrowerUptoRow.holds Tryd.pinned (OpenSpec.upto tuneNarrowerSpec)

/-- 'saronlaw01.TuneWider', WHERE WHAT IT READS IS OF BULK AT MOST 1048576: true; the input reads as it did. -/
def tuneWiderUptoRow : OpenClaim := { program := "ytgehkojccmkggaadoor", sum := "ffca86343d445152a76258dca946f652b8624f16b754194c2b7a9e57c3887268", func := "saron/saronlaw01.TuneWider", spec := "tuneWider", unfollowed := true, recurses := true, named := ["saron/tune.asks"], plainKeys := false, apart := false, laid := [("saron/tune.asks", laid_saron_tune_asks)], narrowed := true }
def TuneWiderUptoSaid : Prop := tuneWiderUptoRow.holds Tryd.pinned (OpenSpec.upto tuneWiderSpec)

/-- 'saronlaw01.TuneEven', WHERE WHAT IT READS IS OF BULK AT MOST 1048576: true; the input reads as it did. -/
def tuneEvenUptoRow : OpenClaim := { program := "ytgehkojccmkggaadoor", sum := "ffca86343d445152a76258dca946f652b8624f16b754194c2b7a9e57c3887268", func := "saron/saronlaw01.TuneEven", spec := "tuneEven", unfollowed := true, recurses := true, named := ["saron/tune.asks"], plainKeys := false, apart := false, laid := [("saron/tune.asks", laid_saron_tune_asks)], narrowed := true }
def TuneEvenUptoSaid : Prop := tuneEvenUptoRow.holds Tryd.pinned (OpenSpec.upto tuneEvenSpec)

/-- 'saronlaw01.TuneApart', WHERE WHAT IT READS IS OF BULK AT MOST 1048576: true; the input reads as it did. -/
def tuneApartUptoRow : OpenClaim := { program := "ytgehkojccmkggaadoor", sum := "ffca86343d445152a76258dca946f652b8624f16b754194c2b7a9e57c3887268", func := "saron/saronlaw01.TuneApart", spec := "tuneApart", unfollowed := true, recurses := true, named := ["saron/tune.asks"], plainKeys := false, apart := false, laid := [("saron/tune.asks", laid_saron_tune_asks)], narrowed := true }
def TuneApartUptoSaid : Prop := tuneApartUptoRow.holds Tryd.pinned (OpenSpec.upto tuneApartSpec)

/-- 'saronlaw01.TuneSure', WHERE WHAT IT READS IS OF BULK AT MOST 1048576: true; the input reads as it did. -/
def tuneSureUptoRow : OpenClaim := { program := "ytgehkojccmkggaadoor", sum := "ffca86343d445152a76258dca946f652b8624f16b754194c2b7a9e57c3887268", func := "saron/saronlaw01.TuneSure", spec := "tuneSure", unfollowed := true, recurses := true, named := ["saron/tune.asks"], plainKeys := false, apart := false, laid := [("saron/tune.asks", laid_saron_tune_asks)], narrowed := true }
def TuneSureUptoSaid : Prop := tuneSureUptoRow.holds Tryd.pinned (OpenSpec.upto tuneSureSpec)

/-- 'saronlaw01.TuneLeft', WHERE WHAT IT READS IS OF BULK AT MOST 1048576: true; the input reads as it did. -/
def tuneLeftUptoRow : OpenClaim := { program := "ytgehkojccmkggaadoor", sum := "ffca86343d445152a76258dca946f652b8624f16b754194c2b7a9e57c3887268", func := "saron/saronlaw01.TuneLeft", spec := "tuneLeft", unfollowed := true, recurses := true, named := ["saron/tune.asks"], plainKeys := false, apart := false, laid := [("saron/tune.asks", laid_saron_tune_asks)], narrowed := true }
def TuneLeftUptoSaid : Prop := tuneLeftUptoRow.holds Tryd.pinned (OpenSpec.upto tuneLeftSpec)

/-- 'saronlaw01.TuneKnown', WHERE WHAT IT READS IS OF BULK AT MOST 1048576: true; the input reads as it did. -/
def tuneKnownUptoRow : OpenClaim := { program := "ytgehkojccmkggaadoor", sum := "ffca86343d445152a76258dca946f652b8624f16b754194c2b7a9e57c3887268", func := "saron/saronlaw01.TuneKnown", spec := "tuneKnown", unfollowed := true, recurses := true, named := ["saron/tune.asks"], plainKeys := false, apart := false, laid := [("saron/tune.asks", laid_saron_tune_asks)], narrowed := true }
def TuneKnownUptoSaid : Prop := tuneKnownUptoRow.holds Tryd.pinned (OpenSpec.upto tuneKnownSpec)

end Rows
end Go.Proofs.YtgehkojccmkggaaDoor
