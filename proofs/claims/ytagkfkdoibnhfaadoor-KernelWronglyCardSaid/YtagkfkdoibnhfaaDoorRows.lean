/-
  NARROWER THAN 'FOR EVERY INPUT', by the rows' own cells (each row's printed sentence says how): KernelParts: laid · KernelMany: laid · KernelWon: laid · KernelPairs: laid · KernelTrue: laid · KernelBack: laid · KernelPlays: laid · KernelDoubled: laid · KernelLosing: laid · KernelWrongly: laid · KernelOne: laid · KernelWhole: laid · KernelKnown: laid.
  DERIVED. THE GIVEN ROWS OF THIS SEAT. 13 by the template 'for every input the law returns true; each argument reads behind the call as it read before'; 0 by the template 'total and deterministic' (their statements: YtagkfkdoibnhfaaDoorTotals.lean).
  GIVEN WITH THE SEED: the statements are not yours to turn. If you find one false, say at which input.
  Laid BY PROGRAM, IN A SANDBOX (cutbox-rows.mjs): the forced cells as the released guide's own fill.sh prints them over the translation 477b99a74d8b4409… (all of the seat's roots in one cut). By AI agents, Wed Nov 11 2026. No macro, syntax, notation, axiom, sorry.
-/
import Derived.Test.YtagkfkdoibnhfaaDoorChecked
import GoSem.Claim
import GoSem.ClaimJoined
import GoSem.ClaimMapViews
import Derived.JoinedTies
import Derived.KernelRfl
namespace Go.Proofs.YtagkfkdoibnhfaaDoor
/- THE CELL 'sum', in the pinned program and in every row, IS THE sha256 OF THE DUMP (.gsa) THAT YtagkfkdoibnhfaaDoorProg.lean LOADS. Nothing in Lean hashes anything: it is a label: what it is worth is what the hold of that sum in a sandbox is worth. -/
noncomputable def Tryd.pinned : Pinned := { name := "ytagkfkdoibnhfaadoor", sum := "477b99a74d8b440963f5bc72666492afea97510efa9957584e70d27d4730aec6", checked := Tryd.checked }
namespace Rows
def none {H : Type} : Left H := { results := [], args := [] }

/- WHAT THE LISTED PACKAGE-LEVEL VARIABLES READ AS WHEN THE CALL BEGINS. Each datum BY PROGRAM (the guide's laid-datum.mjs) off the statement by which the dump's own 'gosem.cut.vars' lays the variable. In a bare row this is a premise. The card (YtagkfkdoibnhfaaDoorCards.lean) ties it to the program's text. -/
def laid_saron_kernel_rules {H : Type} : DataW H := .iface "func table" (.agg [.iface "func" (.lit (.string [40, 115, 97, 114, 111, 110, 47, 107, 101, 114, 110, 101, 108, 46, 115, 99, 97, 108, 101, 41, 46, 104, 97, 108, 102])), .iface "func" (.lit (.string [40, 115, 97, 114, 111, 110, 47, 107, 101, 114, 110, 101, 108, 46, 115, 99, 97, 108, 101, 41, 46, 112, 108, 97, 105, 110])), .iface "func" (.lit (.string [40, 115, 97, 114, 111, 110, 47, 107, 101, 114, 110, 101, 108, 46, 115, 99, 97, 108, 101, 41, 46, 100, 111, 117, 98, 108, 101])), .iface "func" (.lit (.string [40, 115, 97, 114, 111, 110, 47, 107, 101, 114, 110, 101, 108, 46, 115, 99, 97, 108, 101, 41, 46, 116, 119, 105, 99, 101])), .iface "func" (.lit (.string [40, 115, 97, 114, 111, 110, 47, 107, 101, 114, 110, 101, 108, 46, 115, 99, 97, 108, 101, 41, 46, 110, 101, 97, 114]))])

/-- 'saronlaw06.KernelParts': WHATEVER THE INPUT: true; the input reads as it did. -/
def kernelPartsSpec : ChangeSpec := { name := "kernelParts", fn := fun _ => fun
  | [d1, d2, d3] => { results := [.lit (.bool true)], args := [d1, d2, d3] }
  | _ => none }
def kernelPartsRow : OpenClaim := { program := "ytagkfkdoibnhfaadoor", sum := "477b99a74d8b440963f5bc72666492afea97510efa9957584e70d27d4730aec6", func := "saron/saronlaw06.KernelParts", spec := "kernelParts", unfollowed := true, recurses := true, named := ["saron/kernel.rules"], plainKeys := false, apart := false, laid := [("saron/kernel.rules", laid_saron_kernel_rules)] }
def KernelPartsSaid : Prop := kernelPartsRow.holds Tryd.pinned (OpenSpec.ofChange kernelPartsSpec)

/-- ITS FALSE NEIGHBOUR: 'it returns false'. Refute it at one input. -/
def kernelPartsWrong : ChangeSpec := { name := "kernelParts", fn := fun _ => fun
  | [d1, d2, d3] => { results := [.lit (.bool false)], args := [d1, d2, d3] }
  | _ => none }
def KernelPartsWrongFalsely : Prop := kernelPartsRow.holds Tryd.pinned (OpenSpec.ofChange kernelPartsWrong)

/-- 'saronlaw06.KernelMany': WHATEVER THE INPUT: true; the input reads as it did. -/
def kernelManySpec : ChangeSpec := { name := "kernelMany", fn := fun _ => fun
  | [d1, d2, d3] => { results := [.lit (.bool true)], args := [d1, d2, d3] }
  | _ => none }
def kernelManyRow : OpenClaim := { program := "ytagkfkdoibnhfaadoor", sum := "477b99a74d8b440963f5bc72666492afea97510efa9957584e70d27d4730aec6", func := "saron/saronlaw06.KernelMany", spec := "kernelMany", unfollowed := true, recurses := true, named := ["saron/kernel.rules"], plainKeys := false, apart := false, laid := [("saron/kernel.rules", laid_saron_kernel_rules)] }
def KernelManySaid : Prop := kernelManyRow.holds Tryd.pinned (OpenSpec.ofChange kernelManySpec)

/-- ITS FALSE NEIGHBOUR: 'it returns false'. Refute it at one input. -/
def kernelManyWrong : ChangeSpec := { name := "kernelMany", fn := fun _ => fun
  | [d1, d2, d3] => { results := [.lit (.bool false)], args := [d1, d2, d3] }
  | _ => none }
def KernelManyWrongFalsely : Prop := kernelManyRow.holds Tryd.pinned (OpenSpec.ofChange kernelManyWrong)

/-- 'saronlaw06.KernelWon': WHATEVER THE INPUT: true; the input reads as it did. -/
def kernelWonSpec : ChangeSpec := { name := "kernelWon", fn := fun _ => fun
  | [d1, d2] => { results := [.lit (.bool true)], args := [d1, d2] }
  | _ => none }
def kernelWonRow : OpenClaim := { program := "ytagkfkdoibnhfaadoor", sum := "477b99a74d8b440963f5bc72666492afea97510efa9957584e70d27d4730aec6", func := "saron/saronlaw06.KernelWon", spec := "kernelWon", unfollowed := true, recurses := true, named := ["saron/kernel.rules"], plainKeys := false, apart := false, laid := [("saron/kernel.rules", laid_saron_kernel_rules)] }
def KernelWonSaid : Prop := kernelWonRow.holds Tryd.pinned (OpenSpec.ofChange kernelWonSpec)

/-- ITS FALSE NEIGHBOUR: 'it returns false'. Refute it at one input. -/
def kernelWonWrong : ChangeSpec := { name := "kernelWon", fn := fun _ => fun
  | [d1, d2] => { results := [.lit (.bool false)], args := [d1, d2] }
  | _ => none }
def KernelWonWrongFalsely : Prop := kernelWonRow.holds Tryd.pinned (OpenSpec.ofChange kernelWonWrong)

/-- 'saronlaw06.KernelPairs': WHATEVER THE INPUT: true; the input reads as it did. -/
def kernelPairsSpec : ChangeSpec := { name := "kernelPairs", fn := fun _ => fun
  | [d1, d2, d3] => { results := [.lit (.bool true)], args := [d1, d2, d3] }
  | _ => none }
def kernelPairsRow : OpenClaim := { program := "ytagkfkdoibnhfaadoor", sum := "477b99a74d8b440963f5bc72666492afea97510efa9957584e70d27d4730aec6", func := "saron/saronlaw06.KernelPairs", spec := "kernelPairs", unfollowed := true, recurses := true, named := ["saron/kernel.rules"], plainKeys := false, apart := false, laid := [("saron/kernel.rules", laid_saron_kernel_rules)] }
def KernelPairsSaid : Prop := kernelPairsRow.holds Tryd.pinned (OpenSpec.ofChange kernelPairsSpec)

/-- ITS FALSE NEIGHBOUR: 'it returns false'. Refute it at one input. -/
def kernelPairsWrong : ChangeSpec := { name := "kernelPairs", fn := fun _ => fun
  | [d1, d2, d3] => { results := [.lit (.bool false)], args := [d1, d2, d3] }
  | _ => none }
def KernelPairsWrongFalsely : Prop := kernelPairsRow.holds Tryd.pinned (OpenSpec.ofChange kernelPairsWrong)

/-- 'saronlaw06.KernelTrue': WHATEVER THE INPUT: true; the input reads as it did. -/
def kernelTrueSpec : ChangeSpec := { name := "kernelTrue", fn := fun _ => fun
  | [d1, d2, d3] => { results := [.lit (.bool true)], args := [d1, d2, d3] }
  | _ => none }
def kernelTrueRow : OpenClaim := { program := "ytagkfkdoibnhfaadoor", sum := "477b99a74d8b440963f5bc72666492afea97510efa9957584e70d27d4730aec6", func := "saron/saronlaw06.KernelTrue", spec := "kernelTrue", unfollowed := true, recurses := true, named := ["saron/kernel.rules"], plainKeys := false, apart := false, laid := [("saron/kernel.rules", laid_saron_kernel_rules)] }
def KernelTrueSaid : Prop := kernelTrueRow.holds Tryd.pinned (OpenSpec.ofChange kernelTrueSpec)

/-- ITS FALSE NEIGHBOUR: 'it returns false'. Refute it at one input. -/
def kernelTrueWrong : ChangeSpec := { name := "kernelTrue", fn := fun _ => fun
  | [d1, d2, d3] => { results := [.lit (.bool false)], args := [d1, d2, d3] }
  | _ => none }
def KernelTrueWrongFalsely : Prop := kernelTrueRow.holds Tryd.pinned (OpenSpec.ofChange kernelTrueWrong)

/-- 'saronlaw06.KernelBack': WHATEVER THE INPUT: true; the input reads as it did. -/
def kernelBackSpec : ChangeSpec := { name := "kernelBack", fn := fun _ => fun
  | [d1, d2, d3] => { results := [.lit (.bool true)], args := [d1, d2, d3] }
  | _ => none }
def kernelBackRow : OpenClaim := { program := "ytagkfkdoibnhfaadoor", sum := "477b99a74d8b440963f5bc72666492afea97510efa9957584e70d27d4730aec6", func := "saron/saronlaw06.KernelBack", spec := "kernelBack", unfollowed := true, recurses := true, named := ["saron/kernel.rules"], plainKeys := false, apart := false, laid := [("saron/kernel.rules", laid_saron_kernel_rules)] }
def KernelBackSaid : Prop := kernelBackRow.holds Tryd.pinned (OpenSpec.ofChange kernelBackSpec)

/-- ITS FALSE NEIGHBOUR: 'it returns false'. Refute it at one input. -/
def kernelBackWrong : ChangeSpec := { name := "kernelBack", fn := fun _ => fun
  | [d1, d2, d3] => { results := [.lit (.bool false)], args := [d1, d2, d3] }
  | _ => none }
def KernelBackWrongFalsely : Prop := kernelBackRow.holds Tryd.pinned (OpenSpec.ofChange kernelBackWrong)

/-- 'saronlaw06.KernelPlays': WHATEVER THE INPUT: true; the input reads as it did. -/
def kernelPlaysSpec : ChangeSpec := { name := "kernelPlays", fn := fun _ => fun
  | [d1, d2, d3] => { results := [.lit (.bool true)], args := [d1, d2, d3] }
  | _ => none }
def kernelPlaysRow : OpenClaim := { program := "ytagkfkdoibnhfaadoor", sum := "477b99a74d8b440963f5bc72666492afea97510efa9957584e70d27d4730aec6", func := "saron/saronlaw06.KernelPlays", spec := "kernelPlays", unfollowed := true, recurses := true, named := ["saron/kernel.rules"], plainKeys := false, apart := false, laid := [("saron/kernel.rules", laid_saron_kernel_rules)] }
def KernelPlaysSaid : Prop := kernelPlaysRow.holds Tryd.pinned (OpenSpec.ofChange kernelPlaysSpec)

/-- ITS FALSE NEIGHBOUR: 'it returns false'. Refute it at one input. -/
def kernelPlaysWrong : ChangeSpec := { name := "kernelPlays", fn := fun _ => fun
  | [d1, d2, d3] => { results := [.lit (.bool false)], args := [d1, d2, d3] }
  | _ => none }
def KernelPlaysWrongFalsely : Prop := kernelPlaysRow.holds Tryd.pinned (OpenSpec.ofChange kernelPlaysWrong)

/-- 'saronlaw06.KernelDoubled': WHATEVER THE INPUT: true; the input reads as it did. -/
def kernelDoubledSpec : ChangeSpec := { name := "kernelDoubled", fn := fun _ => fun
  | [d1, d2, d3] => { results := [.lit (.bool true)], args := [d1, d2, d3] }
  | _ => none }
def kernelDoubledRow : OpenClaim := { program := "ytagkfkdoibnhfaadoor", sum := "477b99a74d8b440963f5bc72666492afea97510efa9957584e70d27d4730aec6", func := "saron/saronlaw06.KernelDoubled", spec := "kernelDoubled", unfollowed := true, recurses := true, named := ["saron/kernel.rules"], plainKeys := false, apart := false, laid := [("saron/kernel.rules", laid_saron_kernel_rules)] }
def KernelDoubledSaid : Prop := kernelDoubledRow.holds Tryd.pinned (OpenSpec.ofChange kernelDoubledSpec)

/-- ITS FALSE NEIGHBOUR: 'it returns false'. Refute it at one input. -/
def kernelDoubledWrong : ChangeSpec := { name := "kernelDoubled", fn := fun _ => fun
  | [d1, d2, d3] => { results := [.lit (.bool false)], args := [d1, d2, d3] }
  | _ => none }
def KernelDoubledWrongFalsely : Prop := kernelDoubledRow.holds Tryd.pinned (OpenSpec.ofChange kernelDoubledWrong)

/-- 'saronlaw06.KernelLosing': WHATEVER THE INPUT: true; the input reads as it did. -/
def kernelLosingSpec : ChangeSpec := { name := "kernelLosing", fn := fun _ => fun
  | [d1, d2, d3] => { results := [.lit (.bool true)], args := [d1, d2, d3] }
  | _ => none }
def kernelLosingRow : OpenClaim := { program := "ytagkfkdoibnhfaadoor", sum := "477b99a74d8b440963f5bc72666492afea97510efa9957584e70d27d4730aec6", func := "saron/saronlaw06.KernelLosing", spec := "kernelLosing", unfollowed := true, recurses := true, named := ["saron/kernel.rules"], plainKeys := false, apart := false, laid := [("saron/kernel.rules", laid_saron_kernel_rules)] }
def KernelLosingSaid : Prop := kernelLosingRow.holds Tryd.pinned (OpenSpec.ofChange kernelLosingSpec)

/-- ITS FALSE NEIGHBOUR: 'it returns false'. Refute it at one input. -/
def kernelLosingWrong : ChangeSpec := { name := "kernelLosing", fn := fun _ => fun
  | [d1, d2, d3] => { results := [.lit (.bool false)], args := [d1, d2, d3] }
  | _ => none }
def KernelLosingWrongFalsely : Prop := kernelLosingRow.holds Tryd.pinned (OpenSpec.ofChange kernelLosingWrong)

/-- 'saronlaw06.KernelWrongly': WHATEVER THE INPUT: true; the input reads as it did. -/
def kernelWronglySpec : ChangeSpec := { name := "kernelWrongly", fn := fun _ => fun
  | [d1, d2, d3] => { results := [.lit (.bool true)], args := [d1, d2, d3] }
  | _ => none }
def kernelWronglyRow : OpenClaim := { program := "ytagkfkdoibnhfaadoor", sum := "477b99a74d8b440963f5bc72666492afea97510efa9957584e70d27d4730aec6", func := "saron/saronlaw06.KernelWrongly", spec := "kernelWrongly", unfollowed := true, recurses := true, named := ["saron/kernel.rules"], plainKeys := false, apart := false, laid := [("saron/kernel.rules", laid_saron_kernel_rules)] }
def KernelWronglySaid : Prop := kernelWronglyRow.holds Tryd.pinned (OpenSpec.ofChange kernelWronglySpec)

/-- ITS FALSE NEIGHBOUR: 'it returns false'. Refute it at one input. -/
def kernelWronglyWrong : ChangeSpec := { name := "kernelWrongly", fn := fun _ => fun
  | [d1, d2, d3] => { results := [.lit (.bool false)], args := [d1, d2, d3] }
  | _ => none }
def KernelWronglyWrongFalsely : Prop := kernelWronglyRow.holds Tryd.pinned (OpenSpec.ofChange kernelWronglyWrong)

/-- 'saronlaw06.KernelOne': WHATEVER THE INPUT: true; the input reads as it did. -/
def kernelOneSpec : ChangeSpec := { name := "kernelOne", fn := fun _ => fun
  | [d1, d2] => { results := [.lit (.bool true)], args := [d1, d2] }
  | _ => none }
def kernelOneRow : OpenClaim := { program := "ytagkfkdoibnhfaadoor", sum := "477b99a74d8b440963f5bc72666492afea97510efa9957584e70d27d4730aec6", func := "saron/saronlaw06.KernelOne", spec := "kernelOne", unfollowed := true, recurses := true, named := ["saron/kernel.rules"], plainKeys := false, apart := false, laid := [("saron/kernel.rules", laid_saron_kernel_rules)] }
def KernelOneSaid : Prop := kernelOneRow.holds Tryd.pinned (OpenSpec.ofChange kernelOneSpec)

/-- ITS FALSE NEIGHBOUR: 'it returns false'. Refute it at one input. -/
def kernelOneWrong : ChangeSpec := { name := "kernelOne", fn := fun _ => fun
  | [d1, d2] => { results := [.lit (.bool false)], args := [d1, d2] }
  | _ => none }
def KernelOneWrongFalsely : Prop := kernelOneRow.holds Tryd.pinned (OpenSpec.ofChange kernelOneWrong)

/-- 'saronlaw06.KernelWhole': WHATEVER THE INPUT: true; the input reads as it did. -/
def kernelWholeSpec : ChangeSpec := { name := "kernelWhole", fn := fun _ => fun
  | [d1, d2] => { results := [.lit (.bool true)], args := [d1, d2] }
  | _ => none }
def kernelWholeRow : OpenClaim := { program := "ytagkfkdoibnhfaadoor", sum := "477b99a74d8b440963f5bc72666492afea97510efa9957584e70d27d4730aec6", func := "saron/saronlaw06.KernelWhole", spec := "kernelWhole", unfollowed := true, recurses := true, named := ["saron/kernel.rules"], plainKeys := false, apart := false, laid := [("saron/kernel.rules", laid_saron_kernel_rules)] }
def KernelWholeSaid : Prop := kernelWholeRow.holds Tryd.pinned (OpenSpec.ofChange kernelWholeSpec)

/-- ITS FALSE NEIGHBOUR: 'it returns false'. Refute it at one input. -/
def kernelWholeWrong : ChangeSpec := { name := "kernelWhole", fn := fun _ => fun
  | [d1, d2] => { results := [.lit (.bool false)], args := [d1, d2] }
  | _ => none }
def KernelWholeWrongFalsely : Prop := kernelWholeRow.holds Tryd.pinned (OpenSpec.ofChange kernelWholeWrong)

/-- 'saronlaw06.KernelKnown': WHATEVER THE INPUT: true; the input reads as it did. -/
def kernelKnownSpec : ChangeSpec := { name := "kernelKnown", fn := fun _ => fun
  | [] => { results := [.lit (.bool true)], args := [] }
  | _ => none }
def kernelKnownRow : OpenClaim := { program := "ytagkfkdoibnhfaadoor", sum := "477b99a74d8b440963f5bc72666492afea97510efa9957584e70d27d4730aec6", func := "saron/saronlaw06.KernelKnown", spec := "kernelKnown", unfollowed := true, recurses := true, named := ["saron/kernel.rules"], plainKeys := false, apart := false, laid := [("saron/kernel.rules", laid_saron_kernel_rules)] }
def KernelKnownSaid : Prop := kernelKnownRow.holds Tryd.pinned (OpenSpec.ofChange kernelKnownSpec)

/-- ITS FALSE NEIGHBOUR: 'it returns false'. Refute it at one input. -/
def kernelKnownWrong : ChangeSpec := { name := "kernelKnown", fn := fun _ => fun
  | [] => { results := [.lit (.bool false)], args := [] }
  | _ => none }
def KernelKnownWrongFalsely : Prop := kernelKnownRow.holds Tryd.pinned (OpenSpec.ofChange kernelKnownWrong)

/- THE SECOND FORM. 'bulk': how many values and letters a reading holds, each counted each time it is reached (what is shared counts as often as it is met; a slice's spare places count too). A statement '..UptoSaid' is the law's where the arguments, and the package variables that the reading takes, are together of bulk at most 1048576: NARROWER than '..Said'. Prove '..Said' where nothing that the law and all that it calls make is longer than what came in: it says more and counts as full. Else prove '..UptoSaid'. A law counts once. -/
mutual
def uptoBulk {H : Type} : DataW H → Nat
  | .lit (.string bytes) => bytes.length + 1
  | .lit _ => 1
  | .nil => 1
  | .ptr d => uptoBulk d + 1
  | .slice elems spare => uptoBulkAll elems + uptoBulkAll spare + 1
  | .agg parts => uptoBulkAll parts + 1
  | .iface _ d => uptoBulk d + 1
  | .map entries => uptoBulkEntries entries + 1
  | .held _ => 1
def uptoBulkAll {H : Type} : List (DataW H) → Nat
  | [] => 0
  | d :: r => uptoBulk d + uptoBulkAll r
def uptoBulkEntries {H : Type} : List (Lit × DataW H) → Nat
  | [] => 0
  | x :: r => uptoBulkEntry x + uptoBulkEntries r
def uptoBulkEntry {H : Type} : Lit × DataW H → Nat
  | (.string bytes, d) => bytes.length + uptoBulk d + 1
  | (_, d) => uptoBulk d + 1
 end
def uptoSmall : (H : Type) → List (DataW H) → Bool := fun _ ds => decide (uptoBulkAll ds ≤ 1048576)
def OpenSpec.upto (s : _root_.Go.ChangeSpec) : _root_.Go.OpenSpec := { _root_.Go.OpenSpec.ofChange s with cond := some uptoSmall }

/-- 'saronlaw06.KernelParts', WHERE WHAT IT READS IS OF BULK AT MOST 1048576: true; the input reads as it did. -/
def kernelPartsUptoRow : OpenClaim := { program := "ytagkfkdoibnhfaadoor", sum := "477b99a74d8b440963f5bc72666492afea97510efa9957584e70d27d4730aec6", func := "saron/saronlaw06.KernelParts", spec := "kernelParts", unfollowed := true, recurses := true, named := ["saron/kernel.rules"], plainKeys := false, apart := false, laid := [("saron/kernel.rules", laid_saron_kernel_rules)], narrowed := true }
def KernelPartsUptoSaid : Prop := kernelPartsUptoRow.holds Tryd.pinned (OpenSpec.upto kernelPartsSpec)

/-- 'saronlaw06.KernelMany', WHERE WHAT IT READS IS OF BULK AT MOST 1048576: true; the input reads as it did. -/
def kernelManyUptoRow : OpenClaim := { program := "ytagkfkdoibnhfaadoor", sum := "477b99a74d8b440963f5bc72666492afea97510efa9957584e70d27d4730aec6", func := "saron/saronlaw06.KernelMany", spec := "kernelMany", unfollowed := true, recurses := true, named := ["saron/kernel.rules"], plainKeys := false, apart := false, laid := [("saron/kernel.rules", laid_saron_kernel_rules)], narrowed := true }
def KernelManyUptoSaid : Prop := kernelManyUptoRow.holds Tryd.pinned (OpenSpec.upto kernelManySpec)

/-- 'saronlaw06.KernelWon', WHERE WHAT IT READS IS OF BULK AT MOST 1048576: true; the input reads as it did. -/
def kernelWonUptoRow : OpenClaim := { program := "ytagkfkdoibnhfaadoor", sum := "477b99a74d8b440963f5bc72666492afea97510efa9957584e70d27d4730aec6", func := "saron/saronlaw06.KernelWon", spec := "kernelWon", unfollowed := true, recurses := true, named := ["saron/kernel.rules"], plainKeys := false, apart := false, laid := [("saron/kernel.rules", laid_saron_kernel_rules)], narrowed := true }
def KernelWonUptoSaid : Prop := kernelWonUptoRow.holds Tryd.pinned (OpenSpec.upto kernelWonSpec)

/-- 'saronlaw06.KernelPairs', WHERE WHAT IT READS IS OF BULK AT MOST 1048576: true; the input reads as it did. -/
def kernelPairsUptoRow : OpenClaim := { program := "ytagkfkdoibnhfaadoor", sum := "477b99a74d8b440963f5bc72666492afea97510efa9957584e70d27d4730aec6", func := "saron/saronlaw06.KernelPairs", spec := "kernelPairs", unfollowed := true, recurses := true, named := ["saron/kernel.rules"], plainKeys := false, apart := false, laid := [("saron/kernel.rules", laid_saron_kernel_rules)], narrowed := true }
def KernelPairsUptoSaid : Prop := kernelPairsUptoRow.holds Tryd.pinned (OpenSpec.upto kernelPairsSpec)

/-- 'saronlaw06.KernelTrue', WHERE WHAT IT READS IS OF BULK AT MOST 1048576: true; the input reads as it did. -/
def kernelTrueUptoRow : OpenClaim := { program := "ytagkfkdoibnhfaadoor", sum := "477b99a74d8b440963f5bc72666492afea97510efa9957584e70d27d4730aec6", func := "saron/saronlaw06.KernelTrue", spec := "kernelTrue", unfollowed := true, recurses := true, named := ["saron/kernel.rules"], plainKeys := false, apart := false, laid := [("saron/kernel.rules", laid_saron_kernel_rules)], narrowed := true }
def KernelTrueUptoSaid : Prop := kernelTrueUptoRow.holds Tryd.pinned (OpenSpec.upto kernelTrueSpec)

/-- 'saronlaw06.KernelBack', WHERE WHAT IT READS IS OF BULK AT MOST 1048576: true; the input reads as it did. -/
def kernelBackUptoRow : OpenClaim := { program := "ytagkfkdoibnhfaadoor", sum := "477b99a74d8b440963f5bc72666492afea97510efa9957584e70d27d4730aec6", func := "saron/saronlaw06.KernelBack", spec := "kernelBack", unfollowed := true, recurses := true, named := ["saron/kernel.rules"], plainKeys := false, apart := false, laid := [("saron/kernel.rules", laid_saron_kernel_rules)], narrowed := true }
def KernelBackUptoSaid : Prop := kernelBackUptoRow.holds Tryd.pinned (OpenSpec.upto kernelBackSpec)

/-- 'saronlaw06.KernelPlays', WHERE WHAT IT READS IS OF BULK AT MOST 1048576: true; the input reads as it did. -/
def kernelPlaysUptoRow : OpenClaim := { program := "ytagkfkdoibnhfaadoor", sum := "477b99a74d8b440963f5bc72666492afea97510efa9957584e70d27d4730aec6", func := "saron/saronlaw06.KernelPlays", spec := "kernelPlays", unfollowed := true, recurses := true, named := ["saron/kernel.rules"], plainKeys := false, apart := false, laid := [("saron/kernel.rules", laid_saron_kernel_rules)], narrowed := true }
def KernelPlaysUptoSaid : Prop := kernelPlaysUptoRow.holds Tryd.pinned (OpenSpec.upto kernelPlaysSpec)

/-- 'saronlaw06.KernelDoubled', WHERE WHAT IT READS IS OF BULK AT MOST 1048576: true; the input reads as it did. -/
def kernelDoubledUptoRow : OpenClaim := { program := "ytagkfkdoibnhfaadoor", sum := "477b99a74d8b440963f5bc72666492afea97510efa9957584e70d27d4730aec6", func := "saron/saronlaw06.KernelDoubled", spec := "kernelDoubled", unfollowed := true, recurses := true, named := ["saron/kernel.rules"], plainKeys := false, apart := false, laid := [("saron/kernel.rules", laid_saron_kernel_rules)], narrowed := true }
def KernelDoubledUptoSaid : Prop := kernelDoubledUptoRow.holds Tryd.pinned (OpenSpec.upto kernelDoubledSpec)

/-- 'saronlaw06.KernelLosing', WHERE WHAT IT READS IS OF BULK AT MOST 1048576: true; the input reads as it did. -/
def kernelLosingUptoRow : OpenClaim := { program := "ytagkfkdoibnhfaadoor", sum := "477b99a74d8b440963f5bc72666492afea97510efa9957584e70d27d4730aec6", func := "saron/saronlaw06.KernelLosing", spec := "kernelLosing", unfollowed := true, recurses := true, named := ["saron/kernel.rules"], plainKeys := false, apart := false, laid := [("saron/kernel.rules", laid_saron_kernel_rules)], narrowed := true }
def KernelLosingUptoSaid : Prop := kernelLosingUptoRow.holds Tryd.pinned (OpenSpec.upto kernelLosingSpec)

/-- 'saronlaw06.KernelWrongly', WHERE WHAT IT READS IS OF BULK AT MOST 1048576: true; the input reads as it did. -/
def kernelWronglyUptoRow : OpenClaim := { program := "ytagkfkdoibnhfaadoor", sum := "477b99a74d8b440963f5bc72666492afea97510efa9957584e70d27d4730aec6", func := "saron/saronlaw06.KernelWrongly", spec := "kernelWrongly", unfollowed := true, recurses := true, named := ["saron/kernel.rules"], plainKeys := false, apart := false, laid := [("saron/kernel.rules", laid_saron_kernel_rules)], narrowed := true }
def KernelWronglyUptoSaid : Prop := kernelWronglyUptoRow.holds Tryd.pinned (OpenSpec.upto kernelWronglySpec)

/-- 'saronlaw06.KernelOne', WHERE WHAT IT READS IS OF BULK AT MOST 1048576: true; the input reads as it did. -/
def kernelOneUptoRow : OpenClaim := { program := "ytagkfkdoibnhfaadoor", sum := "477b99a74d8b440963f5bc72666492afea97510efa9957584e70d27d4730aec6", func := "saron/saronlaw06.KernelOne", spec := "kernelOne", unfollowed := true, recurses := true, named := ["saron/kernel.rules"], plainKeys := false, apart := false, laid := [("saron/kernel.rules", laid_saron_kernel_rules)], narrowed := true }
def KernelOneUptoSaid : Prop := kernelOneUptoRow.holds Tryd.pinned (OpenSpec.upto kernelOneSpec)

/-- 'saronlaw06.KernelWhole', WHERE WHAT IT READS IS OF BULK AT MOST 1048576: true; the input reads as it did. -/
def kernelWholeUptoRow : OpenClaim := { program := "ytagkfkdoibnhfaadoor", sum := "477b99a74d8b440963f5bc72666492afea97510efa9957584e70d27d4730aec6", func := "saron/saronlaw06.KernelWhole", spec := "kernelWhole", unfollowed := true, recurses := true, named := ["saron/kernel.rules"], plainKeys := false, apart := false, laid := [("saron/kernel.rules", laid_saron_kernel_rules)], narrowed := true }
def KernelWholeUptoSaid : Prop := kernelWholeUptoRow.holds Tryd.pinned (OpenSpec.upto kernelWholeSpec)

/-- 'saronlaw06.KernelKnown', WHERE WHAT IT READS IS OF BULK AT MOST 1048576: true; the input reads as it did. -/
def kernelKnownUptoRow : OpenClaim := { program := "ytagkfkdoibnhfaadoor", sum := "477b99a74d8b440963f5bc72666492afea97510efa9957584e70d27d4730aec6", func := "saron/saronlaw06.KernelKnown", spec := "kernelKnown", unfollowed := true, recurses := true, named := ["saron/kernel.rules"], plainKeys := false, apart := false, laid := [("saron/kernel.rules", laid_saron_kernel_rules)], narrowed := true }
def KernelKnownUptoSaid : Prop := kernelKnownUptoRow.holds Tryd.pinned (OpenSpec.upto kernelKnownSpec)

end Rows
end Go.Proofs.YtagkfkdoibnhfaaDoor
