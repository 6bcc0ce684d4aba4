/-
  No cell of these rows narrows 'for every input' (looked for: loops, veiled, ifaces, maps, wideKeys, modest, calm, conditions, laid).
  DERIVED. THE GIVEN ROWS OF THIS SEAT. 9 by the template 'for every input the law returns true; each argument reads behind the call as it read before'; 0 by the template 'total and deterministic' (their statements: YtiplichdhcmjdaaTotals.lean).
  GIVEN WITH THE SEED: the statements are not yours to turn. If you find one false, say at which input.
  Laid BY PROGRAM, IN A SANDBOX (cutbox-rows.mjs): the forced cells as the released guide's own fill.sh prints them over the translation 58966df62d3fa40f… (all of the seat's roots in one cut). By AI agents, Wed Nov 11 2026. No macro, syntax, notation, axiom, sorry.
-/
import Derived.Test.YtiplichdhcmjdaaChecked
import GoSem.Claim
import GoSem.ClaimJoined
import GoSem.ClaimMapViews
import Derived.JoinedTies
import Derived.KernelRfl
namespace Go.Proofs.Ytiplichdhcmjdaa
/- THE CELL 'sum', in the pinned program and in every row, IS THE sha256 OF THE DUMP (.gsa) THAT YtiplichdhcmjdaaProg.lean LOADS. Nothing in Lean hashes anything: it is a label: what it is worth is what the hold of that sum in a sandbox is worth. -/
noncomputable def Try.pinned : Pinned := { name := "ytiplichdhcmjdaa", sum := "58966df62d3fa40f24adb4538f85a0aee0f1b98838644837bfa3c3275a439d7b", checked := Try.checked }
namespace Rows
def none {H : Type} : Left H := { results := [], args := [] }

/-- 'bijoulaw10.CountAgrees': WHATEVER THE INPUT: true; the input reads as it did. -/
def countAgreesSpec : ChangeSpec := { name := "countAgrees", fn := fun _ => fun
  | [d1, d2, d3] => { results := [.lit (.bool true)], args := [d1, d2, d3] }
  | _ => none }
def countAgreesRow : OpenClaim := { program := "ytiplichdhcmjdaa", sum := "58966df62d3fa40f24adb4538f85a0aee0f1b98838644837bfa3c3275a439d7b", func := "bijou/bijoulaw10.CountAgrees", spec := "countAgrees", unfollowed := true, recurses := true, plainKeys := false, apart := false }
def CountAgreesSaid : Prop := countAgreesRow.holds Try.pinned (OpenSpec.ofChange countAgreesSpec)

/-- ITS FALSE NEIGHBOUR: 'it returns false'. Refute it at one input. -/
def countAgreesWrong : ChangeSpec := { name := "countAgrees", fn := fun _ => fun
  | [d1, d2, d3] => { results := [.lit (.bool false)], args := [d1, d2, d3] }
  | _ => none }
def CountAgreesWrongFalsely : Prop := countAgreesRow.holds Try.pinned (OpenSpec.ofChange countAgreesWrong)

/-- 'bijoulaw10.CountFlaws': WHATEVER THE INPUT: true; the input reads as it did. -/
def countFlawsSpec : ChangeSpec := { name := "countFlaws", fn := fun _ => fun
  | [d] => { results := [.lit (.bool true)], args := [d] }
  | _ => none }
def countFlawsRow : OpenClaim := { program := "ytiplichdhcmjdaa", sum := "58966df62d3fa40f24adb4538f85a0aee0f1b98838644837bfa3c3275a439d7b", func := "bijou/bijoulaw10.CountFlaws", spec := "countFlaws", unfollowed := true, recurses := true, plainKeys := false, apart := false }
def CountFlawsSaid : Prop := countFlawsRow.holds Try.pinned (OpenSpec.ofChange countFlawsSpec)

/-- ITS FALSE NEIGHBOUR: 'it returns false'. Refute it at one input. -/
def countFlawsWrong : ChangeSpec := { name := "countFlaws", fn := fun _ => fun
  | [d] => { results := [.lit (.bool false)], args := [d] }
  | _ => none }
def CountFlawsWrongFalsely : Prop := countFlawsRow.holds Try.pinned (OpenSpec.ofChange countFlawsWrong)

/-- 'bijoulaw10.CountTruth': WHATEVER THE INPUT: true; the input reads as it did. -/
def countTruthSpec : ChangeSpec := { name := "countTruth", fn := fun _ => fun
  | [d1, d2] => { results := [.lit (.bool true)], args := [d1, d2] }
  | _ => none }
def countTruthRow : OpenClaim := { program := "ytiplichdhcmjdaa", sum := "58966df62d3fa40f24adb4538f85a0aee0f1b98838644837bfa3c3275a439d7b", func := "bijou/bijoulaw10.CountTruth", spec := "countTruth", unfollowed := true, recurses := true, plainKeys := false, apart := false }
def CountTruthSaid : Prop := countTruthRow.holds Try.pinned (OpenSpec.ofChange countTruthSpec)

/-- ITS FALSE NEIGHBOUR: 'it returns false'. Refute it at one input. -/
def countTruthWrong : ChangeSpec := { name := "countTruth", fn := fun _ => fun
  | [d1, d2] => { results := [.lit (.bool false)], args := [d1, d2] }
  | _ => none }
def CountTruthWrongFalsely : Prop := countTruthRow.holds Try.pinned (OpenSpec.ofChange countTruthWrong)

/-- 'bijoulaw10.CountOrder': WHATEVER THE INPUT: true; the input reads as it did. -/
def countOrderSpec : ChangeSpec := { name := "countOrder", fn := fun _ => fun
  | [d1, d2] => { results := [.lit (.bool true)], args := [d1, d2] }
  | _ => none }
def countOrderRow : OpenClaim := { program := "ytiplichdhcmjdaa", sum := "58966df62d3fa40f24adb4538f85a0aee0f1b98838644837bfa3c3275a439d7b", func := "bijou/bijoulaw10.CountOrder", spec := "countOrder", unfollowed := true, recurses := true, plainKeys := false, apart := false }
def CountOrderSaid : Prop := countOrderRow.holds Try.pinned (OpenSpec.ofChange countOrderSpec)

/-- ITS FALSE NEIGHBOUR: 'it returns false'. Refute it at one input. -/
def countOrderWrong : ChangeSpec := { name := "countOrder", fn := fun _ => fun
  | [d1, d2] => { results := [.lit (.bool false)], args := [d1, d2] }
  | _ => none }
def CountOrderWrongFalsely : Prop := countOrderRow.holds Try.pinned (OpenSpec.ofChange countOrderWrong)

/-- 'bijoulaw10.CountParts': WHATEVER THE INPUT: true; the input reads as it did. -/
def countPartsSpec : ChangeSpec := { name := "countParts", fn := fun _ => fun
  | [d] => { results := [.lit (.bool true)], args := [d] }
  | _ => none }
def countPartsRow : OpenClaim := { program := "ytiplichdhcmjdaa", sum := "58966df62d3fa40f24adb4538f85a0aee0f1b98838644837bfa3c3275a439d7b", func := "bijou/bijoulaw10.CountParts", spec := "countParts", unfollowed := true, recurses := true, plainKeys := false, apart := false }
def CountPartsSaid : Prop := countPartsRow.holds Try.pinned (OpenSpec.ofChange countPartsSpec)

/-- ITS FALSE NEIGHBOUR: 'it returns false'. Refute it at one input. -/
def countPartsWrong : ChangeSpec := { name := "countParts", fn := fun _ => fun
  | [d] => { results := [.lit (.bool false)], args := [d] }
  | _ => none }
def CountPartsWrongFalsely : Prop := countPartsRow.holds Try.pinned (OpenSpec.ofChange countPartsWrong)

/-- 'bijoulaw10.CountSome': WHATEVER THE INPUT: true; the input reads as it did. -/
def countSomeSpec : ChangeSpec := { name := "countSome", fn := fun _ => fun
  | [d] => { results := [.lit (.bool true)], args := [d] }
  | _ => none }
def countSomeRow : OpenClaim := { program := "ytiplichdhcmjdaa", sum := "58966df62d3fa40f24adb4538f85a0aee0f1b98838644837bfa3c3275a439d7b", func := "bijou/bijoulaw10.CountSome", spec := "countSome", unfollowed := true, recurses := true, plainKeys := false, apart := false }
def CountSomeSaid : Prop := countSomeRow.holds Try.pinned (OpenSpec.ofChange countSomeSpec)

/-- ITS FALSE NEIGHBOUR: 'it returns false'. Refute it at one input. -/
def countSomeWrong : ChangeSpec := { name := "countSome", fn := fun _ => fun
  | [d] => { results := [.lit (.bool false)], args := [d] }
  | _ => none }
def CountSomeWrongFalsely : Prop := countSomeRow.holds Try.pinned (OpenSpec.ofChange countSomeWrong)

/-- 'bijoulaw10.CountCorrected': WHATEVER THE INPUT: true; the input reads as it did. -/
def countCorrectedSpec : ChangeSpec := { name := "countCorrected", fn := fun _ => fun
  | [d1, d2] => { results := [.lit (.bool true)], args := [d1, d2] }
  | _ => none }
def countCorrectedRow : OpenClaim := { program := "ytiplichdhcmjdaa", sum := "58966df62d3fa40f24adb4538f85a0aee0f1b98838644837bfa3c3275a439d7b", func := "bijou/bijoulaw10.CountCorrected", spec := "countCorrected", unfollowed := true, recurses := true, plainKeys := false, apart := false }
def CountCorrectedSaid : Prop := countCorrectedRow.holds Try.pinned (OpenSpec.ofChange countCorrectedSpec)

/-- ITS FALSE NEIGHBOUR: 'it returns false'. Refute it at one input. -/
def countCorrectedWrong : ChangeSpec := { name := "countCorrected", fn := fun _ => fun
  | [d1, d2] => { results := [.lit (.bool false)], args := [d1, d2] }
  | _ => none }
def CountCorrectedWrongFalsely : Prop := countCorrectedRow.holds Try.pinned (OpenSpec.ofChange countCorrectedWrong)

/-- 'bijoulaw10.CountExplained': WHATEVER THE INPUT: true; the input reads as it did. -/
def countExplainedSpec : ChangeSpec := { name := "countExplained", fn := fun _ => fun
  | [d] => { results := [.lit (.bool true)], args := [d] }
  | _ => none }
def countExplainedRow : OpenClaim := { program := "ytiplichdhcmjdaa", sum := "58966df62d3fa40f24adb4538f85a0aee0f1b98838644837bfa3c3275a439d7b", func := "bijou/bijoulaw10.CountExplained", spec := "countExplained", unfollowed := true, recurses := true, plainKeys := false, apart := false }
def CountExplainedSaid : Prop := countExplainedRow.holds Try.pinned (OpenSpec.ofChange countExplainedSpec)

/-- ITS FALSE NEIGHBOUR: 'it returns false'. Refute it at one input. -/
def countExplainedWrong : ChangeSpec := { name := "countExplained", fn := fun _ => fun
  | [d] => { results := [.lit (.bool false)], args := [d] }
  | _ => none }
def CountExplainedWrongFalsely : Prop := countExplainedRow.holds Try.pinned (OpenSpec.ofChange countExplainedWrong)

/-- 'bijoulaw10.CountReally': WHATEVER THE INPUT: true; the input reads as it did. -/
def countReallySpec : ChangeSpec := { name := "countReally", fn := fun _ => fun
  | [d1, d2, d3] => { results := [.lit (.bool true)], args := [d1, d2, d3] }
  | _ => none }
def countReallyRow : OpenClaim := { program := "ytiplichdhcmjdaa", sum := "58966df62d3fa40f24adb4538f85a0aee0f1b98838644837bfa3c3275a439d7b", func := "bijou/bijoulaw10.CountReally", spec := "countReally", unfollowed := true, recurses := true, plainKeys := false, apart := false }
def CountReallySaid : Prop := countReallyRow.holds Try.pinned (OpenSpec.ofChange countReallySpec)

/-- ITS FALSE NEIGHBOUR: 'it returns false'. Refute it at one input. -/
def countReallyWrong : ChangeSpec := { name := "countReally", fn := fun _ => fun
  | [d1, d2, d3] => { results := [.lit (.bool false)], args := [d1, d2, d3] }
  | _ => none }
def CountReallyWrongFalsely : Prop := countReallyRow.holds Try.pinned (OpenSpec.ofChange countReallyWrong)

/- THE SECOND FORM. 'bulk': how many values and letters a reading holds, each counted each time it is reached (what is shared counts as often as it is met; a slice's spare places count too). A statement '..UptoSaid' is the law's where the arguments, and the package variables that the reading takes, are together of bulk at most 1048576: NARROWER than '..Said'. Prove '..Said' where nothing that the law and all that it calls make is longer than what came in: it says more and counts as full. Else prove '..UptoSaid'. A law counts once. -/
mutual
def uptoBulk {H : Type} : DataW H → Nat
  | .lit (.string bytes) => bytes.length + 1
  | .lit _ => 1
  | .nil => 1
  | .ptr d => uptoBulk d + 1
  | .slice elems spare => uptoBulkAll elems + uptoBulkAll spare + 1
  | .agg parts => uptoBulkAll parts + 1
  | .iface _ d => uptoBulk d + 1
  | .map entries => uptoBulkEntries entries + 1
  | .held _ => 1
def uptoBulkAll {H : Type} : List (DataW H) → Nat
  | [] => 0
  | d :: r => uptoBulk d + uptoBulkAll r
def uptoBulkEntries {H : Type} : List (Lit × DataW H) → Nat
  | [] => 0
  | x :: r => uptoBulkEntry x + uptoBulkEntries r
def uptoBulkEntry {H : Type} : Lit × DataW H → Nat
  | (.string bytes, d) => bytes.length + uptoBulk d + 1
  | (_, d) => uptoBulk d + 1
 end
def uptoSmall : (H : Type) → List (DataW H) → Bool := fun _ ds => decide (uptoBulkAll ds ≤ 1048576)
def OpenSpec.upto (s : _root_.Go.ChangeSpec) : _root_.Go.OpenSpec := { _root_.Go.OpenSpec.ofChange s with cond := some uptoSmall }

/-- 'bijoulaw10.CountAgrees', WHERE WHAT IT READS IS OF BULK AT MOST 1048576: true; the input reads as it did. -/
def countAgreesUptoRow : OpenClaim := { program := "ytiplichdhcmjdaa", sum := "58966df62d3fa40f24adb4538f85a0aee0f1b98838644837bfa3c3275a439d7b", func := "bijou/bijoulaw10.CountAgrees", spec := "countAgrees", unfollowed := true, recurses := true, plainKeys := false, apart := false, narrowed := true }
def CountAgreesUptoSaid : Prop := countAgreesUptoRow.holds Try.pinned (OpenSpec.upto countAgreesSpec)

/-- 'bijoulaw10.CountFlaws', WHERE WHAT IT READS IS OF BULK AT MOST 1048576: true; the input reads as it did. -/
def countFlawsUptoRow : OpenClaim := { program := "ytiplichdhcmjdaa", sum := "58966df62d3fa40f24adb4538f85a0aee0f1b98838644837bfa3c3275a439d7b", func := "bijou/bijoulaw10.CountFlaws", spec := "countFlaws", unfollowed := true, recurses := true, plainKeys := false, apart := false, narrowed := true }
def CountFlawsUptoSaid : Prop := countFlawsUptoRow.holds Try.pinned (OpenSpec.upto countFlawsSpec)

/-- 'bijoulaw10.CountTruth', WHERE WHAT IT READS IS OF BULK AT MOST 1048576: true; the input reads as it did. -/
def countTruthUptoRow : OpenClaim := { program := "ytiplichdhcmjdaa", sum := "58966df62d3fa40f24adb4538f85a0aee0f1b98838644837bfa3c3275a439d7b", func := "bijou/bijoulaw10.CountTruth", spec := "countTruth", unfollowed := true, recurses := true, plainKeys := false, apart := false, narrowed := true }
def CountTruthUptoSaid : Prop := countTruthUptoRow.holds Try.pinned (OpenSpec.upto countTruthSpec)

/-- 'bijoulaw10.CountOrder', WHERE WHAT IT READS IS OF BULK AT MOST 1048576: true; the input reads as it did. -/
def countOrderUptoRow : OpenClaim := { program := "ytiplichdhcmjdaa", sum := "58966df62d3fa40f24adb4538f85a0aee0f1b98838644837bfa3c3275a439d7b", func := "bijou/bijoulaw10.CountOrder", spec := "countOrder", unfollowed := true, recurses := true, plainKeys := false, apart := false, narrowed := true }
def CountOrderUptoSaid : Prop := countOrderUptoRow.holds Try.pinned (OpenSpec.upto countOrderSpec)

/-- 'bijoulaw10.CountParts', WHERE WHAT IT READS IS OF BULK AT MOST 1048576: true; the input reads as it did. -/
def countPartsUptoRow : OpenClaim := { program := "ytiplichdhcmjdaa", sum := "58966df62d3fa40f24adb4538f85a0aee0f1b98838644837bfa3c3275a439d7b", func := "bijou/bijoulaw10.CountParts", spec := "countParts", unfollowed := true, recurses := true, plainKeys := false, apart := false, narrowed := true }
def CountPartsUptoSaid : Prop := countPartsUptoRow.holds Try.pinned (OpenSpec.upto countPartsSpec)

/-- 'bijoulaw10.CountSome', WHERE WHAT IT READS IS OF BULK AT MOST 1048576: true; the input reads as it did. -/
def countSomeUptoRow : OpenClaim := { program := "ytiplichdhcmjdaa", sum := "58966df62d3fa40f24adb4538f85a0aee0f1b98838644837bfa3c3275a439d7b", func := "bijou/bijoulaw10.CountSome", spec := "countSome", unfollowed := true, recurses := true, plainKeys := false, apart := false, narrowed := true }
def CountSomeUptoSaid : Prop := countSomeUptoRow.holds Try.pinned (OpenSpec.upto countSomeSpec)

/-- 'bijoulaw10.CountCorrected', WHERE WHAT IT READS IS OF BULK AT MOST 1048576: true; the input reads as it did. -/
def countCorrectedUptoRow : OpenClaim := { program := "ytiplichdhcmjdaa", sum := "58966df62d3fa40f24adb4538f85a0aee0f1b98838644837bfa3c3275a439d7b", func := "bijou/bijoulaw10.CountCorrected", spec := "countCorrected", unfollowed := true, recurses := true, plainKeys := false, apart := false, narrowed := true }
def CountCorrectedUptoSaid : Prop := countCorrectedUptoRow.holds Try.pinned (OpenSpec.upto countCorrectedSpec)

/-- 'bijoulaw10.CountExplained', WHERE WHAT IT READS IS OF BULK AT MOST 1048576: true; the input reads as it did. -/
def countExplainedUptoRow : OpenClaim := { program := "ytiplichdhcmjdaa", sum := "58966df62d3fa40f24adb4538f85a0aee0f1b98838644837bfa3c3275a439d7b", func := "bijou/bijoulaw10.CountExplained", spec := "countExplained", unfollowed := true, recurses := true, plainKeys := false, apart := false, narrowed := true }
def CountExplainedUptoSaid : Prop := countExplainedUptoRow.holds Try.pinned (OpenSpec.upto countExplainedSpec)

/-- 'bijoulaw10.CountReally', WHERE WHAT IT READS IS OF BULK AT MOST 1048576: true; the input reads as it did. -/
def countReallyUptoRow : OpenClaim := { program := "ytiplichdhcmjdaa", sum := "58966df62d3fa40f24adb4538f85a0aee0f1b98838644837bfa3c3275a439d7b", func := "bijou/bijoulaw10.CountReally", spec := "countReally", unfollowed := true, recurses := true, plainKeys := false, apart := false, narrowed := true }
def CountReallyUptoSaid : Prop := countReallyUptoRow.holds Try.pinned (OpenSpec.upto countReallySpec)

end Rows
end Go.Proofs.Ytiplichdhcmjdaa
