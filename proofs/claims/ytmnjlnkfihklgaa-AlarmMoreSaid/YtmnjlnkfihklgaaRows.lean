/-
  No cell of these rows narrows 'for every input' (looked for: loops, veiled, ifaces, maps, wideKeys, modest, calm, conditions, laid).
  DERIVED. THE GIVEN ROWS OF THIS SEAT. 8 by the template 'for every input the law returns true; each argument reads behind the call as it read before'; 0 by the template 'total and deterministic' (their statements: YtmnjlnkfihklgaaTotals.lean).
  GIVEN WITH THE SEED: the statements are not yours to turn. If you find one false, say at which input.
  Laid BY PROGRAM, IN A SANDBOX (cutbox-rows.mjs): the forced cells as the released guide's own fill.sh prints them over the translation 1169c10ab5f60afe… (all of the seat's roots in one cut). By AI agents, Wed Nov 11 2026. No macro, syntax, notation, axiom, sorry.
-/
import Derived.Test.YtmnjlnkfihklgaaChecked
import GoSem.Claim
import GoSem.ClaimJoined
import GoSem.ClaimMapViews
import Derived.JoinedTies
import Derived.KernelRfl
namespace Go.Proofs.Ytmnjlnkfihklgaa
/- THE CELL 'sum', in the pinned program and in every row, IS THE sha256 OF THE DUMP (.gsa) THAT YtmnjlnkfihklgaaProg.lean LOADS. Nothing in Lean hashes anything: it is a label: what it is worth is what the hold of that sum in a sandbox is worth. -/
noncomputable def Try.pinned : Pinned := { name := "ytmnjlnkfihklgaa", sum := "1169c10ab5f60afe4a3e027ba3ed8bf39283b9028ca4da5a33dd29ad1a66dd43", checked := Try.checked }
namespace Rows
def none {H : Type} : Left H := { results := [], args := [] }

/-- 'bijoulaw11.AlarmGone': WHATEVER THE INPUT: true; the input reads as it did. -/
def alarmGoneSpec : ChangeSpec := { name := "alarmGone", fn := fun _ => fun
  | [d1, d2, d3] => { results := [.lit (.bool true)], args := [d1, d2, d3] }
  | _ => none }
def alarmGoneRow : OpenClaim := { program := "ytmnjlnkfihklgaa", sum := "1169c10ab5f60afe4a3e027ba3ed8bf39283b9028ca4da5a33dd29ad1a66dd43", func := "bijou/bijoulaw11.AlarmGone", spec := "alarmGone", unfollowed := true, recurses := true, plainKeys := false, apart := false }
def AlarmGoneSaid : Prop := alarmGoneRow.holds Try.pinned (OpenSpec.ofChange alarmGoneSpec)

/-- ITS FALSE NEIGHBOUR: 'it returns false'. Refute it at one input. -/
def alarmGoneWrong : ChangeSpec := { name := "alarmGone", fn := fun _ => fun
  | [d1, d2, d3] => { results := [.lit (.bool false)], args := [d1, d2, d3] }
  | _ => none }
def AlarmGoneWrongFalsely : Prop := alarmGoneRow.holds Try.pinned (OpenSpec.ofChange alarmGoneWrong)

/-- 'bijoulaw11.AlarmEmpty': WHATEVER THE INPUT: true; the input reads as it did. -/
def alarmEmptySpec : ChangeSpec := { name := "alarmEmpty", fn := fun _ => fun
  | [d1, d2, d3] => { results := [.lit (.bool true)], args := [d1, d2, d3] }
  | _ => none }
def alarmEmptyRow : OpenClaim := { program := "ytmnjlnkfihklgaa", sum := "1169c10ab5f60afe4a3e027ba3ed8bf39283b9028ca4da5a33dd29ad1a66dd43", func := "bijou/bijoulaw11.AlarmEmpty", spec := "alarmEmpty", unfollowed := true, recurses := true, plainKeys := false, apart := false }
def AlarmEmptySaid : Prop := alarmEmptyRow.holds Try.pinned (OpenSpec.ofChange alarmEmptySpec)

/-- ITS FALSE NEIGHBOUR: 'it returns false'. Refute it at one input. -/
def alarmEmptyWrong : ChangeSpec := { name := "alarmEmpty", fn := fun _ => fun
  | [d1, d2, d3] => { results := [.lit (.bool false)], args := [d1, d2, d3] }
  | _ => none }
def AlarmEmptyWrongFalsely : Prop := alarmEmptyRow.holds Try.pinned (OpenSpec.ofChange alarmEmptyWrong)

/-- 'bijoulaw11.AlarmEarliest': WHATEVER THE INPUT: true; the input reads as it did. -/
def alarmEarliestSpec : ChangeSpec := { name := "alarmEarliest", fn := fun _ => fun
  | [d] => { results := [.lit (.bool true)], args := [d] }
  | _ => none }
def alarmEarliestRow : OpenClaim := { program := "ytmnjlnkfihklgaa", sum := "1169c10ab5f60afe4a3e027ba3ed8bf39283b9028ca4da5a33dd29ad1a66dd43", func := "bijou/bijoulaw11.AlarmEarliest", spec := "alarmEarliest", unfollowed := true, recurses := true, plainKeys := false, apart := false }
def AlarmEarliestSaid : Prop := alarmEarliestRow.holds Try.pinned (OpenSpec.ofChange alarmEarliestSpec)

/-- ITS FALSE NEIGHBOUR: 'it returns false'. Refute it at one input. -/
def alarmEarliestWrong : ChangeSpec := { name := "alarmEarliest", fn := fun _ => fun
  | [d] => { results := [.lit (.bool false)], args := [d] }
  | _ => none }
def AlarmEarliestWrongFalsely : Prop := alarmEarliestRow.holds Try.pinned (OpenSpec.ofChange alarmEarliestWrong)

/-- 'bijoulaw11.AlarmMore': WHATEVER THE INPUT: true; the input reads as it did. -/
def alarmMoreSpec : ChangeSpec := { name := "alarmMore", fn := fun _ => fun
  | [d1, d2, d3] => { results := [.lit (.bool true)], args := [d1, d2, d3] }
  | _ => none }
def alarmMoreRow : OpenClaim := { program := "ytmnjlnkfihklgaa", sum := "1169c10ab5f60afe4a3e027ba3ed8bf39283b9028ca4da5a33dd29ad1a66dd43", func := "bijou/bijoulaw11.AlarmMore", spec := "alarmMore", unfollowed := true, recurses := true, plainKeys := false, apart := false }
def AlarmMoreSaid : Prop := alarmMoreRow.holds Try.pinned (OpenSpec.ofChange alarmMoreSpec)

/-- ITS FALSE NEIGHBOUR: 'it returns false'. Refute it at one input. -/
def alarmMoreWrong : ChangeSpec := { name := "alarmMore", fn := fun _ => fun
  | [d1, d2, d3] => { results := [.lit (.bool false)], args := [d1, d2, d3] }
  | _ => none }
def AlarmMoreWrongFalsely : Prop := alarmMoreRow.holds Try.pinned (OpenSpec.ofChange alarmMoreWrong)

/-- 'bijoulaw11.AlarmDoors': WHATEVER THE INPUT: true; the input reads as it did. -/
def alarmDoorsSpec : ChangeSpec := { name := "alarmDoors", fn := fun _ => fun
  | [d1, d2, d3] => { results := [.lit (.bool true)], args := [d1, d2, d3] }
  | _ => none }
def alarmDoorsRow : OpenClaim := { program := "ytmnjlnkfihklgaa", sum := "1169c10ab5f60afe4a3e027ba3ed8bf39283b9028ca4da5a33dd29ad1a66dd43", func := "bijou/bijoulaw11.AlarmDoors", spec := "alarmDoors", unfollowed := true, recurses := true, plainKeys := false, apart := false }
def AlarmDoorsSaid : Prop := alarmDoorsRow.holds Try.pinned (OpenSpec.ofChange alarmDoorsSpec)

/-- ITS FALSE NEIGHBOUR: 'it returns false'. Refute it at one input. -/
def alarmDoorsWrong : ChangeSpec := { name := "alarmDoors", fn := fun _ => fun
  | [d1, d2, d3] => { results := [.lit (.bool false)], args := [d1, d2, d3] }
  | _ => none }
def AlarmDoorsWrongFalsely : Prop := alarmDoorsRow.holds Try.pinned (OpenSpec.ofChange alarmDoorsWrong)

/-- 'bijoulaw11.AlarmTimes': WHATEVER THE INPUT: true; the input reads as it did. -/
def alarmTimesSpec : ChangeSpec := { name := "alarmTimes", fn := fun _ => fun
  | [d1, d2, d3] => { results := [.lit (.bool true)], args := [d1, d2, d3] }
  | _ => none }
def alarmTimesRow : OpenClaim := { program := "ytmnjlnkfihklgaa", sum := "1169c10ab5f60afe4a3e027ba3ed8bf39283b9028ca4da5a33dd29ad1a66dd43", func := "bijou/bijoulaw11.AlarmTimes", spec := "alarmTimes", unfollowed := true, recurses := true, plainKeys := false, apart := false }
def AlarmTimesSaid : Prop := alarmTimesRow.holds Try.pinned (OpenSpec.ofChange alarmTimesSpec)

/-- ITS FALSE NEIGHBOUR: 'it returns false'. Refute it at one input. -/
def alarmTimesWrong : ChangeSpec := { name := "alarmTimes", fn := fun _ => fun
  | [d1, d2, d3] => { results := [.lit (.bool false)], args := [d1, d2, d3] }
  | _ => none }
def AlarmTimesWrongFalsely : Prop := alarmTimesRow.holds Try.pinned (OpenSpec.ofChange alarmTimesWrong)

/-- 'bijoulaw11.AlarmMost': WHATEVER THE INPUT: true; the input reads as it did. -/
def alarmMostSpec : ChangeSpec := { name := "alarmMost", fn := fun _ => fun
  | [d1, d2] => { results := [.lit (.bool true)], args := [d1, d2] }
  | _ => none }
def alarmMostRow : OpenClaim := { program := "ytmnjlnkfihklgaa", sum := "1169c10ab5f60afe4a3e027ba3ed8bf39283b9028ca4da5a33dd29ad1a66dd43", func := "bijou/bijoulaw11.AlarmMost", spec := "alarmMost", unfollowed := true, recurses := true, plainKeys := false, apart := false }
def AlarmMostSaid : Prop := alarmMostRow.holds Try.pinned (OpenSpec.ofChange alarmMostSpec)

/-- ITS FALSE NEIGHBOUR: 'it returns false'. Refute it at one input. -/
def alarmMostWrong : ChangeSpec := { name := "alarmMost", fn := fun _ => fun
  | [d1, d2] => { results := [.lit (.bool false)], args := [d1, d2] }
  | _ => none }
def AlarmMostWrongFalsely : Prop := alarmMostRow.holds Try.pinned (OpenSpec.ofChange alarmMostWrong)

/-- 'bijoulaw11.AlarmProof': WHATEVER THE INPUT: true; the input reads as it did. -/
def alarmProofSpec : ChangeSpec := { name := "alarmProof", fn := fun _ => fun
  | [d1, d2, d3] => { results := [.lit (.bool true)], args := [d1, d2, d3] }
  | _ => none }
def alarmProofRow : OpenClaim := { program := "ytmnjlnkfihklgaa", sum := "1169c10ab5f60afe4a3e027ba3ed8bf39283b9028ca4da5a33dd29ad1a66dd43", func := "bijou/bijoulaw11.AlarmProof", spec := "alarmProof", unfollowed := true, recurses := true, plainKeys := false, apart := false }
def AlarmProofSaid : Prop := alarmProofRow.holds Try.pinned (OpenSpec.ofChange alarmProofSpec)

/-- ITS FALSE NEIGHBOUR: 'it returns false'. Refute it at one input. -/
def alarmProofWrong : ChangeSpec := { name := "alarmProof", fn := fun _ => fun
  | [d1, d2, d3] => { results := [.lit (.bool false)], args := [d1, d2, d3] }
  | _ => none }
def AlarmProofWrongFalsely : Prop := alarmProofRow.holds Try.pinned (OpenSpec.ofChange alarmProofWrong)

/- THE SECOND FORM. 'bulk': how many values and letters a reading holds, each counted each time it is reached (what is shared counts as often as it is met; a slice's spare places count too). A statement '..UptoSaid' is the law's where the arguments, and the package variables that the reading takes, are together of bulk at most 1048576: NARROWER than '..Said'. Prove '..Said' where nothing that the law and all that it calls make is longer than what came in: it says more and counts as full. Else prove '..UptoSaid'. A law counts once. -/
mutual
def uptoBulk {H : Type} : DataW H → Nat
  | .lit (.string bytes) => bytes.length + 1
  | .lit _ => 1
  | .nil => 1
  | .ptr d => uptoBulk d + 1
  | .slice elems spare => uptoBulkAll elems + uptoBulkAll spare + 1
  | .agg parts => uptoBulkAll parts + 1
  | .iface _ d => uptoBulk d + 1
  | .map entries => uptoBulkEntries entries + 1
  | .held _ => 1
def uptoBulkAll {H : Type} : List (DataW H) → Nat
  | [] => 0
  | d :: r => uptoBulk d + uptoBulkAll r
def uptoBulkEntries {H : Type} : List (Lit × DataW H) → Nat
  | [] => 0
  | x :: r => uptoBulkEntry x + uptoBulkEntries r
def uptoBulkEntry {H : Type} : Lit × DataW H → Nat
  | (.string bytes, d) => bytes.length + uptoBulk d + 1
  | (_, d) => uptoBulk d + 1
 end
def uptoSmall : (H : Type) → List (DataW H) → Bool := fun _ ds => decide (uptoBulkAll ds ≤ 1048576)
def OpenSpec.upto (s : _root_.Go.ChangeSpec) : _root_.Go.OpenSpec := { _root_.Go.OpenSpec.ofChange s with cond := some uptoSmall }

/-- 'bijoulaw11.AlarmGone', WHERE WHAT IT READS IS OF BULK AT MOST 1048576: true; the input reads as it did. -/
def alarmGoneUptoRow : OpenClaim := { program := "ytmnjlnkfihklgaa", sum := "1169c10ab5f60afe4a3e027ba3ed8bf39283b9028ca4da5a33dd29ad1a66dd43", func := "bijou/bijoulaw11.AlarmGone", spec := "alarmGone", unfollowed := true, recurses := true, plainKeys := false, apart := false, narrowed := true }
def AlarmGoneUptoSaid : Prop := alarmGoneUptoRow.holds Try.pinned (OpenSpec.upto alarmGoneSpec)

/-- 'bijoulaw11.AlarmEmpty', WHERE WHAT IT READS IS OF BULK AT MOST 1048576: true; the input reads as it did. -/
def alarmEmptyUptoRow : OpenClaim := { program := "ytmnjlnkfihklgaa", sum := "1169c10ab5f60afe4a3e027ba3ed8bf39283b9028ca4da5a33dd29ad1a66dd43", func := "bijou/bijoulaw11.AlarmEmpty", spec := "alarmEmpty", unfollowed := true, recurses := true, plainKeys := false, apart := false, narrowed := true }
def AlarmEmptyUptoSaid : Prop := alarmEmptyUptoRow.holds Try.pinned (OpenSpec.upto alarmEmptySpec)

/-- 'bijoulaw11.AlarmEarliest', WHERE WHAT IT READS IS OF BULK AT MOST 1048576: true; the input reads as it did. -/
def alarmEarliestUptoRow : OpenClaim := { program := "ytmnjlnkfihklgaa", sum := "1169c10ab5f60afe4a3e027ba3ed8bf39283b9028ca4da5a33dd29ad1a66dd43", func := "bijou/bijoulaw11.AlarmEarliest", spec := "alarmEarliest", unfollowed := true, recurses := true, plainKeys := false, apart := false, narrowed := true }
def AlarmEarliestUptoSaid : Prop := alarmEarliestUptoRow.holds Try.pinned (OpenSpec.upto alarmEarliestSpec)

/-- 'bijoulaw11.AlarmMore', WHERE WHAT IT READS IS OF BULK AT MOST 1048576: true; the input reads as it did. -/
def alarmMoreUptoRow : OpenClaim := { program := "ytmnjlnkfihklgaa", sum := "1169c10ab5f60afe4a3e027ba3ed8bf39283b9028ca4da5a33dd29ad1a66dd43", func := "bijou/bijoulaw11.AlarmMore", spec := "alarmMore", unfollowed := true, recurses := true, plainKeys := false, apart := false, narrowed := true }
def AlarmMoreUptoSaid : Prop := alarmMoreUptoRow.holds Try.pinned (OpenSpec.upto alarmMoreSpec)

/-- 'bijoulaw11.AlarmDoors', WHERE WHAT IT READS IS OF BULK AT MOST 1048576: true; the input reads as it did. -/
def alarmDoorsUptoRow : OpenClaim := { program := "ytmnjlnkfihklgaa", sum := "1169c10ab5f60afe4a3e027ba3ed8bf39283b9028ca4da5a33dd29ad1a66dd43", func := "bijou/bijoulaw11.AlarmDoors", spec := "alarmDoors", unfollowed := true, recurses := true, plainKeys := false, apart := false, narrowed := true }
def AlarmDoorsUptoSaid : Prop := alarmDoorsUptoRow.holds Try.pinned (OpenSpec.upto alarmDoorsSpec)

/-- 'bijoulaw11.AlarmTimes', WHERE WHAT IT READS IS OF BULK AT MOST 1048576: true; the input reads as it did. -/
def alarmTimesUptoRow : OpenClaim := { program := "ytmnjlnkfihklgaa", sum := "1169c10ab5f60afe4a3e027ba3ed8bf39283b9028ca4da5a33dd29ad1a66dd43", func := "bijou/bijoulaw11.AlarmTimes", spec := "alarmTimes", unfollowed := true, recurses := true, plainKeys := false, apart := false, narrowed := true }
def AlarmTimesUptoSaid : Prop := alarmTimesUptoRow.holds Try.pinned (OpenSpec.upto alarmTimesSpec)

/-- 'bijoulaw11.AlarmMost', WHERE WHAT IT READS IS OF BULK AT MOST 1048576: true; the input reads as it did. -/
def alarmMostUptoRow : OpenClaim := { program := "ytmnjlnkfihklgaa", sum := "1169c10ab5f60afe4a3e027ba3ed8bf39283b9028ca4da5a33dd29ad1a66dd43", func := "bijou/bijoulaw11.AlarmMost", spec := "alarmMost", unfollowed := true, recurses := true, plainKeys := false, apart := false, narrowed := true }
def AlarmMostUptoSaid : Prop := alarmMostUptoRow.holds Try.pinned (OpenSpec.upto alarmMostSpec)

/-- 'bijoulaw11.AlarmProof', WHERE WHAT IT READS IS OF BULK AT MOST 1048576: true; the input reads as it did. -/
def alarmProofUptoRow : OpenClaim := { program := "ytmnjlnkfihklgaa", sum := "1169c10ab5f60afe4a3e027ba3ed8bf39283b9028ca4da5a33dd29ad1a66dd43", func := "bijou/bijoulaw11.AlarmProof", spec := "alarmProof", unfollowed := true, recurses := true, plainKeys := false, apart := false, narrowed := true }
def AlarmProofUptoSaid : Prop := alarmProofUptoRow.holds Try.pinned (OpenSpec.upto alarmProofSpec)

end Rows
end Go.Proofs.Ytmnjlnkfihklgaa
