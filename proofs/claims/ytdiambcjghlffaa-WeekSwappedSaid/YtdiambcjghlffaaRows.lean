/-
  No cell of these rows narrows 'for every input' (looked for: loops, veiled, ifaces, maps, wideKeys, modest, calm, conditions, laid).
  DERIVED. THE GIVEN ROWS OF THIS SEAT. 8 by the template 'for every input the law returns true; each argument reads behind the call as it read before'; 0 by the template 'total and deterministic' (their statements: YtdiambcjghlffaaTotals.lean).
  GIVEN WITH THE SEED: the statements are not yours to turn. If you find one false, say at which input.
  Laid BY PROGRAM, IN A SANDBOX (cutbox-rows.mjs): the forced cells as the released guide's own fill.sh prints them over the translation 5b682b3b27457799… (all of the seat's roots in one cut). By AI agents, Wed Nov 11 2026. No macro, syntax, notation, axiom, sorry.
-/
import Derived.Test.YtdiambcjghlffaaChecked
import GoSem.Claim
import GoSem.ClaimJoined
import GoSem.ClaimMapViews
import Derived.JoinedTies
import Derived.KernelRfl
namespace Go.Proofs.Ytdiambcjghlffaa
/- THE CELL 'sum', in the pinned program and in every row, IS THE sha256 OF THE DUMP (.gsa) THAT YtdiambcjghlffaaProg.lean LOADS. Nothing in Lean hashes anything: it is a label: what it is worth is what the hold of that sum in a sandbox is worth. -/
noncomputable def Try.pinned : Pinned := { name := "ytdiambcjghlffaa", sum := "5b682b3b27457799c190a1dbc79fc42e8df20ead55e772504196a13a26e5cebe", checked := Try.checked }
namespace Rows
def none {H : Type} : Left H := { results := [], args := [] }

/-- 'bijoulaw05.WeekMost': WHATEVER THE INPUT: true; the input reads as it did. -/
def weekMostSpec : ChangeSpec := { name := "weekMost", fn := fun _ => fun
  | [d1, d2] => { results := [.lit (.bool true)], args := [d1, d2] }
  | _ => none }
def weekMostRow : OpenClaim := { program := "ytdiambcjghlffaa", sum := "5b682b3b27457799c190a1dbc79fc42e8df20ead55e772504196a13a26e5cebe", func := "bijou/bijoulaw05.WeekMost", spec := "weekMost", unfollowed := true, recurses := true, apart := false }
def WeekMostSaid : Prop := weekMostRow.holds Try.pinned (OpenSpec.ofChange weekMostSpec)

/-- ITS FALSE NEIGHBOUR: 'it returns false'. Refute it at one input. -/
def weekMostWrong : ChangeSpec := { name := "weekMost", fn := fun _ => fun
  | [d1, d2] => { results := [.lit (.bool false)], args := [d1, d2] }
  | _ => none }
def WeekMostWrongFalsely : Prop := weekMostRow.holds Try.pinned (OpenSpec.ofChange weekMostWrong)

/-- 'bijoulaw05.WeekNamed': WHATEVER THE INPUT: true; the input reads as it did. -/
def weekNamedSpec : ChangeSpec := { name := "weekNamed", fn := fun _ => fun
  | [d1, d2] => { results := [.lit (.bool true)], args := [d1, d2] }
  | _ => none }
def weekNamedRow : OpenClaim := { program := "ytdiambcjghlffaa", sum := "5b682b3b27457799c190a1dbc79fc42e8df20ead55e772504196a13a26e5cebe", func := "bijou/bijoulaw05.WeekNamed", spec := "weekNamed", unfollowed := true, recurses := true, apart := false }
def WeekNamedSaid : Prop := weekNamedRow.holds Try.pinned (OpenSpec.ofChange weekNamedSpec)

/-- ITS FALSE NEIGHBOUR: 'it returns false'. Refute it at one input. -/
def weekNamedWrong : ChangeSpec := { name := "weekNamed", fn := fun _ => fun
  | [d1, d2] => { results := [.lit (.bool false)], args := [d1, d2] }
  | _ => none }
def WeekNamedWrongFalsely : Prop := weekNamedRow.holds Try.pinned (OpenSpec.ofChange weekNamedWrong)

/-- 'bijoulaw05.WeekLess': WHATEVER THE INPUT: true; the input reads as it did. -/
def weekLessSpec : ChangeSpec := { name := "weekLess", fn := fun _ => fun
  | [d1, d2] => { results := [.lit (.bool true)], args := [d1, d2] }
  | _ => none }
def weekLessRow : OpenClaim := { program := "ytdiambcjghlffaa", sum := "5b682b3b27457799c190a1dbc79fc42e8df20ead55e772504196a13a26e5cebe", func := "bijou/bijoulaw05.WeekLess", spec := "weekLess", unfollowed := true, recurses := true, apart := false }
def WeekLessSaid : Prop := weekLessRow.holds Try.pinned (OpenSpec.ofChange weekLessSpec)

/-- ITS FALSE NEIGHBOUR: 'it returns false'. Refute it at one input. -/
def weekLessWrong : ChangeSpec := { name := "weekLess", fn := fun _ => fun
  | [d1, d2] => { results := [.lit (.bool false)], args := [d1, d2] }
  | _ => none }
def WeekLessWrongFalsely : Prop := weekLessRow.holds Try.pinned (OpenSpec.ofChange weekLessWrong)

/-- 'bijoulaw05.WeekPrices': WHATEVER THE INPUT: true; the input reads as it did. -/
def weekPricesSpec : ChangeSpec := { name := "weekPrices", fn := fun _ => fun
  | [d1, d2, d3] => { results := [.lit (.bool true)], args := [d1, d2, d3] }
  | _ => none }
def weekPricesRow : OpenClaim := { program := "ytdiambcjghlffaa", sum := "5b682b3b27457799c190a1dbc79fc42e8df20ead55e772504196a13a26e5cebe", func := "bijou/bijoulaw05.WeekPrices", spec := "weekPrices", unfollowed := true, recurses := true, apart := false }
def WeekPricesSaid : Prop := weekPricesRow.holds Try.pinned (OpenSpec.ofChange weekPricesSpec)

/-- ITS FALSE NEIGHBOUR: 'it returns false'. Refute it at one input. -/
def weekPricesWrong : ChangeSpec := { name := "weekPrices", fn := fun _ => fun
  | [d1, d2, d3] => { results := [.lit (.bool false)], args := [d1, d2, d3] }
  | _ => none }
def WeekPricesWrongFalsely : Prop := weekPricesRow.holds Try.pinned (OpenSpec.ofChange weekPricesWrong)

/-- 'bijoulaw05.WeekBest': WHATEVER THE INPUT: true; the input reads as it did. -/
def weekBestSpec : ChangeSpec := { name := "weekBest", fn := fun _ => fun
  | [d] => { results := [.lit (.bool true)], args := [d] }
  | _ => none }
def weekBestRow : OpenClaim := { program := "ytdiambcjghlffaa", sum := "5b682b3b27457799c190a1dbc79fc42e8df20ead55e772504196a13a26e5cebe", func := "bijou/bijoulaw05.WeekBest", spec := "weekBest", unfollowed := true, recurses := true, apart := false }
def WeekBestSaid : Prop := weekBestRow.holds Try.pinned (OpenSpec.ofChange weekBestSpec)

/-- ITS FALSE NEIGHBOUR: 'it returns false'. Refute it at one input. -/
def weekBestWrong : ChangeSpec := { name := "weekBest", fn := fun _ => fun
  | [d] => { results := [.lit (.bool false)], args := [d] }
  | _ => none }
def WeekBestWrongFalsely : Prop := weekBestRow.holds Try.pinned (OpenSpec.ofChange weekBestWrong)

/-- 'bijoulaw05.WeekBroken': WHATEVER THE INPUT: true; the input reads as it did. -/
def weekBrokenSpec : ChangeSpec := { name := "weekBroken", fn := fun _ => fun
  | [d1, d2] => { results := [.lit (.bool true)], args := [d1, d2] }
  | _ => none }
def weekBrokenRow : OpenClaim := { program := "ytdiambcjghlffaa", sum := "5b682b3b27457799c190a1dbc79fc42e8df20ead55e772504196a13a26e5cebe", func := "bijou/bijoulaw05.WeekBroken", spec := "weekBroken", unfollowed := true, recurses := true, apart := false }
def WeekBrokenSaid : Prop := weekBrokenRow.holds Try.pinned (OpenSpec.ofChange weekBrokenSpec)

/-- ITS FALSE NEIGHBOUR: 'it returns false'. Refute it at one input. -/
def weekBrokenWrong : ChangeSpec := { name := "weekBroken", fn := fun _ => fun
  | [d1, d2] => { results := [.lit (.bool false)], args := [d1, d2] }
  | _ => none }
def WeekBrokenWrongFalsely : Prop := weekBrokenRow.holds Try.pinned (OpenSpec.ofChange weekBrokenWrong)

/-- 'bijoulaw05.WeekSwapped': WHATEVER THE INPUT: true; the input reads as it did. -/
def weekSwappedSpec : ChangeSpec := { name := "weekSwapped", fn := fun _ => fun
  | [d1, d2, d3] => { results := [.lit (.bool true)], args := [d1, d2, d3] }
  | _ => none }
def weekSwappedRow : OpenClaim := { program := "ytdiambcjghlffaa", sum := "5b682b3b27457799c190a1dbc79fc42e8df20ead55e772504196a13a26e5cebe", func := "bijou/bijoulaw05.WeekSwapped", spec := "weekSwapped", unfollowed := true, recurses := true, apart := false }
def WeekSwappedSaid : Prop := weekSwappedRow.holds Try.pinned (OpenSpec.ofChange weekSwappedSpec)

/-- ITS FALSE NEIGHBOUR: 'it returns false'. Refute it at one input. -/
def weekSwappedWrong : ChangeSpec := { name := "weekSwapped", fn := fun _ => fun
  | [d1, d2, d3] => { results := [.lit (.bool false)], args := [d1, d2, d3] }
  | _ => none }
def WeekSwappedWrongFalsely : Prop := weekSwappedRow.holds Try.pinned (OpenSpec.ofChange weekSwappedWrong)

/-- 'bijoulaw05.WeekProof': WHATEVER THE INPUT: true; the input reads as it did. -/
def weekProofSpec : ChangeSpec := { name := "weekProof", fn := fun _ => fun
  | [d1, d2] => { results := [.lit (.bool true)], args := [d1, d2] }
  | _ => none }
def weekProofRow : OpenClaim := { program := "ytdiambcjghlffaa", sum := "5b682b3b27457799c190a1dbc79fc42e8df20ead55e772504196a13a26e5cebe", func := "bijou/bijoulaw05.WeekProof", spec := "weekProof", unfollowed := true, recurses := true, apart := false }
def WeekProofSaid : Prop := weekProofRow.holds Try.pinned (OpenSpec.ofChange weekProofSpec)

/-- ITS FALSE NEIGHBOUR: 'it returns false'. Refute it at one input. -/
def weekProofWrong : ChangeSpec := { name := "weekProof", fn := fun _ => fun
  | [d1, d2] => { results := [.lit (.bool false)], args := [d1, d2] }
  | _ => none }
def WeekProofWrongFalsely : Prop := weekProofRow.holds Try.pinned (OpenSpec.ofChange weekProofWrong)

/- THE SECOND FORM. 'bulk': how many values and letters a reading holds, each counted each time it is reached (what is shared counts as often as it is met; a slice's spare places count too). A statement '..UptoSaid' is the law's where the arguments, and the package variables that the reading takes, are together of bulk at most 1048576: NARROWER than '..Said'. Prove '..Said' where nothing that the law and all that it calls make is longer than what came in: it says more and counts as full. Else prove '..UptoSaid'. A law counts once. -/
mutual
def uptoBulk {H : Type} : DataW H → Nat
  | .lit (.string bytes) => bytes.length + 1
  | .lit _ => 1
  | .nil => 1
  | .ptr d => uptoBulk d + 1
  | .slice elems spare => uptoBulkAll elems + uptoBulkAll spare + 1
  | .agg parts => uptoBulkAll parts + 1
  | .iface _ d => uptoBulk d + 1
  | .map entries => uptoBulkEntries entries + 1
  | .held _ => 1
def uptoBulkAll {H : Type} : List (DataW H) → Nat
  | [] => 0
  | d :: r => uptoBulk d + uptoBulkAll r
def uptoBulkEntries {H : Type} : List (Lit × DataW H) → Nat
  | [] => 0
  | x :: r => uptoBulkEntry x + uptoBulkEntries r
def uptoBulkEntry {H : Type} : Lit × DataW H → Nat
  | (.string bytes, d) => bytes.length + uptoBulk d + 1
  | (_, d) => uptoBulk d + 1
 end
def uptoSmall : (H : Type) → List (DataW H) → Bool := fun _ ds => decide (uptoBulkAll ds ≤ 1048576)
def OpenSpec.upto (s : _root_.Go.ChangeSpec) : _root_.Go.OpenSpec := { _root_.Go.OpenSpec.ofChange s with cond := some uptoSmall }

/-- 'bijoulaw05.WeekMost', WHERE WHAT IT READS IS OF BULK AT MOST 1048576: true; the input reads as it did. -/
def weekMostUptoRow : OpenClaim := { program := "ytdiambcjghlffaa", sum := "5b682b3b27457799c190a1dbc79fc42e8df20ead55e772504196a13a26e5cebe", func := "bijou/bijoulaw05.WeekMost", spec := "weekMost", unfollowed := true, recurses := true, apart := false, narrowed := true }
def WeekMostUptoSaid : Prop := weekMostUptoRow.holds Try.pinned (OpenSpec.upto weekMostSpec)

/-- 'bijoulaw05.WeekNamed', WHERE WHAT IT READS IS OF BULK AT MOST 1048576: true; the input reads as it did. -/
def weekNamedUptoRow : OpenClaim := { program := "ytdiambcjghlffaa", sum := "5b682b3b27457799c190a1dbc79fc42e8df20ead55e772504196a13a26e5cebe", func := "bijou/bijoulaw05.WeekNamed", spec := "weekNamed", unfollowed := true, recurses := true, apart := false, narrowed := true }
def WeekNamedUptoSaid : Prop := weekNamedUptoRow.holds Try.pinned (OpenSpec.upto weekNamedSpec)

/-- 'bijoulaw05.WeekLess', WHERE WHAT IT READS IS OF BULK AT MOST 1048576: true; the input reads as it did. -/
def weekLessUptoRow : OpenClaim := { program := "ytdiambcjghlffaa", sum := "5b682b3b27457799c190a1dbc79fc42e8df20ead55e772504196a13a26e5cebe", func := "bijou/bijoulaw05.WeekLess", spec := "weekLess", unfollowed := true, recurses := true, apart := false, narrowed := true }
def WeekLessUptoSaid : Prop := weekLessUptoRow.holds Try.pinned (OpenSpec.upto weekLessSpec)

/-- 'bijoulaw05.WeekPrices', WHERE WHAT IT READS IS OF BULK AT MOST 1048576: true; the input reads as it did. -/
def weekPricesUptoRow : OpenClaim := { program := "ytdiambcjghlffaa", sum := "5b682b3b27457799c190a1dbc79fc42e8df20ead55e772504196a13a26e5cebe", func := "bijou/bijoulaw05.WeekPrices", spec := "weekPrices", unfollowed := true, recurses := true, apart := false, narrowed := true }
def WeekPricesUptoSaid : Prop := weekPricesUptoRow.holds Try.pinned (OpenSpec.upto weekPricesSpec)

/-- 'bijoulaw05.WeekBest', WHERE WHAT IT READS IS OF BULK AT MOST 1048576: true; the input reads as it did. -/
def weekBestUptoRow : OpenClaim := { program := "ytdiambcjghlffaa", sum := "5b682b3b27457799c190a1dbc79fc42e8df20ead55e772504196a13a26e5cebe", func := "bijou/bijoulaw05.WeekBest", spec := "weekBest", unfollowed := true, recurses := true, apart := false, narrowed := true }
def WeekBestUptoSaid : Prop := weekBestUptoRow.holds Try.pinned (OpenSpec.upto weekBestSpec)

/-- 'bijoulaw05.WeekBroken', WHERE WHAT IT READS IS OF BULK AT MOST 1048576: true; the input reads as it did. -/
def weekBrokenUptoRow : OpenClaim := { program := "ytdiambcjghlffaa", sum := "5b682b3b27457799c190a1dbc79fc42e8df20ead55e772504196a13a26e5cebe", func := "bijou/bijoulaw05.WeekBroken", spec := "weekBroken", unfollowed := true, recurses := true, apart := false, narrowed := true }
def WeekBrokenUptoSaid : Prop := weekBrokenUptoRow.holds Try.pinned (OpenSpec.upto weekBrokenSpec)

/-- 'bijoulaw05.WeekSwapped', WHERE WHAT IT READS IS OF BULK AT MOST 1048576: true; the input reads as it did. -/
def weekSwappedUptoRow : OpenClaim := { program := "ytdiambcjghlffaa", sum := "5b682b3b27457799c190a1dbc79fc42e8df20ead55e772504196a13a26e5cebe", func := "bijou/bijoulaw05.WeekSwapped", spec := "weekSwapped", unfollowed := true, recurses := true, apart := false, narrowed := true }
def WeekSwappedUptoSaid : Prop := weekSwappedUptoRow.holds Try.pinned (OpenSpec.upto weekSwappedSpec)

/-- 'bijoulaw05.WeekProof', WHERE WHAT IT READS IS OF BULK AT MOST 1048576: true; the input reads as it did. -/
def weekProofUptoRow : OpenClaim := { program := "ytdiambcjghlffaa", sum := "5b682b3b27457799c190a1dbc79fc42e8df20ead55e772504196a13a26e5cebe", func := "bijou/bijoulaw05.WeekProof", spec := "weekProof", unfollowed := true, recurses := true, apart := false, narrowed := true }
def WeekProofUptoSaid : Prop := weekProofUptoRow.holds Try.pinned (OpenSpec.upto weekProofSpec)

end Rows
end Go.Proofs.Ytdiambcjghlffaa
