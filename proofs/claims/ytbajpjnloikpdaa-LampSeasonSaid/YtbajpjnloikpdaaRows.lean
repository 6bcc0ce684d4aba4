/-
  No cell of these rows narrows 'for every input' (looked for: loops, veiled, ifaces, maps, wideKeys, modest, calm, conditions, laid).
  DERIVED. THE GIVEN ROWS OF THIS SEAT. 9 by the template 'for every input the law returns true; each argument reads behind the call as it read before'; 0 by the template 'total and deterministic' (their statements: YtbajpjnloikpdaaTotals.lean).
  GIVEN WITH THE SEED: the statements are not yours to turn. If you find one false, say at which input.
  Laid BY PROGRAM, IN A SANDBOX (cutbox-rows.mjs): the forced cells as the released guide's own fill.sh prints them over the translation 939a98b5a83b2ff0… (all of the seat's roots in one cut). By AI agents, Wed Nov 11 2026. No macro, syntax, notation, axiom, sorry.
-/
import Derived.Test.YtbajpjnloikpdaaChecked
import GoSem.Claim
import GoSem.ClaimJoined
import GoSem.ClaimMapViews
import Derived.JoinedTies
import Derived.KernelRfl
namespace Go.Proofs.Ytbajpjnloikpdaa
/- THE CELL 'sum', in the pinned program and in every row, IS THE sha256 OF THE DUMP (.gsa) THAT YtbajpjnloikpdaaProg.lean LOADS. Nothing in Lean hashes anything: it is a label: what it is worth is what the hold of that sum in a sandbox is worth. -/
noncomputable def Try.pinned : Pinned := { name := "ytbajpjnloikpdaa", sum := "939a98b5a83b2ff090e4c3f871f1e5bc36117a016d236e8b2ac3decc02c4d6c8", checked := Try.checked }
namespace Rows
def none {H : Type} : Left H := { results := [], args := [] }

/-- 'bijoulaw09.LampChanges': WHATEVER THE INPUT: true; the input reads as it did. -/
def lampChangesSpec : ChangeSpec := { name := "lampChanges", fn := fun _ => fun
  | [d1, d2, d3] => { results := [.lit (.bool true)], args := [d1, d2, d3] }
  | _ => none }
def lampChangesRow : OpenClaim := { program := "ytbajpjnloikpdaa", sum := "939a98b5a83b2ff090e4c3f871f1e5bc36117a016d236e8b2ac3decc02c4d6c8", func := "bijou/bijoulaw09.LampChanges", spec := "lampChanges", unfollowed := true, recurses := true, apart := false }
def LampChangesSaid : Prop := lampChangesRow.holds Try.pinned (OpenSpec.ofChange lampChangesSpec)

/-- ITS FALSE NEIGHBOUR: 'it returns false'. Refute it at one input. -/
def lampChangesWrong : ChangeSpec := { name := "lampChanges", fn := fun _ => fun
  | [d1, d2, d3] => { results := [.lit (.bool false)], args := [d1, d2, d3] }
  | _ => none }
def LampChangesWrongFalsely : Prop := lampChangesRow.holds Try.pinned (OpenSpec.ofChange lampChangesWrong)

/-- 'bijoulaw09.LampFades': WHATEVER THE INPUT: true; the input reads as it did. -/
def lampFadesSpec : ChangeSpec := { name := "lampFades", fn := fun _ => fun
  | [d1, d2, d3] => { results := [.lit (.bool true)], args := [d1, d2, d3] }
  | _ => none }
def lampFadesRow : OpenClaim := { program := "ytbajpjnloikpdaa", sum := "939a98b5a83b2ff090e4c3f871f1e5bc36117a016d236e8b2ac3decc02c4d6c8", func := "bijou/bijoulaw09.LampFades", spec := "lampFades", unfollowed := true, recurses := true, apart := false }
def LampFadesSaid : Prop := lampFadesRow.holds Try.pinned (OpenSpec.ofChange lampFadesSpec)

/-- ITS FALSE NEIGHBOUR: 'it returns false'. Refute it at one input. -/
def lampFadesWrong : ChangeSpec := { name := "lampFades", fn := fun _ => fun
  | [d1, d2, d3] => { results := [.lit (.bool false)], args := [d1, d2, d3] }
  | _ => none }
def LampFadesWrongFalsely : Prop := lampFadesRow.holds Try.pinned (OpenSpec.ofChange lampFadesWrong)

/-- 'bijoulaw09.LampSeason': WHATEVER THE INPUT: true; the input reads as it did. -/
def lampSeasonSpec : ChangeSpec := { name := "lampSeason", fn := fun _ => fun
  | [d1, d2] => { results := [.lit (.bool true)], args := [d1, d2] }
  | _ => none }
def lampSeasonRow : OpenClaim := { program := "ytbajpjnloikpdaa", sum := "939a98b5a83b2ff090e4c3f871f1e5bc36117a016d236e8b2ac3decc02c4d6c8", func := "bijou/bijoulaw09.LampSeason", spec := "lampSeason", unfollowed := true, recurses := true, apart := false }
def LampSeasonSaid : Prop := lampSeasonRow.holds Try.pinned (OpenSpec.ofChange lampSeasonSpec)

/-- ITS FALSE NEIGHBOUR: 'it returns false'. Refute it at one input. -/
def lampSeasonWrong : ChangeSpec := { name := "lampSeason", fn := fun _ => fun
  | [d1, d2] => { results := [.lit (.bool false)], args := [d1, d2] }
  | _ => none }
def LampSeasonWrongFalsely : Prop := lampSeasonRow.holds Try.pinned (OpenSpec.ofChange lampSeasonWrong)

/-- 'bijoulaw09.LampHours': WHATEVER THE INPUT: true; the input reads as it did. -/
def lampHoursSpec : ChangeSpec := { name := "lampHours", fn := fun _ => fun
  | [d1, d2] => { results := [.lit (.bool true)], args := [d1, d2] }
  | _ => none }
def lampHoursRow : OpenClaim := { program := "ytbajpjnloikpdaa", sum := "939a98b5a83b2ff090e4c3f871f1e5bc36117a016d236e8b2ac3decc02c4d6c8", func := "bijou/bijoulaw09.LampHours", spec := "lampHours", unfollowed := true, recurses := true, apart := false }
def LampHoursSaid : Prop := lampHoursRow.holds Try.pinned (OpenSpec.ofChange lampHoursSpec)

/-- ITS FALSE NEIGHBOUR: 'it returns false'. Refute it at one input. -/
def lampHoursWrong : ChangeSpec := { name := "lampHours", fn := fun _ => fun
  | [d1, d2] => { results := [.lit (.bool false)], args := [d1, d2] }
  | _ => none }
def LampHoursWrongFalsely : Prop := lampHoursRow.holds Try.pinned (OpenSpec.ofChange lampHoursWrong)

/-- 'bijoulaw09.LampTrue': WHATEVER THE INPUT: true; the input reads as it did. -/
def lampTrueSpec : ChangeSpec := { name := "lampTrue", fn := fun _ => fun
  | [d1, d2, d3] => { results := [.lit (.bool true)], args := [d1, d2, d3] }
  | _ => none }
def lampTrueRow : OpenClaim := { program := "ytbajpjnloikpdaa", sum := "939a98b5a83b2ff090e4c3f871f1e5bc36117a016d236e8b2ac3decc02c4d6c8", func := "bijou/bijoulaw09.LampTrue", spec := "lampTrue", unfollowed := true, recurses := true, apart := false }
def LampTrueSaid : Prop := lampTrueRow.holds Try.pinned (OpenSpec.ofChange lampTrueSpec)

/-- ITS FALSE NEIGHBOUR: 'it returns false'. Refute it at one input. -/
def lampTrueWrong : ChangeSpec := { name := "lampTrue", fn := fun _ => fun
  | [d1, d2, d3] => { results := [.lit (.bool false)], args := [d1, d2, d3] }
  | _ => none }
def LampTrueWrongFalsely : Prop := lampTrueRow.holds Try.pinned (OpenSpec.ofChange lampTrueWrong)

/-- 'bijoulaw09.LampLess': WHATEVER THE INPUT: true; the input reads as it did. -/
def lampLessSpec : ChangeSpec := { name := "lampLess", fn := fun _ => fun
  | [d1, d2, d3] => { results := [.lit (.bool true)], args := [d1, d2, d3] }
  | _ => none }
def lampLessRow : OpenClaim := { program := "ytbajpjnloikpdaa", sum := "939a98b5a83b2ff090e4c3f871f1e5bc36117a016d236e8b2ac3decc02c4d6c8", func := "bijou/bijoulaw09.LampLess", spec := "lampLess", unfollowed := true, recurses := true, apart := false }
def LampLessSaid : Prop := lampLessRow.holds Try.pinned (OpenSpec.ofChange lampLessSpec)

/-- ITS FALSE NEIGHBOUR: 'it returns false'. Refute it at one input. -/
def lampLessWrong : ChangeSpec := { name := "lampLess", fn := fun _ => fun
  | [d1, d2, d3] => { results := [.lit (.bool false)], args := [d1, d2, d3] }
  | _ => none }
def LampLessWrongFalsely : Prop := lampLessRow.holds Try.pinned (OpenSpec.ofChange lampLessWrong)

/-- 'bijoulaw09.LampBrighter': WHATEVER THE INPUT: true; the input reads as it did. -/
def lampBrighterSpec : ChangeSpec := { name := "lampBrighter", fn := fun _ => fun
  | [d1, d2, d3] => { results := [.lit (.bool true)], args := [d1, d2, d3] }
  | _ => none }
def lampBrighterRow : OpenClaim := { program := "ytbajpjnloikpdaa", sum := "939a98b5a83b2ff090e4c3f871f1e5bc36117a016d236e8b2ac3decc02c4d6c8", func := "bijou/bijoulaw09.LampBrighter", spec := "lampBrighter", unfollowed := true, recurses := true, apart := false }
def LampBrighterSaid : Prop := lampBrighterRow.holds Try.pinned (OpenSpec.ofChange lampBrighterSpec)

/-- ITS FALSE NEIGHBOUR: 'it returns false'. Refute it at one input. -/
def lampBrighterWrong : ChangeSpec := { name := "lampBrighter", fn := fun _ => fun
  | [d1, d2, d3] => { results := [.lit (.bool false)], args := [d1, d2, d3] }
  | _ => none }
def LampBrighterWrongFalsely : Prop := lampBrighterRow.holds Try.pinned (OpenSpec.ofChange lampBrighterWrong)

/-- 'bijoulaw09.LampMany': WHATEVER THE INPUT: true; the input reads as it did. -/
def lampManySpec : ChangeSpec := { name := "lampMany", fn := fun _ => fun
  | [d] => { results := [.lit (.bool true)], args := [d] }
  | _ => none }
def lampManyRow : OpenClaim := { program := "ytbajpjnloikpdaa", sum := "939a98b5a83b2ff090e4c3f871f1e5bc36117a016d236e8b2ac3decc02c4d6c8", func := "bijou/bijoulaw09.LampMany", spec := "lampMany", unfollowed := true, recurses := true, apart := false }
def LampManySaid : Prop := lampManyRow.holds Try.pinned (OpenSpec.ofChange lampManySpec)

/-- ITS FALSE NEIGHBOUR: 'it returns false'. Refute it at one input. -/
def lampManyWrong : ChangeSpec := { name := "lampMany", fn := fun _ => fun
  | [d] => { results := [.lit (.bool false)], args := [d] }
  | _ => none }
def LampManyWrongFalsely : Prop := lampManyRow.holds Try.pinned (OpenSpec.ofChange lampManyWrong)

/-- 'bijoulaw09.LampBlamed': WHATEVER THE INPUT: true; the input reads as it did. -/
def lampBlamedSpec : ChangeSpec := { name := "lampBlamed", fn := fun _ => fun
  | [d1, d2] => { results := [.lit (.bool true)], args := [d1, d2] }
  | _ => none }
def lampBlamedRow : OpenClaim := { program := "ytbajpjnloikpdaa", sum := "939a98b5a83b2ff090e4c3f871f1e5bc36117a016d236e8b2ac3decc02c4d6c8", func := "bijou/bijoulaw09.LampBlamed", spec := "lampBlamed", unfollowed := true, recurses := true, apart := false }
def LampBlamedSaid : Prop := lampBlamedRow.holds Try.pinned (OpenSpec.ofChange lampBlamedSpec)

/-- ITS FALSE NEIGHBOUR: 'it returns false'. Refute it at one input. -/
def lampBlamedWrong : ChangeSpec := { name := "lampBlamed", fn := fun _ => fun
  | [d1, d2] => { results := [.lit (.bool false)], args := [d1, d2] }
  | _ => none }
def LampBlamedWrongFalsely : Prop := lampBlamedRow.holds Try.pinned (OpenSpec.ofChange lampBlamedWrong)

/- THE SECOND FORM. 'bulk': how many values and letters a reading holds, each counted each time it is reached (what is shared counts as often as it is met; a slice's spare places count too). A statement '..UptoSaid' is the law's where the arguments, and the package variables that the reading takes, are together of bulk at most 1048576: NARROWER than '..Said'. Prove '..Said' where nothing that the law and all that it calls make is longer than what came in: it says more and counts as full. Else prove '..UptoSaid'. A law counts once. -/
mutual
def uptoBulk {H : Type} : DataW H → Nat
  | .lit (.string bytes) => bytes.length + 1
  | .lit _ => 1
  | .nil => 1
  | .ptr d => uptoBulk d + 1
  | .slice elems spare => uptoBulkAll elems + uptoBulkAll spare + 1
  | .agg parts => uptoBulkAll parts + 1
  | .iface _ d => uptoBulk d + 1
  | .map entries => uptoBulkEntries entries + 1
  | .held _ => 1
def uptoBulkAll {H : Type} : List (DataW H) → Nat
  | [] => 0
  | d :: r => uptoBulk d + uptoBulkAll r
def uptoBulkEntries {H : Type} : List (Lit × DataW H) → Nat
  | [] => 0
  | x :: r => uptoBulkEntry x + uptoBulkEntries r
def uptoBulkEntry {H : Type} : Lit × DataW H → Nat
  | (.string bytes, d) => bytes.length + uptoBulk d + 1
  | (_, d) => uptoBulk d + 1
 end
def uptoSmall : (H : Type) → List (DataW H) → Bool := fun _ ds => decide (uptoBulkAll ds ≤ 1048576)
def OpenSpec.upto (s : _root_.Go.ChangeSpec) : _root_.Go.OpenSpec := { _root_.Go.OpenSpec.ofChange s with cond := some uptoSmall }

/-- 'bijoulaw09.LampChanges', WHERE WHAT IT READS IS OF BULK AT MOST 1048576: true; the input reads as it did. -/
def lampChangesUptoRow : OpenClaim := { program := "ytbajpjnloikpdaa", sum := "939a98b5a83b2ff090e4c3f871f1e5bc36117a016d236e8b2ac3decc02c4d6c8", func := "bijou/bijoulaw09.LampChanges", spec := "lampChanges", unfollowed := true, recurses := true, apart := false, narrowed := true }
def LampChangesUptoSaid : Prop := lampChangesUptoRow.holds Try.pinned (OpenSpec.upto lampChangesSpec)

/-- 'bijoulaw09.LampFades', WHERE WHAT IT READS IS OF BULK AT MOST 1048576: true; the input reads as it did. -/
def lampFadesUptoRow : OpenClaim := { program := "ytbajpjnloikpdaa", sum := "939a98b5a83b2ff090e4c3f871f1e5bc36117a016d236e8b2ac3decc02c4d6c8", func := "bijou/bijoulaw09.LampFades", spec := "lampFades", unfollowed := true, recurses := true, apart := false, narrowed := true }
def LampFadesUptoSaid : Prop := lampFadesUptoRow.holds Try.pinned (OpenSpec.upto lampFadesSpec)

/-- 'bijoulaw09.LampSeason', WHERE WHAT IT READS IS OF BULK AT MOST 1048576: true; the input reads as it did. -/
def lampSeasonUptoRow : OpenClaim := { program := "ytbajpjnloikpdaa", sum := "939a98b5a83b2ff090e4c3f871f1e5bc36117a016d236e8b2ac3decc02c4d6c8", func := "bijou/bijoulaw09.LampSeason", spec := "lampSeason", unfollowed := true, recurses := true, apart := false, narrowed := true }
def LampSeasonUptoSaid : Prop := lampSeasonUptoRow.holds Try.pinned (OpenSpec.upto lampSeasonSpec)

/-- 'bijoulaw09.LampHours', WHERE WHAT IT READS IS OF BULK AT MOST 1048576: true; the input reads as it did. -/
def lampHoursUptoRow : OpenClaim := { program := "ytbajpjnloikpdaa", sum := "939a98b5a83b2ff090e4c3f871f1e5bc36117a016d236e8b2ac3decc02c4d6c8", func := "bijou/bijoulaw09.LampHours", spec := "lampHours", unfollowed := true, recurses := true, apart := false, narrowed := true }
def LampHoursUptoSaid : Prop := lampHoursUptoRow.holds Try.pinned (OpenSpec.upto lampHoursSpec)

/-- 'bijoulaw09.LampTrue', WHERE WHAT IT READS IS OF BULK AT MOST 1048576: true; the input reads as it did. -/
def lampTrueUptoRow : OpenClaim := { program := "ytbajpjnloikpdaa", sum := "939a98b5a83b2ff090e4c3f871f1e5bc36117a016d236e8b2ac3decc02c4d6c8", func := "bijou/bijoulaw09.LampTrue", spec := "lampTrue", unfollowed := true, recurses := true, apart := false, narrowed := true }
def LampTrueUptoSaid : Prop := lampTrueUptoRow.holds Try.pinned (OpenSpec.upto lampTrueSpec)

/-- 'bijoulaw09.LampLess', WHERE WHAT IT READS IS OF BULK AT MOST 1048576: true; the input reads as it did. -/
def lampLessUptoRow : OpenClaim := { program := "ytbajpjnloikpdaa", sum := "939a98b5a83b2ff090e4c3f871f1e5bc36117a016d236e8b2ac3decc02c4d6c8", func := "bijou/bijoulaw09.LampLess", spec := "lampLess", unfollowed := true, recurses := true, apart := false, narrowed := true }
def LampLessUptoSaid : Prop := lampLessUptoRow.holds Try.pinned (OpenSpec.upto lampLessSpec)

/-- 'bijoulaw09.LampBrighter', WHERE WHAT IT READS IS OF BULK AT MOST 1048576: true; the input reads as it did. -/
def lampBrighterUptoRow : OpenClaim := { program := "ytbajpjnloikpdaa", sum := "939a98b5a83b2ff090e4c3f871f1e5bc36117a016d236e8b2ac3decc02c4d6c8", func := "bijou/bijoulaw09.LampBrighter", spec := "lampBrighter", unfollowed := true, recurses := true, apart := false, narrowed := true }
def LampBrighterUptoSaid : Prop := lampBrighterUptoRow.holds Try.pinned (OpenSpec.upto lampBrighterSpec)

/-- 'bijoulaw09.LampMany', WHERE WHAT IT READS IS OF BULK AT MOST 1048576: true; the input reads as it did. -/
def lampManyUptoRow : OpenClaim := { program := "ytbajpjnloikpdaa", sum := "939a98b5a83b2ff090e4c3f871f1e5bc36117a016d236e8b2ac3decc02c4d6c8", func := "bijou/bijoulaw09.LampMany", spec := "lampMany", unfollowed := true, recurses := true, apart := false, narrowed := true }
def LampManyUptoSaid : Prop := lampManyUptoRow.holds Try.pinned (OpenSpec.upto lampManySpec)

/-- 'bijoulaw09.LampBlamed', WHERE WHAT IT READS IS OF BULK AT MOST 1048576: true; the input reads as it did. -/
def lampBlamedUptoRow : OpenClaim := { program := "ytbajpjnloikpdaa", sum := "939a98b5a83b2ff090e4c3f871f1e5bc36117a016d236e8b2ac3decc02c4d6c8", func := "bijou/bijoulaw09.LampBlamed", spec := "lampBlamed", unfollowed := true, recurses := true, apart := false, narrowed := true }
def LampBlamedUptoSaid : Prop := lampBlamedUptoRow.holds Try.pinned (OpenSpec.upto lampBlamedSpec)

end Rows
end Go.Proofs.Ytbajpjnloikpdaa
