/-
  No cell of these rows narrows 'for every input' (looked for: loops, veiled, ifaces, maps, wideKeys, modest, calm, conditions, laid).
  DERIVED. THE GIVEN ROWS OF THIS SEAT. 10 by the template 'for every input the law returns true; each argument reads behind the call as it read before'; 0 by the template 'total and deterministic' (their statements: YthdbkhdiaehblaaTotals.lean).
  GIVEN WITH THE SEED: the statements are not yours to turn. If you find one false, say at which input.
  Laid BY PROGRAM, IN A SANDBOX (cutbox-rows.mjs): the forced cells as the released guide's own fill.sh prints them over the translation a6935ab748365a7d… (all of the seat's roots in one cut). By AI agents, Wed Nov 11 2026. No macro, syntax, notation, axiom, sorry.
-/
import Derived.Test.YthdbkhdiaehblaaChecked
import GoSem.Claim
import GoSem.ClaimJoined
import GoSem.ClaimMapViews
import Derived.JoinedTies
import Derived.KernelRfl
namespace Go.Proofs.Ythdbkhdiaehblaa
/- THE CELL 'sum', in the pinned program and in every row, IS THE sha256 OF THE DUMP (.gsa) THAT YthdbkhdiaehblaaProg.lean LOADS. Nothing in Lean hashes anything: it is a label: what it is worth is what the hold of that sum in a sandbox is worth. -/
noncomputable def Try.pinned : Pinned := { name := "ythdbkhdiaehblaa", sum := "a6935ab748365a7d0775bb83d2da6d2035e43de68ccd92302f6929516510bfbf", checked := Try.checked }
namespace Rows
def none {H : Type} : Left H := { results := [], args := [] }

/-- 'bijoulaw06.TurnOne': WHATEVER THE INPUT: true; the input reads as it did. -/
def turnOneSpec : ChangeSpec := { name := "turnOne", fn := fun _ => fun
  | [d1, d2] => { results := [.lit (.bool true)], args := [d1, d2] }
  | _ => none }
def turnOneRow : OpenClaim := { program := "ythdbkhdiaehblaa", sum := "a6935ab748365a7d0775bb83d2da6d2035e43de68ccd92302f6929516510bfbf", func := "bijou/bijoulaw06.TurnOne", spec := "turnOne", unfollowed := true, recurses := true, apart := false }
def TurnOneSaid : Prop := turnOneRow.holds Try.pinned (OpenSpec.ofChange turnOneSpec)

/-- ITS FALSE NEIGHBOUR: 'it returns false'. Refute it at one input. -/
def turnOneWrong : ChangeSpec := { name := "turnOne", fn := fun _ => fun
  | [d1, d2] => { results := [.lit (.bool false)], args := [d1, d2] }
  | _ => none }
def TurnOneWrongFalsely : Prop := turnOneRow.holds Try.pinned (OpenSpec.ofChange turnOneWrong)

/-- 'bijoulaw06.TurnLast': WHATEVER THE INPUT: true; the input reads as it did. -/
def turnLastSpec : ChangeSpec := { name := "turnLast", fn := fun _ => fun
  | [d1, d2, d3] => { results := [.lit (.bool true)], args := [d1, d2, d3] }
  | _ => none }
def turnLastRow : OpenClaim := { program := "ythdbkhdiaehblaa", sum := "a6935ab748365a7d0775bb83d2da6d2035e43de68ccd92302f6929516510bfbf", func := "bijou/bijoulaw06.TurnLast", spec := "turnLast", unfollowed := true, recurses := true, apart := false }
def TurnLastSaid : Prop := turnLastRow.holds Try.pinned (OpenSpec.ofChange turnLastSpec)

/-- ITS FALSE NEIGHBOUR: 'it returns false'. Refute it at one input. -/
def turnLastWrong : ChangeSpec := { name := "turnLast", fn := fun _ => fun
  | [d1, d2, d3] => { results := [.lit (.bool false)], args := [d1, d2, d3] }
  | _ => none }
def TurnLastWrongFalsely : Prop := turnLastRow.holds Try.pinned (OpenSpec.ofChange turnLastWrong)

/-- 'bijoulaw06.TurnNext': WHATEVER THE INPUT: true; the input reads as it did. -/
def turnNextSpec : ChangeSpec := { name := "turnNext", fn := fun _ => fun
  | [d1, d2, d3] => { results := [.lit (.bool true)], args := [d1, d2, d3] }
  | _ => none }
def turnNextRow : OpenClaim := { program := "ythdbkhdiaehblaa", sum := "a6935ab748365a7d0775bb83d2da6d2035e43de68ccd92302f6929516510bfbf", func := "bijou/bijoulaw06.TurnNext", spec := "turnNext", unfollowed := true, recurses := true, apart := false }
def TurnNextSaid : Prop := turnNextRow.holds Try.pinned (OpenSpec.ofChange turnNextSpec)

/-- ITS FALSE NEIGHBOUR: 'it returns false'. Refute it at one input. -/
def turnNextWrong : ChangeSpec := { name := "turnNext", fn := fun _ => fun
  | [d1, d2, d3] => { results := [.lit (.bool false)], args := [d1, d2, d3] }
  | _ => none }
def TurnNextWrongFalsely : Prop := turnNextRow.holds Try.pinned (OpenSpec.ofChange turnNextWrong)

/-- 'bijoulaw06.TurnReal': WHATEVER THE INPUT: true; the input reads as it did. -/
def turnRealSpec : ChangeSpec := { name := "turnReal", fn := fun _ => fun
  | [d1, d2, d3] => { results := [.lit (.bool true)], args := [d1, d2, d3] }
  | _ => none }
def turnRealRow : OpenClaim := { program := "ythdbkhdiaehblaa", sum := "a6935ab748365a7d0775bb83d2da6d2035e43de68ccd92302f6929516510bfbf", func := "bijou/bijoulaw06.TurnReal", spec := "turnReal", unfollowed := true, recurses := true, apart := false }
def TurnRealSaid : Prop := turnRealRow.holds Try.pinned (OpenSpec.ofChange turnRealSpec)

/-- ITS FALSE NEIGHBOUR: 'it returns false'. Refute it at one input. -/
def turnRealWrong : ChangeSpec := { name := "turnReal", fn := fun _ => fun
  | [d1, d2, d3] => { results := [.lit (.bool false)], args := [d1, d2, d3] }
  | _ => none }
def TurnRealWrongFalsely : Prop := turnRealRow.holds Try.pinned (OpenSpec.ofChange turnRealWrong)

/-- 'bijoulaw06.TurnEasier': WHATEVER THE INPUT: true; the input reads as it did. -/
def turnEasierSpec : ChangeSpec := { name := "turnEasier", fn := fun _ => fun
  | [d1, d2, d3] => { results := [.lit (.bool true)], args := [d1, d2, d3] }
  | _ => none }
def turnEasierRow : OpenClaim := { program := "ythdbkhdiaehblaa", sum := "a6935ab748365a7d0775bb83d2da6d2035e43de68ccd92302f6929516510bfbf", func := "bijou/bijoulaw06.TurnEasier", spec := "turnEasier", unfollowed := true, recurses := true, apart := false }
def TurnEasierSaid : Prop := turnEasierRow.holds Try.pinned (OpenSpec.ofChange turnEasierSpec)

/-- ITS FALSE NEIGHBOUR: 'it returns false'. Refute it at one input. -/
def turnEasierWrong : ChangeSpec := { name := "turnEasier", fn := fun _ => fun
  | [d1, d2, d3] => { results := [.lit (.bool false)], args := [d1, d2, d3] }
  | _ => none }
def TurnEasierWrongFalsely : Prop := turnEasierRow.holds Try.pinned (OpenSpec.ofChange turnEasierWrong)

/-- 'bijoulaw06.TurnFoyer': WHATEVER THE INPUT: true; the input reads as it did. -/
def turnFoyerSpec : ChangeSpec := { name := "turnFoyer", fn := fun _ => fun
  | [d1, d2, d3] => { results := [.lit (.bool true)], args := [d1, d2, d3] }
  | _ => none }
def turnFoyerRow : OpenClaim := { program := "ythdbkhdiaehblaa", sum := "a6935ab748365a7d0775bb83d2da6d2035e43de68ccd92302f6929516510bfbf", func := "bijou/bijoulaw06.TurnFoyer", spec := "turnFoyer", unfollowed := true, recurses := true, apart := false }
def TurnFoyerSaid : Prop := turnFoyerRow.holds Try.pinned (OpenSpec.ofChange turnFoyerSpec)

/-- ITS FALSE NEIGHBOUR: 'it returns false'. Refute it at one input. -/
def turnFoyerWrong : ChangeSpec := { name := "turnFoyer", fn := fun _ => fun
  | [d1, d2, d3] => { results := [.lit (.bool false)], args := [d1, d2, d3] }
  | _ => none }
def TurnFoyerWrongFalsely : Prop := turnFoyerRow.holds Try.pinned (OpenSpec.ofChange turnFoyerWrong)

/-- 'bijoulaw06.TurnTimes': WHATEVER THE INPUT: true; the input reads as it did. -/
def turnTimesSpec : ChangeSpec := { name := "turnTimes", fn := fun _ => fun
  | [d1, d2] => { results := [.lit (.bool true)], args := [d1, d2] }
  | _ => none }
def turnTimesRow : OpenClaim := { program := "ythdbkhdiaehblaa", sum := "a6935ab748365a7d0775bb83d2da6d2035e43de68ccd92302f6929516510bfbf", func := "bijou/bijoulaw06.TurnTimes", spec := "turnTimes", unfollowed := true, recurses := true, apart := false }
def TurnTimesSaid : Prop := turnTimesRow.holds Try.pinned (OpenSpec.ofChange turnTimesSpec)

/-- ITS FALSE NEIGHBOUR: 'it returns false'. Refute it at one input. -/
def turnTimesWrong : ChangeSpec := { name := "turnTimes", fn := fun _ => fun
  | [d1, d2] => { results := [.lit (.bool false)], args := [d1, d2] }
  | _ => none }
def TurnTimesWrongFalsely : Prop := turnTimesRow.holds Try.pinned (OpenSpec.ofChange turnTimesWrong)

/-- 'bijoulaw06.TurnWaits': WHATEVER THE INPUT: true; the input reads as it did. -/
def turnWaitsSpec : ChangeSpec := { name := "turnWaits", fn := fun _ => fun
  | [d1, d2, d3] => { results := [.lit (.bool true)], args := [d1, d2, d3] }
  | _ => none }
def turnWaitsRow : OpenClaim := { program := "ythdbkhdiaehblaa", sum := "a6935ab748365a7d0775bb83d2da6d2035e43de68ccd92302f6929516510bfbf", func := "bijou/bijoulaw06.TurnWaits", spec := "turnWaits", unfollowed := true, recurses := true, apart := false }
def TurnWaitsSaid : Prop := turnWaitsRow.holds Try.pinned (OpenSpec.ofChange turnWaitsSpec)

/-- ITS FALSE NEIGHBOUR: 'it returns false'. Refute it at one input. -/
def turnWaitsWrong : ChangeSpec := { name := "turnWaits", fn := fun _ => fun
  | [d1, d2, d3] => { results := [.lit (.bool false)], args := [d1, d2, d3] }
  | _ => none }
def TurnWaitsWrongFalsely : Prop := turnWaitsRow.holds Try.pinned (OpenSpec.ofChange turnWaitsWrong)

/-- 'bijoulaw06.TurnTeams': WHATEVER THE INPUT: true; the input reads as it did. -/
def turnTeamsSpec : ChangeSpec := { name := "turnTeams", fn := fun _ => fun
  | [d1, d2] => { results := [.lit (.bool true)], args := [d1, d2] }
  | _ => none }
def turnTeamsRow : OpenClaim := { program := "ythdbkhdiaehblaa", sum := "a6935ab748365a7d0775bb83d2da6d2035e43de68ccd92302f6929516510bfbf", func := "bijou/bijoulaw06.TurnTeams", spec := "turnTeams", unfollowed := true, recurses := true, apart := false }
def TurnTeamsSaid : Prop := turnTeamsRow.holds Try.pinned (OpenSpec.ofChange turnTeamsSpec)

/-- ITS FALSE NEIGHBOUR: 'it returns false'. Refute it at one input. -/
def turnTeamsWrong : ChangeSpec := { name := "turnTeams", fn := fun _ => fun
  | [d1, d2] => { results := [.lit (.bool false)], args := [d1, d2] }
  | _ => none }
def TurnTeamsWrongFalsely : Prop := turnTeamsRow.holds Try.pinned (OpenSpec.ofChange turnTeamsWrong)

/-- 'bijoulaw06.TurnFewest': WHATEVER THE INPUT: true; the input reads as it did. -/
def turnFewestSpec : ChangeSpec := { name := "turnFewest", fn := fun _ => fun
  | [d1, d2, d3] => { results := [.lit (.bool true)], args := [d1, d2, d3] }
  | _ => none }
def turnFewestRow : OpenClaim := { program := "ythdbkhdiaehblaa", sum := "a6935ab748365a7d0775bb83d2da6d2035e43de68ccd92302f6929516510bfbf", func := "bijou/bijoulaw06.TurnFewest", spec := "turnFewest", unfollowed := true, recurses := true, apart := false }
def TurnFewestSaid : Prop := turnFewestRow.holds Try.pinned (OpenSpec.ofChange turnFewestSpec)

/-- ITS FALSE NEIGHBOUR: 'it returns false'. Refute it at one input. -/
def turnFewestWrong : ChangeSpec := { name := "turnFewest", fn := fun _ => fun
  | [d1, d2, d3] => { results := [.lit (.bool false)], args := [d1, d2, d3] }
  | _ => none }
def TurnFewestWrongFalsely : Prop := turnFewestRow.holds Try.pinned (OpenSpec.ofChange turnFewestWrong)

/- THE SECOND FORM. 'bulk': how many values and letters a reading holds, each counted each time it is reached (what is shared counts as often as it is met; a slice's spare places count too). A statement '..UptoSaid' is the law's where the arguments, and the package variables that the reading takes, are together of bulk at most 1048576: NARROWER than '..Said'. Prove '..Said' where nothing that the law and all that it calls make is longer than what came in: it says more and counts as full. Else prove '..UptoSaid'. A law counts once. -/
mutual
def uptoBulk {H : Type} : DataW H → Nat
  | .lit (.string bytes) => bytes.length + 1
  | .lit _ => 1
  | .nil => 1
  | .ptr d => uptoBulk d + 1
  | .slice elems spare => uptoBulkAll elems + uptoBulkAll spare + 1
  | .agg parts => uptoBulkAll parts + 1
  | .iface _ d => uptoBulk d + 1
  | .map entries => uptoBulkEntries entries + 1
  | .held _ => 1
def uptoBulkAll {H : Type} : List (DataW H) → Nat
  | [] => 0
  | d :: r => uptoBulk d + uptoBulkAll r
def uptoBulkEntries {H : Type} : List (Lit × DataW H) → Nat
  | [] => 0
  | x :: r => uptoBulkEntry x + uptoBulkEntries r
def uptoBulkEntry {H : Type} : Lit × DataW H → Nat
  | (.string bytes, d) => bytes.length + uptoBulk d + 1
  | (_, d) => uptoBulk d + 1
 end
def uptoSmall : (H : Type) → List (DataW H) → Bool := fun _ ds => decide (uptoBulkAll ds ≤ 1048576)
def OpenSpec.upto (s : _root_.Go.ChangeSpec) : _root_.Go.OpenSpec := { _root_.Go.OpenSpec.ofChange s with cond := some uptoSmall }

/-- 'bijoulaw06.TurnOne', WHERE WHAT IT READS IS OF BULK AT MOST 1048576: true; the input reads as it did. -/
def turnOneUptoRow : OpenClaim := { program := "ythdbkhdiaehblaa", sum := "a6935ab748365a7d0775bb83d2da6d2035e43de68ccd92302f6929516510bfbf", func := "bijou/bijoulaw06.TurnOne", spec := "turnOne", unfollowed := true, recurses := true, apart := false, narrowed := true }
def TurnOneUptoSaid : Prop := turnOneUptoRow.holds Try.pinned (OpenSpec.upto turnOneSpec)

/-- 'bijoulaw06.TurnLast', WHERE WHAT IT READS IS OF BULK AT MOST 1048576: true; the input reads as it did. -/
def turnLastUptoRow : OpenClaim := { program := "ythdbkhdiaehblaa", sum := "a6935ab748365a7d0775bb83d2da6d2035e43de68ccd92302f6929516510bfbf", func := "bijou/bijoulaw06.TurnLast", spec := "turnLast", unfollowed := true, recurses := true, apart := false, narrowed := true }
def TurnLastUptoSaid : Prop := turnLastUptoRow.holds Try.pinned (OpenSpec.upto turnLastSpec)

/-- 'bijoulaw06.TurnNext', WHERE WHAT IT READS IS OF BULK AT MOST 1048576: true; the input reads as it did. -/
def turnNextUptoRow : OpenClaim := { program := "ythdbkhdiaehblaa", sum := "a6935ab748365a7d0775bb83d2da6d2035e43de68ccd92302f6929516510bfbf", func := "bijou/bijoulaw06.TurnNext", spec := "turnNext", unfollowed := true, recurses := true, apart := false, narrowed := true }
def TurnNextUptoSaid : Prop := turnNextUptoRow.holds Try.pinned (OpenSpec.upto turnNextSpec)

/-- 'bijoulaw06.TurnReal', WHERE WHAT IT READS IS OF BULK AT MOST 1048576: true; the input reads as it did. -/
def turnRealUptoRow : OpenClaim := { program := "ythdbkhdiaehblaa", sum := "a6935ab748365a7d0775bb83d2da6d2035e43de68ccd92302f6929516510bfbf", func := "bijou/bijoulaw06.TurnReal", spec := "turnReal", unfollowed := true, recurses := true, apart := false, narrowed := true }
def TurnRealUptoSaid : Prop := turnRealUptoRow.holds Try.pinned (OpenSpec.upto turnRealSpec)

/-- 'bijoulaw06.TurnEasier', WHERE WHAT IT READS IS OF BULK AT MOST 1048576: true; the input reads as it did. -/
def turnEasierUptoRow : OpenClaim := { program := "ythdbkhdiaehblaa", sum := "a6935ab748365a7d0775bb83d2da6d2035e43de68ccd92302f6929516510bfbf", func := "bijou/bijoulaw06.TurnEasier", spec := "turnEasier", unfollowed := true, recurses := true, apart := false, narrowed := true }
def TurnEasierUptoSaid : Prop := turnEasierUptoRow.holds Try.pinned (OpenSpec.upto turnEasierSpec)

/-- 'bijoulaw06.TurnFoyer', WHERE WHAT IT READS IS OF BULK AT MOST 1048576: true; the input reads as it did. -/
def turnFoyerUptoRow : OpenClaim := { program := "ythdbkhdiaehblaa", sum := "a6935ab748365a7d0775bb83d2da6d2035e43de68ccd92302f6929516510bfbf", func := "bijou/bijoulaw06.TurnFoyer", spec := "turnFoyer", unfollowed := true, recurses := true, apart := false, narrowed := true }
def TurnFoyerUptoSaid : Prop := turnFoyerUptoRow.holds Try.pinned (OpenSpec.upto turnFoyerSpec)

/-- 'bijoulaw06.TurnTimes', WHERE WHAT IT READS IS OF BULK AT MOST 1048576: true; the input reads as it did. -/
def turnTimesUptoRow : OpenClaim := { program := "ythdbkhdiaehblaa", sum := "a6935ab748365a7d0775bb83d2da6d2035e43de68ccd92302f6929516510bfbf", func := "bijou/bijoulaw06.TurnTimes", spec := "turnTimes", unfollowed := true, recurses := true, apart := false, narrowed := true }
def TurnTimesUptoSaid : Prop := turnTimesUptoRow.holds Try.pinned (OpenSpec.upto turnTimesSpec)

/-- 'bijoulaw06.TurnWaits', WHERE WHAT IT READS IS OF BULK AT MOST 1048576: true; the input reads as it did. -/
def turnWaitsUptoRow : OpenClaim := { program := "ythdbkhdiaehblaa", sum := "a6935ab748365a7d0775bb83d2da6d2035e43de68ccd92302f6929516510bfbf", func := "bijou/bijoulaw06.TurnWaits", spec := "turnWaits", unfollowed := true, recurses := true, apart := false, narrowed := true }
def TurnWaitsUptoSaid : Prop := turnWaitsUptoRow.holds Try.pinned (OpenSpec.upto turnWaitsSpec)

/-- 'bijoulaw06.TurnTeams', WHERE WHAT IT READS IS OF BULK AT MOST 1048576: true; the input reads as it did. -/
def turnTeamsUptoRow : OpenClaim := { program := "ythdbkhdiaehblaa", sum := "a6935ab748365a7d0775bb83d2da6d2035e43de68ccd92302f6929516510bfbf", func := "bijou/bijoulaw06.TurnTeams", spec := "turnTeams", unfollowed := true, recurses := true, apart := false, narrowed := true }
def TurnTeamsUptoSaid : Prop := turnTeamsUptoRow.holds Try.pinned (OpenSpec.upto turnTeamsSpec)

/-- 'bijoulaw06.TurnFewest', WHERE WHAT IT READS IS OF BULK AT MOST 1048576: true; the input reads as it did. -/
def turnFewestUptoRow : OpenClaim := { program := "ythdbkhdiaehblaa", sum := "a6935ab748365a7d0775bb83d2da6d2035e43de68ccd92302f6929516510bfbf", func := "bijou/bijoulaw06.TurnFewest", spec := "turnFewest", unfollowed := true, recurses := true, apart := false, narrowed := true }
def TurnFewestUptoSaid : Prop := turnFewestUptoRow.holds Try.pinned (OpenSpec.upto turnFewestSpec)

end Rows
end Go.Proofs.Ythdbkhdiaehblaa
