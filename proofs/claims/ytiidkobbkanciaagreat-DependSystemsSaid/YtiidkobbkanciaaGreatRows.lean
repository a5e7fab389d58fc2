/-
  No cell of these rows narrows 'for every input' (looked for: loops, veiled, ifaces, maps, wideKeys, modest, calm, conditions, laid).
  DERIVED. THE GIVEN ROWS OF THIS SEAT. 8 by the template 'for every input the law returns true; each argument reads behind the call as it read before'; 0 by the template 'total and deterministic' (their statements: YtiidkobbkanciaaGreatTotals.lean).
  GIVEN WITH THE SEED: the statements are not yours to turn. If you find one false, say at which input.
  Laid BY PROGRAM, IN A SANDBOX (cutbox-rows.mjs): the forced cells as the released guide's own fill.sh prints them over the translation c59dc5b6e9561244… (all of the seat's roots in one cut). By AI agents, Wed Nov 11 2026. No macro, syntax, notation, axiom, sorry.
-/
import Derived.Test.YtiidkobbkanciaaGreatChecked
import GoSem.Claim
import GoSem.ClaimJoined
import GoSem.ClaimMapViews
import Derived.JoinedTies
import Derived.KernelRfl
namespace Go.Proofs.YtiidkobbkanciaaGreat
/- THE CELL 'sum', in the pinned program and in every row, IS THE sha256 OF THE DUMP (.gsa) THAT YtiidkobbkanciaaGreatProg.lean LOADS. Nothing in Lean hashes anything: it is a label: what it is worth is what the hold of that sum in a sandbox is worth. -/
noncomputable def Tryz.pinned : Pinned := { name := "ytiidkobbkanciaagreat", sum := "c59dc5b6e9561244a5797fd1ddfa3c86f00d2cbd1176bbcb6df14c372ddc1163", checked := Tryz.checked }
namespace Rows
def none {H : Type} : Left H := { results := [], args := [] }

/-- 'formularylaw27.DependFinds': WHATEVER THE INPUT: true; the input reads as it did. -/
def dependFindsSpec : ChangeSpec := { name := "dependFinds", fn := fun _ => fun
  | [d1, d2, d3] => { results := [.lit (.bool true)], args := [d1, d2, d3] }
  | _ => none }
def dependFindsRow : OpenClaim := { program := "ytiidkobbkanciaagreat", sum := "c59dc5b6e9561244a5797fd1ddfa3c86f00d2cbd1176bbcb6df14c372ddc1163", func := "formulary/formularylaw27.DependFinds", spec := "dependFinds", inPlace := ["slices.overlaps[formulary/api.Dependence]", "slices.overlaps[[]int]"], unfollowed := true, recurses := true, apart := false }
def DependFindsSaid : Prop := dependFindsRow.holds Tryz.pinned (OpenSpec.ofChange dependFindsSpec)

/-- ITS FALSE NEIGHBOUR: 'it returns false'. Refute it at one input. -/
def dependFindsWrong : ChangeSpec := { name := "dependFinds", fn := fun _ => fun
  | [d1, d2, d3] => { results := [.lit (.bool false)], args := [d1, d2, d3] }
  | _ => none }
def DependFindsWrongFalsely : Prop := dependFindsRow.holds Tryz.pinned (OpenSpec.ofChange dependFindsWrong)

/-- 'formularylaw27.DependSolves': WHATEVER THE INPUT: true; the input reads as it did. -/
def dependSolvesSpec : ChangeSpec := { name := "dependSolves", fn := fun _ => fun
  | [d] => { results := [.lit (.bool true)], args := [d] }
  | _ => none }
def dependSolvesRow : OpenClaim := { program := "ytiidkobbkanciaagreat", sum := "c59dc5b6e9561244a5797fd1ddfa3c86f00d2cbd1176bbcb6df14c372ddc1163", func := "formulary/formularylaw27.DependSolves", spec := "dependSolves", inPlace := ["slices.overlaps[formulary/api.Dependence]", "slices.overlaps[[]int]"], unfollowed := true, recurses := true, apart := false }
def DependSolvesSaid : Prop := dependSolvesRow.holds Tryz.pinned (OpenSpec.ofChange dependSolvesSpec)

/-- ITS FALSE NEIGHBOUR: 'it returns false'. Refute it at one input. -/
def dependSolvesWrong : ChangeSpec := { name := "dependSolves", fn := fun _ => fun
  | [d] => { results := [.lit (.bool false)], args := [d] }
  | _ => none }
def DependSolvesWrongFalsely : Prop := dependSolvesRow.holds Tryz.pinned (OpenSpec.ofChange dependSolvesWrong)

/-- 'formularylaw27.DependNests': WHATEVER THE INPUT: true; the input reads as it did. -/
def dependNestsSpec : ChangeSpec := { name := "dependNests", fn := fun _ => fun
  | [d] => { results := [.lit (.bool true)], args := [d] }
  | _ => none }
def dependNestsRow : OpenClaim := { program := "ytiidkobbkanciaagreat", sum := "c59dc5b6e9561244a5797fd1ddfa3c86f00d2cbd1176bbcb6df14c372ddc1163", func := "formulary/formularylaw27.DependNests", spec := "dependNests", inPlace := ["slices.overlaps[formulary/api.Dependence]", "slices.overlaps[[]int]"], unfollowed := true, recurses := true, apart := false }
def DependNestsSaid : Prop := dependNestsRow.holds Tryz.pinned (OpenSpec.ofChange dependNestsSpec)

/-- ITS FALSE NEIGHBOUR: 'it returns false'. Refute it at one input. -/
def dependNestsWrong : ChangeSpec := { name := "dependNests", fn := fun _ => fun
  | [d] => { results := [.lit (.bool false)], args := [d] }
  | _ => none }
def DependNestsWrongFalsely : Prop := dependNestsRow.holds Tryz.pinned (OpenSpec.ofChange dependNestsWrong)

/-- 'formularylaw27.DependProofs': WHATEVER THE INPUT: true; the input reads as it did. -/
def dependProofsSpec : ChangeSpec := { name := "dependProofs", fn := fun _ => fun
  | [d1, d2, d3] => { results := [.lit (.bool true)], args := [d1, d2, d3] }
  | _ => none }
def dependProofsRow : OpenClaim := { program := "ytiidkobbkanciaagreat", sum := "c59dc5b6e9561244a5797fd1ddfa3c86f00d2cbd1176bbcb6df14c372ddc1163", func := "formulary/formularylaw27.DependProofs", spec := "dependProofs", inPlace := ["slices.overlaps[formulary/api.Dependence]", "slices.overlaps[[]int]"], unfollowed := true, recurses := true, apart := false }
def DependProofsSaid : Prop := dependProofsRow.holds Tryz.pinned (OpenSpec.ofChange dependProofsSpec)

/-- ITS FALSE NEIGHBOUR: 'it returns false'. Refute it at one input. -/
def dependProofsWrong : ChangeSpec := { name := "dependProofs", fn := fun _ => fun
  | [d1, d2, d3] => { results := [.lit (.bool false)], args := [d1, d2, d3] }
  | _ => none }
def DependProofsWrongFalsely : Prop := dependProofsRow.holds Tryz.pinned (OpenSpec.ofChange dependProofsWrong)

/-- 'formularylaw27.DependBodies': WHATEVER THE INPUT: true; the input reads as it did. -/
def dependBodiesSpec : ChangeSpec := { name := "dependBodies", fn := fun _ => fun
  | [d1, d2, d3] => { results := [.lit (.bool true)], args := [d1, d2, d3] }
  | _ => none }
def dependBodiesRow : OpenClaim := { program := "ytiidkobbkanciaagreat", sum := "c59dc5b6e9561244a5797fd1ddfa3c86f00d2cbd1176bbcb6df14c372ddc1163", func := "formulary/formularylaw27.DependBodies", spec := "dependBodies", inPlace := ["slices.overlaps[formulary/api.Dependence]", "slices.overlaps[[]int]"], unfollowed := true, recurses := true, apart := false }
def DependBodiesSaid : Prop := dependBodiesRow.holds Tryz.pinned (OpenSpec.ofChange dependBodiesSpec)

/-- ITS FALSE NEIGHBOUR: 'it returns false'. Refute it at one input. -/
def dependBodiesWrong : ChangeSpec := { name := "dependBodies", fn := fun _ => fun
  | [d1, d2, d3] => { results := [.lit (.bool false)], args := [d1, d2, d3] }
  | _ => none }
def DependBodiesWrongFalsely : Prop := dependBodiesRow.holds Tryz.pinned (OpenSpec.ofChange dependBodiesWrong)

/-- 'formularylaw27.DependRows': WHATEVER THE INPUT: true; the input reads as it did. -/
def dependRowsSpec : ChangeSpec := { name := "dependRows", fn := fun _ => fun
  | [d1, d2, d3] => { results := [.lit (.bool true)], args := [d1, d2, d3] }
  | _ => none }
def dependRowsRow : OpenClaim := { program := "ytiidkobbkanciaagreat", sum := "c59dc5b6e9561244a5797fd1ddfa3c86f00d2cbd1176bbcb6df14c372ddc1163", func := "formulary/formularylaw27.DependRows", spec := "dependRows", inPlace := ["slices.overlaps[formulary/api.Dependence]", "slices.overlaps[[]int]"], unfollowed := true, recurses := true, apart := false }
def DependRowsSaid : Prop := dependRowsRow.holds Tryz.pinned (OpenSpec.ofChange dependRowsSpec)

/-- ITS FALSE NEIGHBOUR: 'it returns false'. Refute it at one input. -/
def dependRowsWrong : ChangeSpec := { name := "dependRows", fn := fun _ => fun
  | [d1, d2, d3] => { results := [.lit (.bool false)], args := [d1, d2, d3] }
  | _ => none }
def DependRowsWrongFalsely : Prop := dependRowsRow.holds Tryz.pinned (OpenSpec.ofChange dependRowsWrong)

/-- 'formularylaw27.DependSystems': WHATEVER THE INPUT: true; the input reads as it did. -/
def dependSystemsSpec : ChangeSpec := { name := "dependSystems", fn := fun _ => fun
  | [d1, d2, d3] => { results := [.lit (.bool true)], args := [d1, d2, d3] }
  | _ => none }
def dependSystemsRow : OpenClaim := { program := "ytiidkobbkanciaagreat", sum := "c59dc5b6e9561244a5797fd1ddfa3c86f00d2cbd1176bbcb6df14c372ddc1163", func := "formulary/formularylaw27.DependSystems", spec := "dependSystems", inPlace := ["slices.overlaps[formulary/api.Dependence]", "slices.overlaps[[]int]"], unfollowed := true, recurses := true, apart := false }
def DependSystemsSaid : Prop := dependSystemsRow.holds Tryz.pinned (OpenSpec.ofChange dependSystemsSpec)

/-- ITS FALSE NEIGHBOUR: 'it returns false'. Refute it at one input. -/
def dependSystemsWrong : ChangeSpec := { name := "dependSystems", fn := fun _ => fun
  | [d1, d2, d3] => { results := [.lit (.bool false)], args := [d1, d2, d3] }
  | _ => none }
def DependSystemsWrongFalsely : Prop := dependSystemsRow.holds Tryz.pinned (OpenSpec.ofChange dependSystemsWrong)

/-- 'formularylaw27.DependAnswers': WHATEVER THE INPUT: true; the input reads as it did. -/
def dependAnswersSpec : ChangeSpec := { name := "dependAnswers", fn := fun _ => fun
  | [d1, d2, d3] => { results := [.lit (.bool true)], args := [d1, d2, d3] }
  | _ => none }
def dependAnswersRow : OpenClaim := { program := "ytiidkobbkanciaagreat", sum := "c59dc5b6e9561244a5797fd1ddfa3c86f00d2cbd1176bbcb6df14c372ddc1163", func := "formulary/formularylaw27.DependAnswers", spec := "dependAnswers", inPlace := ["slices.overlaps[formulary/api.Dependence]", "slices.overlaps[[]int]"], unfollowed := true, recurses := true, apart := false }
def DependAnswersSaid : Prop := dependAnswersRow.holds Tryz.pinned (OpenSpec.ofChange dependAnswersSpec)

/-- ITS FALSE NEIGHBOUR: 'it returns false'. Refute it at one input. -/
def dependAnswersWrong : ChangeSpec := { name := "dependAnswers", fn := fun _ => fun
  | [d1, d2, d3] => { results := [.lit (.bool false)], args := [d1, d2, d3] }
  | _ => none }
def DependAnswersWrongFalsely : Prop := dependAnswersRow.holds Tryz.pinned (OpenSpec.ofChange dependAnswersWrong)

/- THE SECOND FORM. 'bulk': how many values and letters a reading holds, each counted each time it is reached (what is shared counts as often as it is met; a slice's spare places count too). A statement '..UptoSaid' is the law's where the arguments, and the package variables that the reading takes, are together of bulk at most 1048576: NARROWER than '..Said'. Prove '..Said' where nothing that the law and all that it calls make is longer than what came in: it says more and counts as full. Else prove '..UptoSaid'. A law counts once. -/
mutual
def uptoBulk {H : Type} : DataW H → Nat
  | .lit (.string bytes) => bytes.length + 1
  | .lit _ => 1
  | .nil => 1
  | .ptr d => uptoBulk d + 1
  | .slice elems spare => uptoBulkAll elems + uptoBulkAll spare + 1
  | .agg parts => uptoBulkAll parts + 1
  | .iface _ d => uptoBulk d + 1
  | .map entries => uptoBulkEntries entries + 1
  | .held _ => 1
def uptoBulkAll {H : Type} : List (DataW H) → Nat
  | [] => 0
  | d :: r => uptoBulk d + uptoBulkAll r
def uptoBulkEntries {H : Type} : List (Lit × DataW H) → Nat
  | [] => 0
  | x :: r => uptoBulkEntry x + uptoBulkEntries r
def uptoBulkEntry {H : Type} : Lit × DataW H → Nat
  | (.string bytes, d) => bytes.length + uptoBulk d + 1
  | (_, d) => uptoBulk d + 1
 end
def uptoSmall : (H : Type) → List (DataW H) → Bool := fun _ ds => decide (uptoBulkAll ds ≤ 1048576)
def OpenSpec.upto (s : _root_.Go.ChangeSpec) : _root_.Go.OpenSpec := { _root_.Go.OpenSpec.ofChange s with cond := some uptoSmall }

/-- 'formularylaw27.DependFinds', WHERE WHAT IT READS IS OF BULK AT MOST 1048576: true; the input reads as it did. -/
def dependFindsUptoRow : OpenClaim := { program := "ytiidkobbkanciaagreat", sum := "c59dc5b6e9561244a5797fd1ddfa3c86f00d2cbd1176bbcb6df14c372ddc1163", func := "formulary/formularylaw27.DependFinds", spec := "dependFinds", inPlace := ["slices.overlaps[formulary/api.Dependence]", "slices.overlaps[[]int]"], unfollowed := true, recurses := true, apart := false, narrowed := true }
def DependFindsUptoSaid : Prop := dependFindsUptoRow.holds Tryz.pinned (OpenSpec.upto dependFindsSpec)

/-- 'formularylaw27.DependSolves', WHERE WHAT IT READS IS OF BULK AT MOST 1048576: true; the input reads as it did. -/
def dependSolvesUptoRow : OpenClaim := { program := "ytiidkobbkanciaagreat", sum := "c59dc5b6e9561244a5797fd1ddfa3c86f00d2cbd1176bbcb6df14c372ddc1163", func := "formulary/formularylaw27.DependSolves", spec := "dependSolves", inPlace := ["slices.overlaps[formulary/api.Dependence]", "slices.overlaps[[]int]"], unfollowed := true, recurses := true, apart := false, narrowed := true }
def DependSolvesUptoSaid : Prop := dependSolvesUptoRow.holds Tryz.pinned (OpenSpec.upto dependSolvesSpec)

/-- 'formularylaw27.DependNests', WHERE WHAT IT READS IS OF BULK AT MOST 1048576: true; the input reads as it did. -/
def dependNestsUptoRow : OpenClaim := { program := "ytiidkobbkanciaagreat", sum := "c59dc5b6e9561244a5797fd1ddfa3c86f00d2cbd1176bbcb6df14c372ddc1163", func := "formulary/formularylaw27.DependNests", spec := "dependNests", inPlace := ["slices.overlaps[formulary/api.Dependence]", "slices.overlaps[[]int]"], unfollowed := true, recurses := true, apart := false, narrowed := true }
def DependNestsUptoSaid : Prop := dependNestsUptoRow.holds Tryz.pinned (OpenSpec.upto dependNestsSpec)

/-- 'formularylaw27.DependProofs', WHERE WHAT IT READS IS OF BULK AT MOST 1048576: true; the input reads as it did. -/
def dependProofsUptoRow : OpenClaim := { program := "ytiidkobbkanciaagreat", sum := "c59dc5b6e9561244a5797fd1ddfa3c86f00d2cbd1176bbcb6df14c372ddc1163", func := "formulary/formularylaw27.DependProofs", spec := "dependProofs", inPlace := ["slices.overlaps[formulary/api.Dependence]", "slices.overlaps[[]int]"], unfollowed := true, recurses := true, apart := false, narrowed := true }
def DependProofsUptoSaid : Prop := dependProofsUptoRow.holds Tryz.pinned (OpenSpec.upto dependProofsSpec)

/-- 'formularylaw27.DependBodies', WHERE WHAT IT READS IS OF BULK AT MOST 1048576: true; the input reads as it did. -/
def dependBodiesUptoRow : OpenClaim := { program := "ytiidkobbkanciaagreat", sum := "c59dc5b6e9561244a5797fd1ddfa3c86f00d2cbd1176bbcb6df14c372ddc1163", func := "formulary/formularylaw27.DependBodies", spec := "dependBodies", inPlace := ["slices.overlaps[formulary/api.Dependence]", "slices.overlaps[[]int]"], unfollowed := true, recurses := true, apart := false, narrowed := true }
def DependBodiesUptoSaid : Prop := dependBodiesUptoRow.holds Tryz.pinned (OpenSpec.upto dependBodiesSpec)

/-- 'formularylaw27.DependRows', WHERE WHAT IT READS IS OF BULK AT MOST 1048576: true; the input reads as it did. -/
def dependRowsUptoRow : OpenClaim := { program := "ytiidkobbkanciaagreat", sum := "c59dc5b6e9561244a5797fd1ddfa3c86f00d2cbd1176bbcb6df14c372ddc1163", func := "formulary/formularylaw27.DependRows", spec := "dependRows", inPlace := ["slices.overlaps[formulary/api.Dependence]", "slices.overlaps[[]int]"], unfollowed := true, recurses := true, apart := false, narrowed := true }
def DependRowsUptoSaid : Prop := dependRowsUptoRow.holds Tryz.pinned (OpenSpec.upto dependRowsSpec)

/-- 'formularylaw27.DependSystems', WHERE WHAT IT READS IS OF BULK AT MOST 1048576: true; the input reads as it did. -/
def dependSystemsUptoRow : OpenClaim := { program := "ytiidkobbkanciaagreat", sum := "c59dc5b6e9561244a5797fd1ddfa3c86f00d2cbd1176bbcb6df14c372ddc1163", func := "formulary/formularylaw27.DependSystems", spec := "dependSystems", inPlace := ["slices.overlaps[formulary/api.Dependence]", "slices.overlaps[[]int]"], unfollowed := true, recurses := true, apart := false, narrowed := true }
def DependSystemsUptoSaid : Prop := dependSystemsUptoRow.holds Tryz.pinned (OpenSpec.upto dependSystemsSpec)

/-- 'formularylaw27.DependAnswers', WHERE WHAT IT READS IS OF BULK AT MOST 1048576: true; the input reads as it did. -/
def dependAnswersUptoRow : OpenClaim := { program := "ytiidkobbkanciaagreat", sum := "c59dc5b6e9561244a5797fd1ddfa3c86f00d2cbd1176bbcb6df14c372ddc1163", func := "formulary/formularylaw27.DependAnswers", spec := "dependAnswers", inPlace := ["slices.overlaps[formulary/api.Dependence]", "slices.overlaps[[]int]"], unfollowed := true, recurses := true, apart := false, narrowed := true }
def DependAnswersUptoSaid : Prop := dependAnswersUptoRow.holds Tryz.pinned (OpenSpec.upto dependAnswersSpec)

end Rows
end Go.Proofs.YtiidkobbkanciaaGreat
