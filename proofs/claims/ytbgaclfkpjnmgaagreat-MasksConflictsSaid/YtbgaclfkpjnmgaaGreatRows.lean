/-
  No cell of these rows narrows 'for every input' (looked for: loops, veiled, ifaces, maps, wideKeys, modest, calm, conditions, laid).
  DERIVED. THE GIVEN ROWS OF THIS SEAT. 8 by the template 'for every input the law returns true; each argument reads behind the call as it read before'; 0 by the template 'total and deterministic' (their statements: YtbgaclfkpjnmgaaGreatTotals.lean).
  GIVEN WITH THE SEED: the statements are not yours to turn. If you find one false, say at which input.
  Laid BY PROGRAM, IN A SANDBOX (cutbox-rows.mjs): the forced cells as the released guide's own fill.sh prints them over the translation cec9abd3c772e427… (all of the seat's roots in one cut). By AI agents, Wed Nov 11 2026. No macro, syntax, notation, axiom, sorry.
-/
import Derived.Test.YtbgaclfkpjnmgaaGreatChecked
import GoSem.Claim
import GoSem.ClaimJoined
import GoSem.ClaimMapViews
import Derived.JoinedTies
import Derived.KernelRfl
namespace Go.Proofs.YtbgaclfkpjnmgaaGreat
/- THE CELL 'sum', in the pinned program and in every row, IS THE sha256 OF THE DUMP (.gsa) THAT YtbgaclfkpjnmgaaGreatProg.lean LOADS. Nothing in Lean hashes anything: it is a label: what it is worth is what the hold of that sum in a sandbox is worth. -/
noncomputable def Tryz.pinned : Pinned := { name := "ytbgaclfkpjnmgaagreat", sum := "cec9abd3c772e4279317254bd190afa9996942ab8fd429fca142d3f4829701d0", checked := Tryz.checked }
namespace Rows
def none {H : Type} : Left H := { results := [], args := [] }

/-- 'formularytop.TopMaskedSame': WHATEVER THE INPUT: true; the input reads as it did. -/
def topMaskedSameSpec : ChangeSpec := { name := "topMaskedSame", fn := fun _ => fun
  | [d1, d2] => { results := [.lit (.bool true)], args := [d1, d2] }
  | _ => none }
def topMaskedSameRow : OpenClaim := { program := "ytbgaclfkpjnmgaagreat", sum := "cec9abd3c772e4279317254bd190afa9996942ab8fd429fca142d3f4829701d0", func := "formulary/formularytop.TopMaskedSame", spec := "topMaskedSame", unfollowed := true, recurses := true, apart := false }
def TopMaskedSameSaid : Prop := topMaskedSameRow.holds Tryz.pinned (OpenSpec.ofChange topMaskedSameSpec)

/-- ITS FALSE NEIGHBOUR: 'it returns false'. Refute it at one input. -/
def topMaskedSameWrong : ChangeSpec := { name := "topMaskedSame", fn := fun _ => fun
  | [d1, d2] => { results := [.lit (.bool false)], args := [d1, d2] }
  | _ => none }
def TopMaskedSameWrongFalsely : Prop := topMaskedSameRow.holds Tryz.pinned (OpenSpec.ofChange topMaskedSameWrong)

/-- 'formularylaw16.MasksConflicts': WHATEVER THE INPUT: true; the input reads as it did. -/
def masksConflictsSpec : ChangeSpec := { name := "masksConflicts", fn := fun _ => fun
  | [d1, d2] => { results := [.lit (.bool true)], args := [d1, d2] }
  | _ => none }
def masksConflictsRow : OpenClaim := { program := "ytbgaclfkpjnmgaagreat", sum := "cec9abd3c772e4279317254bd190afa9996942ab8fd429fca142d3f4829701d0", func := "formulary/formularylaw16.MasksConflicts", spec := "masksConflicts", unfollowed := true, recurses := true, apart := false }
def MasksConflictsSaid : Prop := masksConflictsRow.holds Tryz.pinned (OpenSpec.ofChange masksConflictsSpec)

/-- ITS FALSE NEIGHBOUR: 'it returns false'. Refute it at one input. -/
def masksConflictsWrong : ChangeSpec := { name := "masksConflicts", fn := fun _ => fun
  | [d1, d2] => { results := [.lit (.bool false)], args := [d1, d2] }
  | _ => none }
def MasksConflictsWrongFalsely : Prop := masksConflictsRow.holds Tryz.pinned (OpenSpec.ofChange masksConflictsWrong)

/-- 'formularylaw16.MasksConstant': WHATEVER THE INPUT: true; the input reads as it did. -/
def masksConstantSpec : ChangeSpec := { name := "masksConstant", fn := fun _ => fun
  | [d1, d2, d3] => { results := [.lit (.bool true)], args := [d1, d2, d3] }
  | _ => none }
def masksConstantRow : OpenClaim := { program := "ytbgaclfkpjnmgaagreat", sum := "cec9abd3c772e4279317254bd190afa9996942ab8fd429fca142d3f4829701d0", func := "formulary/formularylaw16.MasksConstant", spec := "masksConstant", unfollowed := true, recurses := true, apart := false }
def MasksConstantSaid : Prop := masksConstantRow.holds Tryz.pinned (OpenSpec.ofChange masksConstantSpec)

/-- ITS FALSE NEIGHBOUR: 'it returns false'. Refute it at one input. -/
def masksConstantWrong : ChangeSpec := { name := "masksConstant", fn := fun _ => fun
  | [d1, d2, d3] => { results := [.lit (.bool false)], args := [d1, d2, d3] }
  | _ => none }
def MasksConstantWrongFalsely : Prop := masksConstantRow.holds Tryz.pinned (OpenSpec.ofChange masksConstantWrong)

/-- 'formularylaw16.MasksExecutes': WHATEVER THE INPUT: true; the input reads as it did. -/
def masksExecutesSpec : ChangeSpec := { name := "masksExecutes", fn := fun _ => fun
  | [d1, d2] => { results := [.lit (.bool true)], args := [d1, d2] }
  | _ => none }
def masksExecutesRow : OpenClaim := { program := "ytbgaclfkpjnmgaagreat", sum := "cec9abd3c772e4279317254bd190afa9996942ab8fd429fca142d3f4829701d0", func := "formulary/formularylaw16.MasksExecutes", spec := "masksExecutes", unfollowed := true, recurses := true, apart := false }
def MasksExecutesSaid : Prop := masksExecutesRow.holds Tryz.pinned (OpenSpec.ofChange masksExecutesSpec)

/-- ITS FALSE NEIGHBOUR: 'it returns false'. Refute it at one input. -/
def masksExecutesWrong : ChangeSpec := { name := "masksExecutes", fn := fun _ => fun
  | [d1, d2] => { results := [.lit (.bool false)], args := [d1, d2] }
  | _ => none }
def MasksExecutesWrongFalsely : Prop := masksExecutesRow.holds Tryz.pinned (OpenSpec.ofChange masksExecutesWrong)

/-- 'formularylaw16.MasksOrders': WHATEVER THE INPUT: true; the input reads as it did. -/
def masksOrdersSpec : ChangeSpec := { name := "masksOrders", fn := fun _ => fun
  | [d1, d2, d3] => { results := [.lit (.bool true)], args := [d1, d2, d3] }
  | _ => none }
def masksOrdersRow : OpenClaim := { program := "ytbgaclfkpjnmgaagreat", sum := "cec9abd3c772e4279317254bd190afa9996942ab8fd429fca142d3f4829701d0", func := "formulary/formularylaw16.MasksOrders", spec := "masksOrders", unfollowed := true, recurses := true, apart := false }
def MasksOrdersSaid : Prop := masksOrdersRow.holds Tryz.pinned (OpenSpec.ofChange masksOrdersSpec)

/-- ITS FALSE NEIGHBOUR: 'it returns false'. Refute it at one input. -/
def masksOrdersWrong : ChangeSpec := { name := "masksOrders", fn := fun _ => fun
  | [d1, d2, d3] => { results := [.lit (.bool false)], args := [d1, d2, d3] }
  | _ => none }
def MasksOrdersWrongFalsely : Prop := masksOrdersRow.holds Tryz.pinned (OpenSpec.ofChange masksOrdersWrong)

/-- 'formularylaw16.MasksSafe': WHATEVER THE INPUT: true; the input reads as it did. -/
def masksSafeSpec : ChangeSpec := { name := "masksSafe", fn := fun _ => fun
  | [d1, d2, d3] => { results := [.lit (.bool true)], args := [d1, d2, d3] }
  | _ => none }
def masksSafeRow : OpenClaim := { program := "ytbgaclfkpjnmgaagreat", sum := "cec9abd3c772e4279317254bd190afa9996942ab8fd429fca142d3f4829701d0", func := "formulary/formularylaw16.MasksSafe", spec := "masksSafe", unfollowed := true, recurses := true, apart := false }
def MasksSafeSaid : Prop := masksSafeRow.holds Tryz.pinned (OpenSpec.ofChange masksSafeSpec)

/-- ITS FALSE NEIGHBOUR: 'it returns false'. Refute it at one input. -/
def masksSafeWrong : ChangeSpec := { name := "masksSafe", fn := fun _ => fun
  | [d1, d2, d3] => { results := [.lit (.bool false)], args := [d1, d2, d3] }
  | _ => none }
def MasksSafeWrongFalsely : Prop := masksSafeRow.holds Tryz.pinned (OpenSpec.ofChange masksSafeWrong)

/-- 'formularylaw16.MasksValues': WHATEVER THE INPUT: true; the input reads as it did. -/
def masksValuesSpec : ChangeSpec := { name := "masksValues", fn := fun _ => fun
  | [d1, d2] => { results := [.lit (.bool true)], args := [d1, d2] }
  | _ => none }
def masksValuesRow : OpenClaim := { program := "ytbgaclfkpjnmgaagreat", sum := "cec9abd3c772e4279317254bd190afa9996942ab8fd429fca142d3f4829701d0", func := "formulary/formularylaw16.MasksValues", spec := "masksValues", unfollowed := true, recurses := true, apart := false }
def MasksValuesSaid : Prop := masksValuesRow.holds Tryz.pinned (OpenSpec.ofChange masksValuesSpec)

/-- ITS FALSE NEIGHBOUR: 'it returns false'. Refute it at one input. -/
def masksValuesWrong : ChangeSpec := { name := "masksValues", fn := fun _ => fun
  | [d1, d2] => { results := [.lit (.bool false)], args := [d1, d2] }
  | _ => none }
def MasksValuesWrongFalsely : Prop := masksValuesRow.holds Tryz.pinned (OpenSpec.ofChange masksValuesWrong)

/-- 'formularylaw16.MasksForalls': WHATEVER THE INPUT: true; the input reads as it did. -/
def masksForallsSpec : ChangeSpec := { name := "masksForalls", fn := fun _ => fun
  | [d1, d2] => { results := [.lit (.bool true)], args := [d1, d2] }
  | _ => none }
def masksForallsRow : OpenClaim := { program := "ytbgaclfkpjnmgaagreat", sum := "cec9abd3c772e4279317254bd190afa9996942ab8fd429fca142d3f4829701d0", func := "formulary/formularylaw16.MasksForalls", spec := "masksForalls", unfollowed := true, recurses := true, apart := false }
def MasksForallsSaid : Prop := masksForallsRow.holds Tryz.pinned (OpenSpec.ofChange masksForallsSpec)

/-- ITS FALSE NEIGHBOUR: 'it returns false'. Refute it at one input. -/
def masksForallsWrong : ChangeSpec := { name := "masksForalls", fn := fun _ => fun
  | [d1, d2] => { results := [.lit (.bool false)], args := [d1, d2] }
  | _ => none }
def MasksForallsWrongFalsely : Prop := masksForallsRow.holds Tryz.pinned (OpenSpec.ofChange masksForallsWrong)

/- THE SECOND FORM. 'bulk': how many values and letters a reading holds, each counted each time it is reached (what is shared counts as often as it is met; a slice's spare places count too). A statement '..UptoSaid' is the law's where the arguments, and the package variables that the reading takes, are together of bulk at most 1048576: NARROWER than '..Said'. Prove '..Said' where nothing that the law and all that it calls make is longer than what came in: it says more and counts as full. Else prove '..UptoSaid'. A law counts once. -/
mutual
def uptoBulk {H : Type} : DataW H → Nat
  | .lit (.string bytes) => bytes.length + 1
  | .lit _ => 1
  | .nil => 1
  | .ptr d => uptoBulk d + 1
  | .slice elems spare => uptoBulkAll elems + uptoBulkAll spare + 1
  | .agg parts => uptoBulkAll parts + 1
  | .iface _ d => uptoBulk d + 1
  | .map entries => uptoBulkEntries entries + 1
  | .held _ => 1
def uptoBulkAll {H : Type} : List (DataW H) → Nat
  | [] => 0
  | d :: r => uptoBulk d + uptoBulkAll r
def uptoBulkEntries {H : Type} : List (Lit × DataW H) → Nat
  | [] => 0
  | x :: r => uptoBulkEntry x + uptoBulkEntries r
def uptoBulkEntry {H : Type} : Lit × DataW H → Nat
  | (.string bytes, d) => bytes.length + uptoBulk d + 1
  | (_, d) => uptoBulk d + 1
 end
def uptoSmall : (H : Type) → List (DataW H) → Bool := fun _ ds => decide (uptoBulkAll ds ≤ 1048576)
def OpenSpec.upto (s : _root_.Go.ChangeSpec) : _root_.Go.OpenSpec := { _root_.Go.OpenSpec.ofChange s with cond := some uptoSmall }

/-- 'formularytop.TopMaskedSame', WHERE WHAT IT READS IS OF BULK AT MOST 1048576: true; the input reads as it did. -/
def topMaskedSameUptoRow : OpenClaim := { program := "ytbgaclfkpjnmgaagreat", sum := "cec9abd3c772e4279317254bd190afa9996942ab8fd429fca142d3f4829701d0", func := "formulary/formularytop.TopMaskedSame", spec := "topMaskedSame", unfollowed := true, recurses := true, apart := false, narrowed := true }
def TopMaskedSameUptoSaid : Prop := topMaskedSameUptoRow.holds Tryz.pinned (OpenSpec.upto topMaskedSameSpec)

/-- 'formularylaw16.MasksConflicts', WHERE WHAT IT READS IS OF BULK AT MOST 1048576: true; the input reads as it did. -/
def masksConflictsUptoRow : OpenClaim := { program := "ytbgaclfkpjnmgaagreat", sum := "cec9abd3c772e4279317254bd190afa9996942ab8fd429fca142d3f4829701d0", func := "formulary/formularylaw16.MasksConflicts", spec := "masksConflicts", unfollowed := true, recurses := true, apart := false, narrowed := true }
def MasksConflictsUptoSaid : Prop := masksConflictsUptoRow.holds Tryz.pinned (OpenSpec.upto masksConflictsSpec)

/-- 'formularylaw16.MasksConstant', WHERE WHAT IT READS IS OF BULK AT MOST 1048576: true; the input reads as it did. -/
def masksConstantUptoRow : OpenClaim := { program := "ytbgaclfkpjnmgaagreat", sum := "cec9abd3c772e4279317254bd190afa9996942ab8fd429fca142d3f4829701d0", func := "formulary/formularylaw16.MasksConstant", spec := "masksConstant", unfollowed := true, recurses := true, apart := false, narrowed := true }
def MasksConstantUptoSaid : Prop := masksConstantUptoRow.holds Tryz.pinned (OpenSpec.upto masksConstantSpec)

/-- 'formularylaw16.MasksExecutes', WHERE WHAT IT READS IS OF BULK AT MOST 1048576: true; the input reads as it did. -/
def masksExecutesUptoRow : OpenClaim := { program := "ytbgaclfkpjnmgaagreat", sum := "cec9abd3c772e4279317254bd190afa9996942ab8fd429fca142d3f4829701d0", func := "formulary/formularylaw16.MasksExecutes", spec := "masksExecutes", unfollowed := true, recurses := true, apart := false, narrowed := true }
def MasksExecutesUptoSaid : Prop := masksExecutesUptoRow.holds Tryz.pinned (OpenSpec.upto masksExecutesSpec)

/-- 'formularylaw16.MasksOrders', WHERE WHAT IT READS IS OF BULK AT MOST 1048576: true; the input reads as it did. -/
def masksOrdersUptoRow : OpenClaim := { program := "ytbgaclfkpjnmgaagreat", sum := "cec9abd3c772e4279317254bd190afa9996942ab8fd429fca142d3f4829701d0", func := "formulary/formularylaw16.MasksOrders", spec := "masksOrders", unfollowed := true, recurses := true, apart := false, narrowed := true }
def MasksOrdersUptoSaid : Prop := masksOrdersUptoRow.holds Tryz.pinned (OpenSpec.upto masksOrdersSpec)

/-- 'formularylaw16.MasksSafe', WHERE WHAT IT READS IS OF BULK AT MOST 1048576: true; the input reads as it did. -/
def masksSafeUptoRow : OpenClaim := { program := "ytbgaclfkpjnmgaagreat", sum := "cec9abd3c772e4279317254bd190afa9996942ab8fd429fca142d3f4829701d0", func := "formulary/formularylaw16.MasksSafe", spec := "masksSafe", unfollowed := true, recurses := true, apart := false, narrowed := true }
def MasksSafeUptoSaid : Prop := masksSafeUptoRow.holds Tryz.pinned (OpenSpec.upto masksSafeSpec)

/-- 'formularylaw16.MasksValues', WHERE WHAT IT READS IS OF BULK AT MOST 1048576: true; the input reads as it did. -/
def masksValuesUptoRow : OpenClaim := { program := "ytbgaclfkpjnmgaagreat", sum := "cec9abd3c772e4279317254bd190afa9996942ab8fd429fca142d3f4829701d0", func := "formulary/formularylaw16.MasksValues", spec := "masksValues", unfollowed := true, recurses := true, apart := false, narrowed := true }
def MasksValuesUptoSaid : Prop := masksValuesUptoRow.holds Tryz.pinned (OpenSpec.upto masksValuesSpec)

/-- 'formularylaw16.MasksForalls', WHERE WHAT IT READS IS OF BULK AT MOST 1048576: true; the input reads as it did. -/
def masksForallsUptoRow : OpenClaim := { program := "ytbgaclfkpjnmgaagreat", sum := "cec9abd3c772e4279317254bd190afa9996942ab8fd429fca142d3f4829701d0", func := "formulary/formularylaw16.MasksForalls", spec := "masksForalls", unfollowed := true, recurses := true, apart := false, narrowed := true }
def MasksForallsUptoSaid : Prop := masksForallsUptoRow.holds Tryz.pinned (OpenSpec.upto masksForallsSpec)

end Rows
end Go.Proofs.YtbgaclfkpjnmgaaGreat
