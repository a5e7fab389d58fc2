/-
  No cell of these rows narrows 'for every input' (looked for: loops, veiled, ifaces, maps, wideKeys, modest, calm, conditions, laid).
  DERIVED. THE GIVEN ROWS OF THIS SEAT. 8 by the template 'for every input the law returns true; each argument reads behind the call as it read before'; 0 by the template 'total and deterministic' (their statements: YtoelcmbacfhdnaaTotals.lean).
  GIVEN WITH THE SEED: the statements are not yours to turn. If you find one false, say at which input.
  Laid BY PROGRAM, IN A SANDBOX (cutbox-rows.mjs): the forced cells as the released guide's own fill.sh prints them over the translation a5cbcce246fc4020… (all of the seat's roots in one cut). By AI agents, Wed Nov 11 2026. No macro, syntax, notation, axiom, sorry.
-/
import Derived.Test.YtoelcmbacfhdnaaChecked
import GoSem.Claim
import GoSem.ClaimJoined
import GoSem.ClaimMapViews
import Derived.JoinedTies
import Derived.KernelRfl
namespace Go.Proofs.Ytoelcmbacfhdnaa
/- THE CELL 'sum', in the pinned program and in every row, IS THE sha256 OF THE DUMP (.gsa) THAT YtoelcmbacfhdnaaProg.lean LOADS. Nothing in Lean hashes anything: it is a label: what it is worth is what the hold of that sum in a sandbox is worth. -/
noncomputable def Try.pinned : Pinned := { name := "ytoelcmbacfhdnaa", sum := "a5cbcce246fc402089c52b577098804c2bfc0dee627ce382126eb2114f380521", checked := Try.checked }
namespace Rows
def none {H : Type} : Left H := { results := [], args := [] }

/-- 'formularylaw15.ShapesSections': WHATEVER THE INPUT: true; the input reads as it did. -/
def shapesSectionsSpec : ChangeSpec := { name := "shapesSections", fn := fun _ => fun
  | [d1, d2] => { results := [.lit (.bool true)], args := [d1, d2] }
  | _ => none }
def shapesSectionsRow : OpenClaim := { program := "ytoelcmbacfhdnaa", sum := "a5cbcce246fc402089c52b577098804c2bfc0dee627ce382126eb2114f380521", func := "formulary/formularylaw15.ShapesSections", spec := "shapesSections", unfollowed := true, recurses := true, apart := false }
def ShapesSectionsSaid : Prop := shapesSectionsRow.holds Try.pinned (OpenSpec.ofChange shapesSectionsSpec)

/-- ITS FALSE NEIGHBOUR: 'it returns false'. Refute it at one input. -/
def shapesSectionsWrong : ChangeSpec := { name := "shapesSections", fn := fun _ => fun
  | [d1, d2] => { results := [.lit (.bool false)], args := [d1, d2] }
  | _ => none }
def ShapesSectionsWrongFalsely : Prop := shapesSectionsRow.holds Try.pinned (OpenSpec.ofChange shapesSectionsWrong)

/-- 'formularylaw15.ShapesElements': WHATEVER THE INPUT: true; the input reads as it did. -/
def shapesElementsSpec : ChangeSpec := { name := "shapesElements", fn := fun _ => fun
  | [d1, d2, d3] => { results := [.lit (.bool true)], args := [d1, d2, d3] }
  | _ => none }
def shapesElementsRow : OpenClaim := { program := "ytoelcmbacfhdnaa", sum := "a5cbcce246fc402089c52b577098804c2bfc0dee627ce382126eb2114f380521", func := "formulary/formularylaw15.ShapesElements", spec := "shapesElements", unfollowed := true, recurses := true, apart := false }
def ShapesElementsSaid : Prop := shapesElementsRow.holds Try.pinned (OpenSpec.ofChange shapesElementsSpec)

/-- ITS FALSE NEIGHBOUR: 'it returns false'. Refute it at one input. -/
def shapesElementsWrong : ChangeSpec := { name := "shapesElements", fn := fun _ => fun
  | [d1, d2, d3] => { results := [.lit (.bool false)], args := [d1, d2, d3] }
  | _ => none }
def ShapesElementsWrongFalsely : Prop := shapesElementsRow.holds Try.pinned (OpenSpec.ofChange shapesElementsWrong)

/-- 'formularylaw15.ShapesShifts': WHATEVER THE INPUT: true; the input reads as it did. -/
def shapesShiftsSpec : ChangeSpec := { name := "shapesShifts", fn := fun _ => fun
  | [d1, d2, d3] => { results := [.lit (.bool true)], args := [d1, d2, d3] }
  | _ => none }
def shapesShiftsRow : OpenClaim := { program := "ytoelcmbacfhdnaa", sum := "a5cbcce246fc402089c52b577098804c2bfc0dee627ce382126eb2114f380521", func := "formulary/formularylaw15.ShapesShifts", spec := "shapesShifts", unfollowed := true, recurses := true, apart := false }
def ShapesShiftsSaid : Prop := shapesShiftsRow.holds Try.pinned (OpenSpec.ofChange shapesShiftsSpec)

/-- ITS FALSE NEIGHBOUR: 'it returns false'. Refute it at one input. -/
def shapesShiftsWrong : ChangeSpec := { name := "shapesShifts", fn := fun _ => fun
  | [d1, d2, d3] => { results := [.lit (.bool false)], args := [d1, d2, d3] }
  | _ => none }
def ShapesShiftsWrongFalsely : Prop := shapesShiftsRow.holds Try.pinned (OpenSpec.ofChange shapesShiftsWrong)

/-- 'formularylaw15.ShapesArrays': WHATEVER THE INPUT: true; the input reads as it did. -/
def shapesArraysSpec : ChangeSpec := { name := "shapesArrays", fn := fun _ => fun
  | [d1, d2] => { results := [.lit (.bool true)], args := [d1, d2] }
  | _ => none }
def shapesArraysRow : OpenClaim := { program := "ytoelcmbacfhdnaa", sum := "a5cbcce246fc402089c52b577098804c2bfc0dee627ce382126eb2114f380521", func := "formulary/formularylaw15.ShapesArrays", spec := "shapesArrays", unfollowed := true, recurses := true, apart := false }
def ShapesArraysSaid : Prop := shapesArraysRow.holds Try.pinned (OpenSpec.ofChange shapesArraysSpec)

/-- ITS FALSE NEIGHBOUR: 'it returns false'. Refute it at one input. -/
def shapesArraysWrong : ChangeSpec := { name := "shapesArrays", fn := fun _ => fun
  | [d1, d2] => { results := [.lit (.bool false)], args := [d1, d2] }
  | _ => none }
def ShapesArraysWrongFalsely : Prop := shapesArraysRow.holds Try.pinned (OpenSpec.ofChange shapesArraysWrong)

/-- 'formularylaw15.ShapesStores': WHATEVER THE INPUT: true; the input reads as it did. -/
def shapesStoresSpec : ChangeSpec := { name := "shapesStores", fn := fun _ => fun
  | [d1, d2, d3] => { results := [.lit (.bool true)], args := [d1, d2, d3] }
  | _ => none }
def shapesStoresRow : OpenClaim := { program := "ytoelcmbacfhdnaa", sum := "a5cbcce246fc402089c52b577098804c2bfc0dee627ce382126eb2114f380521", func := "formulary/formularylaw15.ShapesStores", spec := "shapesStores", unfollowed := true, recurses := true, apart := false }
def ShapesStoresSaid : Prop := shapesStoresRow.holds Try.pinned (OpenSpec.ofChange shapesStoresSpec)

/-- ITS FALSE NEIGHBOUR: 'it returns false'. Refute it at one input. -/
def shapesStoresWrong : ChangeSpec := { name := "shapesStores", fn := fun _ => fun
  | [d1, d2, d3] => { results := [.lit (.bool false)], args := [d1, d2, d3] }
  | _ => none }
def ShapesStoresWrongFalsely : Prop := shapesStoresRow.holds Try.pinned (OpenSpec.ofChange shapesStoresWrong)

/-- 'formularylaw15.ShapesPacks': WHATEVER THE INPUT: true; the input reads as it did. -/
def shapesPacksSpec : ChangeSpec := { name := "shapesPacks", fn := fun _ => fun
  | [d1, d2, d3] => { results := [.lit (.bool true)], args := [d1, d2, d3] }
  | _ => none }
def shapesPacksRow : OpenClaim := { program := "ytoelcmbacfhdnaa", sum := "a5cbcce246fc402089c52b577098804c2bfc0dee627ce382126eb2114f380521", func := "formulary/formularylaw15.ShapesPacks", spec := "shapesPacks", unfollowed := true, recurses := true, apart := false }
def ShapesPacksSaid : Prop := shapesPacksRow.holds Try.pinned (OpenSpec.ofChange shapesPacksSpec)

/-- ITS FALSE NEIGHBOUR: 'it returns false'. Refute it at one input. -/
def shapesPacksWrong : ChangeSpec := { name := "shapesPacks", fn := fun _ => fun
  | [d1, d2, d3] => { results := [.lit (.bool false)], args := [d1, d2, d3] }
  | _ => none }
def ShapesPacksWrongFalsely : Prop := shapesPacksRow.holds Try.pinned (OpenSpec.ofChange shapesPacksWrong)

/-- 'formularylaw15.ShapesReduces': WHATEVER THE INPUT: true; the input reads as it did. -/
def shapesReducesSpec : ChangeSpec := { name := "shapesReduces", fn := fun _ => fun
  | [d1, d2, d3] => { results := [.lit (.bool true)], args := [d1, d2, d3] }
  | _ => none }
def shapesReducesRow : OpenClaim := { program := "ytoelcmbacfhdnaa", sum := "a5cbcce246fc402089c52b577098804c2bfc0dee627ce382126eb2114f380521", func := "formulary/formularylaw15.ShapesReduces", spec := "shapesReduces", unfollowed := true, recurses := true, apart := false }
def ShapesReducesSaid : Prop := shapesReducesRow.holds Try.pinned (OpenSpec.ofChange shapesReducesSpec)

/-- ITS FALSE NEIGHBOUR: 'it returns false'. Refute it at one input. -/
def shapesReducesWrong : ChangeSpec := { name := "shapesReduces", fn := fun _ => fun
  | [d1, d2, d3] => { results := [.lit (.bool false)], args := [d1, d2, d3] }
  | _ => none }
def ShapesReducesWrongFalsely : Prop := shapesReducesRow.holds Try.pinned (OpenSpec.ofChange shapesReducesWrong)

/-- 'formularylaw15.ShapesSpreads': WHATEVER THE INPUT: true; the input reads as it did. -/
def shapesSpreadsSpec : ChangeSpec := { name := "shapesSpreads", fn := fun _ => fun
  | [d1, d2, d3] => { results := [.lit (.bool true)], args := [d1, d2, d3] }
  | _ => none }
def shapesSpreadsRow : OpenClaim := { program := "ytoelcmbacfhdnaa", sum := "a5cbcce246fc402089c52b577098804c2bfc0dee627ce382126eb2114f380521", func := "formulary/formularylaw15.ShapesSpreads", spec := "shapesSpreads", inPlace := ["slices.overlaps[int]"], unfollowed := true, recurses := true, apart := false }
def ShapesSpreadsSaid : Prop := shapesSpreadsRow.holds Try.pinned (OpenSpec.ofChange shapesSpreadsSpec)

/-- ITS FALSE NEIGHBOUR: 'it returns false'. Refute it at one input. -/
def shapesSpreadsWrong : ChangeSpec := { name := "shapesSpreads", fn := fun _ => fun
  | [d1, d2, d3] => { results := [.lit (.bool false)], args := [d1, d2, d3] }
  | _ => none }
def ShapesSpreadsWrongFalsely : Prop := shapesSpreadsRow.holds Try.pinned (OpenSpec.ofChange shapesSpreadsWrong)

/- THE SECOND FORM. 'bulk': how many values and letters a reading holds, each counted each time it is reached (what is shared counts as often as it is met; a slice's spare places count too). A statement '..UptoSaid' is the law's where the arguments, and the package variables that the reading takes, are together of bulk at most 1048576: NARROWER than '..Said'. Prove '..Said' where nothing that the law and all that it calls make is longer than what came in: it says more and counts as full. Else prove '..UptoSaid'. A law counts once. -/
mutual
def uptoBulk {H : Type} : DataW H → Nat
  | .lit (.string bytes) => bytes.length + 1
  | .lit _ => 1
  | .nil => 1
  | .ptr d => uptoBulk d + 1
  | .slice elems spare => uptoBulkAll elems + uptoBulkAll spare + 1
  | .agg parts => uptoBulkAll parts + 1
  | .iface _ d => uptoBulk d + 1
  | .map entries => uptoBulkEntries entries + 1
  | .held _ => 1
def uptoBulkAll {H : Type} : List (DataW H) → Nat
  | [] => 0
  | d :: r => uptoBulk d + uptoBulkAll r
def uptoBulkEntries {H : Type} : List (Lit × DataW H) → Nat
  | [] => 0
  | x :: r => uptoBulkEntry x + uptoBulkEntries r
def uptoBulkEntry {H : Type} : Lit × DataW H → Nat
  | (.string bytes, d) => bytes.length + uptoBulk d + 1
  | (_, d) => uptoBulk d + 1
 end
def uptoSmall : (H : Type) → List (DataW H) → Bool := fun _ ds => decide (uptoBulkAll ds ≤ 1048576)
def OpenSpec.upto (s : _root_.Go.ChangeSpec) : _root_.Go.OpenSpec := { _root_.Go.OpenSpec.ofChange s with cond := some uptoSmall }

/-- 'formularylaw15.ShapesSections', WHERE WHAT IT READS IS OF BULK AT MOST 1048576: true; the input reads as it did. -/
def shapesSectionsUptoRow : OpenClaim := { program := "ytoelcmbacfhdnaa", sum := "a5cbcce246fc402089c52b577098804c2bfc0dee627ce382126eb2114f380521", func := "formulary/formularylaw15.ShapesSections", spec := "shapesSections", unfollowed := true, recurses := true, apart := false, narrowed := true }
def ShapesSectionsUptoSaid : Prop := shapesSectionsUptoRow.holds Try.pinned (OpenSpec.upto shapesSectionsSpec)

/-- 'formularylaw15.ShapesElements', WHERE WHAT IT READS IS OF BULK AT MOST 1048576: true; the input reads as it did. -/
def shapesElementsUptoRow : OpenClaim := { program := "ytoelcmbacfhdnaa", sum := "a5cbcce246fc402089c52b577098804c2bfc0dee627ce382126eb2114f380521", func := "formulary/formularylaw15.ShapesElements", spec := "shapesElements", unfollowed := true, recurses := true, apart := false, narrowed := true }
def ShapesElementsUptoSaid : Prop := shapesElementsUptoRow.holds Try.pinned (OpenSpec.upto shapesElementsSpec)

/-- 'formularylaw15.ShapesShifts', WHERE WHAT IT READS IS OF BULK AT MOST 1048576: true; the input reads as it did. -/
def shapesShiftsUptoRow : OpenClaim := { program := "ytoelcmbacfhdnaa", sum := "a5cbcce246fc402089c52b577098804c2bfc0dee627ce382126eb2114f380521", func := "formulary/formularylaw15.ShapesShifts", spec := "shapesShifts", unfollowed := true, recurses := true, apart := false, narrowed := true }
def ShapesShiftsUptoSaid : Prop := shapesShiftsUptoRow.holds Try.pinned (OpenSpec.upto shapesShiftsSpec)

/-- 'formularylaw15.ShapesArrays', WHERE WHAT IT READS IS OF BULK AT MOST 1048576: true; the input reads as it did. -/
def shapesArraysUptoRow : OpenClaim := { program := "ytoelcmbacfhdnaa", sum := "a5cbcce246fc402089c52b577098804c2bfc0dee627ce382126eb2114f380521", func := "formulary/formularylaw15.ShapesArrays", spec := "shapesArrays", unfollowed := true, recurses := true, apart := false, narrowed := true }
def ShapesArraysUptoSaid : Prop := shapesArraysUptoRow.holds Try.pinned (OpenSpec.upto shapesArraysSpec)

/-- 'formularylaw15.ShapesStores', WHERE WHAT IT READS IS OF BULK AT MOST 1048576: true; the input reads as it did. -/
def shapesStoresUptoRow : OpenClaim := { program := "ytoelcmbacfhdnaa", sum := "a5cbcce246fc402089c52b577098804c2bfc0dee627ce382126eb2114f380521", func := "formulary/formularylaw15.ShapesStores", spec := "shapesStores", unfollowed := true, recurses := true, apart := false, narrowed := true }
def ShapesStoresUptoSaid : Prop := shapesStoresUptoRow.holds Try.pinned (OpenSpec.upto shapesStoresSpec)

/-- 'formularylaw15.ShapesPacks', WHERE WHAT IT READS IS OF BULK AT MOST 1048576: true; the input reads as it did. -/
def shapesPacksUptoRow : OpenClaim := { program := "ytoelcmbacfhdnaa", sum := "a5cbcce246fc402089c52b577098804c2bfc0dee627ce382126eb2114f380521", func := "formulary/formularylaw15.ShapesPacks", spec := "shapesPacks", unfollowed := true, recurses := true, apart := false, narrowed := true }
def ShapesPacksUptoSaid : Prop := shapesPacksUptoRow.holds Try.pinned (OpenSpec.upto shapesPacksSpec)

/-- 'formularylaw15.ShapesReduces', WHERE WHAT IT READS IS OF BULK AT MOST 1048576: true; the input reads as it did. -/
def shapesReducesUptoRow : OpenClaim := { program := "ytoelcmbacfhdnaa", sum := "a5cbcce246fc402089c52b577098804c2bfc0dee627ce382126eb2114f380521", func := "formulary/formularylaw15.ShapesReduces", spec := "shapesReduces", unfollowed := true, recurses := true, apart := false, narrowed := true }
def ShapesReducesUptoSaid : Prop := shapesReducesUptoRow.holds Try.pinned (OpenSpec.upto shapesReducesSpec)

/-- 'formularylaw15.ShapesSpreads', WHERE WHAT IT READS IS OF BULK AT MOST 1048576: true; the input reads as it did. -/
def shapesSpreadsUptoRow : OpenClaim := { program := "ytoelcmbacfhdnaa", sum := "a5cbcce246fc402089c52b577098804c2bfc0dee627ce382126eb2114f380521", func := "formulary/formularylaw15.ShapesSpreads", spec := "shapesSpreads", inPlace := ["slices.overlaps[int]"], unfollowed := true, recurses := true, apart := false, narrowed := true }
def ShapesSpreadsUptoSaid : Prop := shapesSpreadsUptoRow.holds Try.pinned (OpenSpec.upto shapesSpreadsSpec)

end Rows
end Go.Proofs.Ytoelcmbacfhdnaa
