/- The statement ShapesBack holds: for every input the law answers true, and leaves its arguments as they were. -/
import Derived.Test.YtndpfldakcdbiaaRows
import Derived.Test.YtndpfldakcdbiaaShapesBackWk2
import Derived.Test.YtndpfldakcdbiaaShapesBackLaw
set_option linter.all false
namespace Go.Sh
open Go.Lx
theorem api_Bound.rd : Rd (.struct [.int .i64, .int .i64]) api_Bound.d := ⟨fun x h => by
  obtain ⟨cs, rfl, h0⟩ := has_struct h
  obtain ⟨a0, _, rfl, h1⟩ := has_cons rdI h0
  obtain ⟨a1, _, rfl, h2⟩ := has_cons rdI h1
  obtain rfl := has_nil h2
  exact ⟨⟨a0, a1⟩, rfl⟩⟩
theorem api_Array.rd : Rd (.struct [.slice (.struct [.int .i64, .int .i64]), .slice (.int .i64)]) api_Array.d := ⟨fun x h => by
  obtain ⟨cs, rfl, h0⟩ := has_struct h
  obtain ⟨a0, _, rfl, h1⟩ := has_cons (rdL api_Bound.rd) h0
  obtain ⟨a1, _, rfl, h2⟩ := has_cons (rdL rdI) h1
  obtain rfl := has_nil h2
  exact ⟨⟨a0, a1⟩, rfl⟩⟩
end Go.Sh
namespace Go.Proofs.Ytndpfldakcdbiaa.ShapesBack
open Go.ChangeShapes Go.WideShapes Go.ChangeAt Go.RowKit Go.Lx Go.Sh
theorem own : ownKnob Try.prog.godebug = none := by kernel_rfl
theorem laidOut : laidOutB Try.prog = true := by kernel_rfl
def ks : List Kd := [.struct [.slice (.struct [.int .i64, .int .i64]), .slice (.int .i64)], .int .i64, .int .i64]
theorem fn_ok : ∀ xs, Kd.Each ks xs → FunOk Try.prog 4 (xs.map .d) [] ⟨.d (.bool true), []⟩ := fun xs h0 => by
  obtain ⟨p0, _, rfl, h1⟩ := each_cons api_Array.rd h0
  obtain ⟨p1, _, rfl, h2⟩ := each_cons rdI h1
  obtain ⟨p2, _, rfl, h3⟩ := each_cons rdI h2
  obtain rfl := each_nil h3
  exact law15_ShapesBack_ok (ShapesBack_true p0 p1 p2)
set_option maxRecDepth 100000 in
theorem lifted (os : Os) (started : os.Started) (H : Type) (enc : TypeId × Value → H) :
    ReturnsInHanded {} Try.checked os 4 .any (Rows.shapesBackSpec.pre6 enc Try.prog Try.f4 Rows.shapesBackRow.domain false) (Rows.shapesBackSpec.post enc Try.prog Try.f4 false true false false) := by
  refine returnsInHanded_of_change_sized (C := Try.checked) own started (by kernel_rfl) Try.func4
    (ChangeSpec.witness6 (enc := enc) (C := Try.checked) false ⟨#[], #[.agg #[.slice none 0 0, .slice none 0 0], .int .i64 0, .int .i64 0], []⟩ 8 (by kernel_rfl) (by kernel_rfl) (by kernel_rfl) (by kernel_rfl)) ?_
  intro W base args ds gs before hval hW _ _ _
  exact row_contract (b := 4) laidOut (ks := ks) (by kernel_rfl) (by kernel_rfl) (by kernel_rfl) (by kernel_rfl) rfl (fun ds hds => by
    match ds, hds with
    | [_, _, _], _ => rfl) fn_ok W base args ds gs before hval hW
theorem over : Rows.shapesBackRow.holds Try.pinned (OpenSpec.ofChange Rows.shapesBackSpec) :=
  OpenClaim.holds_of_wide 4 Try.f4 rfl rfl rfl rfl rfl rfl rfl ⟨rfl, rfl, rfl, rfl, rfl⟩ rfl rfl rfl rfl rfl (by kernel_rfl) Try.func4 (by kernel_rfl)
    (of_decide_eq_true (by kernel_rfl)) (by unfold Func.isWrapper; first | (rw [if_pos (by decide +kernel)]; kernel_rfl) | (rw [if_neg (by decide +kernel)]; exact ⟨rfl, rfl⟩))
    (fun os started H enc _ => lifted os started H enc)
theorem proved : Rows.ShapesBackSaid := over
end Go.Proofs.Ytndpfldakcdbiaa.ShapesBack
