/- The statement DependProofs holds: for every input the law answers true, and leaves its arguments as they were. -/
import Derived.Test.YtiidkobbkanciaaGreatRows
import Derived.Test.YtiidkobbkanciaaGreatDependProofsWk3
import Derived.Test.YtiidkobbkanciaaGreatDependProofsLaw
set_option linter.all false
namespace Go.Sh
open Go.Lx
theorem api_LinRow.rd : Rd (.struct [.slice (.int .i64), .int .i64, .bool]) api_LinRow.d := ⟨fun x h => by
 obtain ⟨cs, rfl, h0⟩ := has_struct h;obtain ⟨a0, _, rfl, h1⟩ := has_cons (rdL rdI) h0;obtain ⟨a1, _, rfl, h2⟩ := has_cons rdI h1;obtain ⟨a2, _, rfl, h3⟩ := has_cons rdB h2;obtain rfl := has_nil h3;exact ⟨⟨a0, a1, a2⟩, rfl⟩⟩
theorem api_LinSystem.rd : Rd (.struct [.int .i64, .slice (.struct [.slice (.int .i64), .int .i64, .bool])]) api_LinSystem.d := ⟨fun x h => by
 obtain ⟨cs, rfl, h0⟩ := has_struct h;obtain ⟨a0, _, rfl, h1⟩ := has_cons rdI h0;obtain ⟨a1, _, rfl, h2⟩ := has_cons (rdL api_LinRow.rd) h1;obtain rfl := has_nil h2;exact ⟨⟨a0, a1⟩, rfl⟩⟩
theorem api_LinNode.rd : Rd (.struct [.int .i64, .slice (.int .i64), .int .i64, .int .i64, .int .i64, .int .i64, .int .i64]) api_LinNode.d := ⟨fun x h => by
 obtain ⟨cs, rfl, h0⟩ := has_struct h;obtain ⟨a0, _, rfl, h1⟩ := has_cons rdI h0;obtain ⟨a1, _, rfl, h2⟩ := has_cons (rdL rdI) h1;obtain ⟨a2, _, rfl, h3⟩ := has_cons rdI h2;obtain ⟨a3, _, rfl, h4⟩ := has_cons rdI h3;obtain ⟨a4, _, rfl, h5⟩ := has_cons rdI h4;obtain ⟨a5, _, rfl, h6⟩ := has_cons rdI h5;obtain ⟨a6, _, rfl, h7⟩ := has_cons rdI h6;obtain rfl := has_nil h7;exact ⟨⟨a0, a1, a2, a3, a4, a5, a6⟩, rfl⟩⟩
end Go.Sh
namespace Go.Proofs.YtiidkobbkanciaaGreat.DependProofs
open Go.ChangeShapes Go.WideShapes Go.ChangeAt Go.RowKit Go.Lx Go.Sh
theorem own : ownKnob Tryz.prog.godebug = none := by kernel_rfl
theorem laidOut : laidOutB Tryz.prog = true := by kernel_rfl
def ks : List Kd := [.struct [.int .i64, .slice (.struct [.slice (.int .i64), .int .i64, .bool])], .slice (.struct [.int .i64, .slice (.int .i64), .int .i64, .int .i64, .int .i64, .int .i64, .int .i64]), .slice (.int .i64)]
theorem fn_ok : ∀ xs, Kd.Each ks xs → FunOk Tryz.prog 6 (xs.map .d) [] ⟨.d (.bool true), []⟩ := fun xs h0 => by
 obtain ⟨p0, _, rfl, h1⟩ := each_cons api_LinSystem.rd h0;obtain ⟨p1, _, rfl, h2⟩ := each_cons (rdL api_LinNode.rd) h1;obtain ⟨p2, _, rfl, h3⟩ := each_cons (rdL rdI) h2;obtain rfl := each_nil h3;exact law27_DependProofs_ok (DependProofs_true p0 p1 p2)
set_option maxRecDepth 100000 in
theorem lifted (os : Os) (started : os.Started) (H : Type) (enc : TypeId × Value → H) :
  ReturnsInHanded {} Tryz.checked os 6 .any (Rows.dependProofsSpec.pre6 enc Tryz.prog Tryz.f6 Rows.dependProofsRow.domain false) (Rows.dependProofsSpec.post enc Tryz.prog Tryz.f6 false true false false) := by
 refine returnsInHanded_of_change_sized (C := Tryz.checked) own started (by kernel_rfl) Tryz.func6
  (ChangeSpec.witness6 (enc := enc) (C := Tryz.checked) false ⟨#[], #[.agg #[.int .i64 0, .slice none 0 0], .slice none 0 0, .slice none 0 0], []⟩ 8 (by kernel_rfl) (by kernel_rfl) (by kernel_rfl) (by kernel_rfl)) ?_
 intro W base args ds gs before hval hW _ _ _;exact row_contract (b := 4) laidOut (ks := ks) (by kernel_rfl) (by kernel_rfl) (by kernel_rfl) (by kernel_rfl) rfl (fun ds hds => by
  match ds, hds with
  | [_, _, _], _ => rfl) fn_ok W base args ds gs before hval hW
theorem over : Rows.dependProofsRow.holds Tryz.pinned (OpenSpec.ofChange Rows.dependProofsSpec) :=
 OpenClaim.holds_of_wide 6 Tryz.f6 rfl rfl rfl rfl rfl rfl rfl ⟨rfl, rfl, rfl, rfl, rfl⟩ rfl rfl rfl rfl rfl (by kernel_rfl) Tryz.func6 (by kernel_rfl)
  (of_decide_eq_true (by kernel_rfl)) (by unfold Func.isWrapper; first | (rw [if_pos (by decide +kernel)]; kernel_rfl) | (rw [if_neg (by decide +kernel)]; exact ⟨rfl, rfl⟩))
  (fun os started H enc _ => lifted os started H enc)
theorem proved : Rows.DependProofsSaid := over
end Go.Proofs.YtiidkobbkanciaaGreat.DependProofs
