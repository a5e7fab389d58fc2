/- The statement DependSystems holds: for every input the law answers true, and leaves its arguments as they were. -/
import Derived.Test.YtiidkobbkanciaaGreatRows
import Derived.Test.YtiidkobbkanciaaGreatDependSystemsWk3
import Derived.Test.YtiidkobbkanciaaGreatDependSystemsLaw
set_option linter.all false
namespace Go.Sh
open Go.Lx
theorem ah.rd:Rd (.struct [.slice (.int .i64), .int .i64]) ah.d:=⟨fun x h=>by
 obtain ⟨cs,rfl,h0⟩:=zM h;obtain ⟨a0,_,rfl,h1⟩:=tZ (rdL rdI) h0;obtain ⟨a1,_,rfl,h2⟩:=tZ rdI h1;obtain rfl:=Iz h2;exact ⟨⟨a0,a1⟩,rfl⟩⟩
theorem au.rd:Rd (.struct [.struct [.slice (.int .i64), .int .i64], .struct [.slice (.int .i64), .int .i64]]) au.d:=⟨fun x h=>by
 obtain ⟨cs,rfl,h0⟩:=zM h;obtain ⟨a0,_,rfl,h1⟩:=tZ ah.rd h0;obtain ⟨a1,_,rfl,h2⟩:=tZ ah.rd h1;obtain rfl:=Iz h2;exact ⟨⟨a0,a1⟩,rfl⟩⟩
theorem ai.rd:Rd (.struct [.int .i64, .slice (.struct [.slice (.int .i64), .int .i64]), .bool]) ai.d:=⟨fun x h=>by
 obtain ⟨cs,rfl,h0⟩:=zM h;obtain ⟨a0,_,rfl,h1⟩:=tZ rdI h0;obtain ⟨a1,_,rfl,h2⟩:=tZ (rdL ah.rd) h1;obtain ⟨a2,_,rfl,h3⟩:=tZ rdB h2;obtain rfl:=Iz h3;exact ⟨⟨a0,a1,a2⟩,rfl⟩⟩
theorem aT.rd:Rd (.struct [.int .i64, .int .i64, .slice (.int .i64)]) aT.d:=⟨fun x h=>by
 obtain ⟨cs,rfl,h0⟩:=zM h;obtain ⟨a0,_,rfl,h1⟩:=tZ rdI h0;obtain ⟨a1,_,rfl,h2⟩:=tZ rdI h1;obtain ⟨a2,_,rfl,h3⟩:=tZ (rdL rdI) h2;obtain rfl:=Iz h3;exact ⟨⟨a0,a1,a2⟩,rfl⟩⟩
end Go.Sh
namespace Go.Proofs.YtiidkobbkanciaaGreat.DependSystems
open Go.ChangeShapes Go.WideShapes Go.ChangeAt Go.RowKit Go.Lx Go.Sh
theorem own:ownKnob Tryz.prog.godebug=none:=by kernel_rfl
theorem laidOut:laidOutB Tryz.prog=true:=by kernel_rfl
def ks:List Kd:=[.slice (.struct [.struct [.slice (.int .i64), .int .i64], .struct [.slice (.int .i64), .int .i64]]), .slice (.struct [.int .i64, .slice (.struct [.slice (.int .i64), .int .i64]), .bool]), .struct [.int .i64, .int .i64, .slice (.int .i64)]]
theorem U4:∀ xs,Kd.Each ks xs→bU Tryz.prog 9 (xs.map .d) [] ⟨.d (.bool true),[]⟩:=fun xs h0=>by
 obtain ⟨p0,_,rfl,h1⟩:=EQ (rdL au.rd) h0;obtain ⟨p1,_,rfl,h2⟩:=EQ (rdL ai.rd) h1;obtain ⟨p2,_,rfl,h3⟩:=EQ aT.rd h2;obtain rfl:=QA h3;exact yR (Bh p0 p1 p2)
set_option maxRecDepth 100000 in
theorem lifted (os:Os) (started:os.Started) (H:Type) (enc:TypeId×Value→H) :
  ReturnsInHanded {} Tryz.checked os 9 .any (Rows.dependSystemsSpec.pre6 enc Tryz.prog Tryz.f9 Rows.dependSystemsRow.domain false) (Rows.dependSystemsSpec.post enc Tryz.prog Tryz.f9 false true false false):=by
 refine returnsInHanded_of_change_sized (C:=Tryz.checked) own started (by kernel_rfl) Tryz.func9
  (ChangeSpec.witness6 (enc:=enc) (C:=Tryz.checked) false ⟨#[],#[.slice none 0 0, .slice none 0 0, .agg #[.int .i64 0, .int .i64 0, .slice none 0 0]],[]⟩ 8 (by kernel_rfl) (by kernel_rfl) (by kernel_rfl) (by kernel_rfl)) ?_
 intro W base args ds gs before hval hW _ _ _;exact J4 (b:=4) laidOut (ks:=ks) (by kernel_rfl) (by kernel_rfl) (by kernel_rfl) (by kernel_rfl) rfl (fun ds hds=>by
  match ds,hds with
  | [_,_,_],_=>rfl) U4 W base args ds gs before hval hW
theorem over:Rows.dependSystemsRow.holds Tryz.pinned (OpenSpec.ofChange Rows.dependSystemsSpec) :=
 OpenClaim.holds_of_wide 9 Tryz.f9 rfl rfl rfl rfl rfl rfl rfl ⟨rfl,rfl,rfl,rfl,rfl⟩ rfl rfl rfl rfl rfl (by kernel_rfl) Tryz.func9 (by kernel_rfl)
  (of_decide_eq_true (by kernel_rfl)) (by unfold Func.isWrapper;first | (rw [if_pos (by decide +kernel)];kernel_rfl) | (rw [if_neg (by decide +kernel)];exact ⟨rfl,rfl⟩))
  (fun os started H enc _=>lifted os started H enc)
theorem proved:Rows.DependSystemsSaid:=over
end Go.Proofs.YtiidkobbkanciaaGreat.DependSystems
