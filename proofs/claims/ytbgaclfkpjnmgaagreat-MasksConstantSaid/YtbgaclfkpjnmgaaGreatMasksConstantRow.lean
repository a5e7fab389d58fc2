/- The statement MasksConstant holds: for every input the law answers true, and leaves its arguments as they were. -/
import Derived.Test.YtbgaclfkpjnmgaaGreatRows
import Derived.Test.YtbgaclfkpjnmgaaGreatMasksConstantWk3
import Derived.Test.YtbgaclfkpjnmgaaGreatMasksConstantLaw
set_option linter.all false
namespace Go.Sh
open Go.Lx
theorem aj.rd:Rd (.struct [.int .i64, .int .i64]) aj.d:=⟨fun x h=>by
 obtain ⟨cs,rfl,h0⟩:=qp h;obtain ⟨a0,_,rfl,h1⟩:=ig rdI h0;obtain ⟨a1,_,rfl,h2⟩:=ig rdI h1;obtain rfl:=zA h2;exact ⟨⟨a0,a1⟩,rfl⟩⟩
theorem ag.rd:Rd (.struct [.slice (.struct [.int .i64, .int .i64]), .slice (.int .i64)]) ag.d:=⟨fun x h=>by
 obtain ⟨cs,rfl,h0⟩:=qp h;obtain ⟨a0,_,rfl,h1⟩:=ig (rdL aj.rd) h0;obtain ⟨a1,_,rfl,h2⟩:=ig (rdL rdI) h1;obtain rfl:=zA h2;exact ⟨⟨a0,a1⟩,rfl⟩⟩
theorem au.rd:Rd (.struct [.int .i64, .int .i64, .int .i64, .int .i64, .slice (.int .i64)]) au.d:=⟨fun x h=>by
 obtain ⟨cs,rfl,h0⟩:=qp h;obtain ⟨a0,_,rfl,h1⟩:=ig rdI h0;obtain ⟨a1,_,rfl,h2⟩:=ig rdI h1;obtain ⟨a2,_,rfl,h3⟩:=ig rdI h2;obtain ⟨a3,_,rfl,h4⟩:=ig rdI h3;obtain ⟨a4,_,rfl,h5⟩:=ig (rdL rdI) h4;obtain rfl:=zA h5;exact ⟨⟨a0,a1,a2,a3,a4⟩,rfl⟩⟩
theorem aO.rd:Rd (.struct [.slice (.int .i64), .int .i64]) aO.d:=⟨fun x h=>by
 obtain ⟨cs,rfl,h0⟩:=qp h;obtain ⟨a0,_,rfl,h1⟩:=ig (rdL rdI) h0;obtain ⟨a1,_,rfl,h2⟩:=ig rdI h1;obtain rfl:=zA h2;exact ⟨⟨a0,a1⟩,rfl⟩⟩
theorem ae.rd:Rd (.struct [.int .i64, .int .i64, .int .i64, .int .i64, .int .i64, .slice (.struct [.int .i64, .int .i64, .int .i64, .int .i64, .slice (.int .i64)]), .slice (.struct [.slice (.int .i64), .int .i64])]) ae.d:=⟨fun x h=>by
 obtain ⟨cs,rfl,h0⟩:=qp h;obtain ⟨a0,_,rfl,h1⟩:=ig rdI h0;obtain ⟨a1,_,rfl,h2⟩:=ig rdI h1;obtain ⟨a2,_,rfl,h3⟩:=ig rdI h2;obtain ⟨a3,_,rfl,h4⟩:=ig rdI h3;obtain ⟨a4,_,rfl,h5⟩:=ig rdI h4;obtain ⟨a5,_,rfl,h6⟩:=ig (rdL au.rd) h5;obtain ⟨a6,_,rfl,h7⟩:=ig (rdL aO.rd) h6;obtain rfl:=zA h7;exact ⟨⟨a0,a1,a2,a3,a4,a5,a6⟩,rfl⟩⟩
theorem ai.rd:Rd (.struct [.int .i64, .slice (.struct [.int .i64, .int .i64, .int .i64, .int .i64, .slice (.int .i64)]), .slice (.struct [.int .i64, .int .i64, .int .i64, .int .i64, .int .i64, .slice (.struct [.int .i64, .int .i64, .int .i64, .int .i64, .slice (.int .i64)]), .slice (.struct [.slice (.int .i64), .int .i64])]), .slice (.struct [.int .i64, .int .i64, .int .i64, .int .i64, .int .i64, .slice (.struct [.int .i64, .int .i64, .int .i64, .int .i64, .slice (.int .i64)]), .slice (.struct [.slice (.int .i64), .int .i64])]), .slice (.struct [.int .i64, .int .i64, .int .i64, .int .i64, .int .i64, .slice (.struct [.int .i64, .int .i64, .int .i64, .int .i64, .slice (.int .i64)]), .slice (.struct [.slice (.int .i64), .int .i64])])]) ai.d:=⟨fun x h=>by
 obtain ⟨cs,rfl,h0⟩:=qp h;obtain ⟨a0,_,rfl,h1⟩:=ig rdI h0;obtain ⟨a1,_,rfl,h2⟩:=ig (rdL au.rd) h1;obtain ⟨a2,_,rfl,h3⟩:=ig (rdL ae.rd) h2;obtain ⟨a3,_,rfl,h4⟩:=ig (rdL ae.rd) h3;obtain ⟨a4,_,rfl,h5⟩:=ig (rdL ae.rd) h4;obtain rfl:=zA h5;exact ⟨⟨a0,a1,a2,a3,a4⟩,rfl⟩⟩
end Go.Sh
namespace Go.Proofs.YtbgaclfkpjnmgaaGreat.MasksConstant
open Go.ChangeShapes Go.WideShapes Go.ChangeAt Go.RowKit Go.Lx Go.Sh
theorem own:ownKnob Tryz.prog.godebug=none:=by kernel_rfl
theorem laidOut:laidOutB Tryz.prog=true:=by kernel_rfl
def ks:List Kd:=[.slice (.struct [.slice (.struct [.int .i64, .int .i64]), .slice (.int .i64)]), .struct [.int .i64, .slice (.struct [.int .i64, .int .i64, .int .i64, .int .i64, .slice (.int .i64)]), .slice (.struct [.int .i64, .int .i64, .int .i64, .int .i64, .int .i64, .slice (.struct [.int .i64, .int .i64, .int .i64, .int .i64, .slice (.int .i64)]), .slice (.struct [.slice (.int .i64), .int .i64])]), .slice (.struct [.int .i64, .int .i64, .int .i64, .int .i64, .int .i64, .slice (.struct [.int .i64, .int .i64, .int .i64, .int .i64, .slice (.int .i64)]), .slice (.struct [.slice (.int .i64), .int .i64])]), .slice (.struct [.int .i64, .int .i64, .int .i64, .int .i64, .int .i64, .slice (.struct [.int .i64, .int .i64, .int .i64, .int .i64, .slice (.int .i64)]), .slice (.struct [.slice (.int .i64), .int .i64])])], .slice (.struct [.int .i64, .int .i64, .int .i64, .int .i64, .int .i64, .slice (.struct [.int .i64, .int .i64, .int .i64, .int .i64, .slice (.int .i64)]), .slice (.struct [.slice (.int .i64), .int .i64])])]
theorem VT:∀ xs,Kd.Each ks xs→bH Tryz.prog 5 (xs.map .d) [] ⟨.d (.bool true),[]⟩:=fun xs h0=>by
 obtain ⟨p0,_,rfl,h1⟩:=DL (rdL ag.rd) h0;obtain ⟨p1,_,rfl,h2⟩:=DL ai.rd h1;obtain ⟨p2,_,rfl,h3⟩:=DL (rdL ae.rd) h2;obtain rfl:=Rf h3;exact uJ (zh p0 p1 p2)
set_option maxRecDepth 100000 in
theorem lifted (os:Os) (started:os.Started) (H:Type) (enc:TypeId×Value→H) :
  ReturnsInHanded {} Tryz.checked os 5 .any (Rows.masksConstantSpec.pre6 enc Tryz.prog Tryz.f5 Rows.masksConstantRow.domain false) (Rows.masksConstantSpec.post enc Tryz.prog Tryz.f5 false true false false):=by
 refine returnsInHanded_of_change_sized (C:=Tryz.checked) own started (by kernel_rfl) Tryz.func5
  (ChangeSpec.witness6 (enc:=enc) (C:=Tryz.checked) false ⟨#[],#[.slice none 0 0, .agg #[.int .i64 0, .slice none 0 0, .slice none 0 0, .slice none 0 0, .slice none 0 0], .slice none 0 0],[]⟩ 8 (by kernel_rfl) (by kernel_rfl) (by kernel_rfl) (by kernel_rfl)) ?_
 intro W base args ds gs before hval hW _ _ _;exact Iu (b:=4) laidOut (ks:=ks) (by kernel_rfl) (by kernel_rfl) (by kernel_rfl) (by kernel_rfl) rfl (fun ds hds=>by
  match ds,hds with
  | [_,_,_],_=>rfl) VT W base args ds gs before hval hW
theorem over:Rows.masksConstantRow.holds Tryz.pinned (OpenSpec.ofChange Rows.masksConstantSpec) :=
 OpenClaim.holds_of_wide 5 Tryz.f5 rfl rfl rfl rfl rfl rfl rfl ⟨rfl,rfl,rfl,rfl,rfl⟩ rfl rfl rfl rfl rfl (by kernel_rfl) Tryz.func5 (by kernel_rfl)
  (of_decide_eq_true (by kernel_rfl)) (by unfold Func.isWrapper;first | (rw [if_pos (by decide +kernel)];kernel_rfl) | (rw [if_neg (by decide +kernel)];exact ⟨rfl,rfl⟩))
  (fun os started H enc _=>lifted os started H enc)
theorem proved:Rows.MasksConstantSaid:=over
end Go.Proofs.YtbgaclfkpjnmgaaGreat.MasksConstant
