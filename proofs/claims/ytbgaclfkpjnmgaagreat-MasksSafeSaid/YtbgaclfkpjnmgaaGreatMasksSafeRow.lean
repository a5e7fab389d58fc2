/- The statement MasksSafe holds: for every input the law answers true, and leaves its arguments as they were. -/
import Derived.Test.YtbgaclfkpjnmgaaGreatRows
import Derived.Test.YtbgaclfkpjnmgaaGreatMasksSafeWk3
import Derived.Test.YtbgaclfkpjnmgaaGreatMasksSafeLaw
set_option linter.all false
namespace Go.Sh
open Go.Lx
theorem ai.rd:Rd (.struct [.int .i64, .int .i64]) ai.d:=⟨fun x h=>by
 obtain ⟨cs,rfl,h0⟩:=vI h;obtain ⟨a0,_,rfl,h1⟩:=kP rdI h0;obtain ⟨a1,_,rfl,h2⟩:=kP rdI h1;obtain rfl:=DJ h2;exact ⟨⟨a0,a1⟩,rfl⟩⟩
theorem ag.rd:Rd (.struct [.slice (.struct [.int .i64, .int .i64]), .slice (.int .i64)]) ag.d:=⟨fun x h=>by
 obtain ⟨cs,rfl,h0⟩:=vI h;obtain ⟨a0,_,rfl,h1⟩:=kP (rdL ai.rd) h0;obtain ⟨a1,_,rfl,h2⟩:=kP (rdL rdI) h1;obtain rfl:=DJ h2;exact ⟨⟨a0,a1⟩,rfl⟩⟩
theorem az.rd:Rd (.struct [.int .i64, .int .i64, .int .i64, .int .i64, .slice (.int .i64)]) az.d:=⟨fun x h=>by
 obtain ⟨cs,rfl,h0⟩:=vI h;obtain ⟨a0,_,rfl,h1⟩:=kP rdI h0;obtain ⟨a1,_,rfl,h2⟩:=kP rdI h1;obtain ⟨a2,_,rfl,h3⟩:=kP rdI h2;obtain ⟨a3,_,rfl,h4⟩:=kP rdI h3;obtain ⟨a4,_,rfl,h5⟩:=kP (rdL rdI) h4;obtain rfl:=DJ h5;exact ⟨⟨a0,a1,a2,a3,a4⟩,rfl⟩⟩
theorem bH.rd:Rd (.struct [.slice (.int .i64), .int .i64]) bH.d:=⟨fun x h=>by
 obtain ⟨cs,rfl,h0⟩:=vI h;obtain ⟨a0,_,rfl,h1⟩:=kP (rdL rdI) h0;obtain ⟨a1,_,rfl,h2⟩:=kP rdI h1;obtain rfl:=DJ h2;exact ⟨⟨a0,a1⟩,rfl⟩⟩
theorem ah.rd:Rd (.struct [.int .i64, .int .i64, .int .i64, .int .i64, .int .i64, .slice (.struct [.int .i64, .int .i64, .int .i64, .int .i64, .slice (.int .i64)]), .slice (.struct [.slice (.int .i64), .int .i64])]) ah.d:=⟨fun x h=>by
 obtain ⟨cs,rfl,h0⟩:=vI h;obtain ⟨a0,_,rfl,h1⟩:=kP rdI h0;obtain ⟨a1,_,rfl,h2⟩:=kP rdI h1;obtain ⟨a2,_,rfl,h3⟩:=kP rdI h2;obtain ⟨a3,_,rfl,h4⟩:=kP rdI h3;obtain ⟨a4,_,rfl,h5⟩:=kP rdI h4;obtain ⟨a5,_,rfl,h6⟩:=kP (rdL az.rd) h5;obtain ⟨a6,_,rfl,h7⟩:=kP (rdL bH.rd) h6;obtain rfl:=DJ h7;exact ⟨⟨a0,a1,a2,a3,a4,a5,a6⟩,rfl⟩⟩
theorem aC.rd:Rd (.struct [.int .i64, .slice (.struct [.int .i64, .int .i64, .int .i64, .int .i64, .slice (.int .i64)]), .slice (.struct [.int .i64, .int .i64, .int .i64, .int .i64, .int .i64, .slice (.struct [.int .i64, .int .i64, .int .i64, .int .i64, .slice (.int .i64)]), .slice (.struct [.slice (.int .i64), .int .i64])]), .slice (.struct [.int .i64, .int .i64, .int .i64, .int .i64, .int .i64, .slice (.struct [.int .i64, .int .i64, .int .i64, .int .i64, .slice (.int .i64)]), .slice (.struct [.slice (.int .i64), .int .i64])]), .slice (.struct [.int .i64, .int .i64, .int .i64, .int .i64, .int .i64, .slice (.struct [.int .i64, .int .i64, .int .i64, .int .i64, .slice (.int .i64)]), .slice (.struct [.slice (.int .i64), .int .i64])])]) aC.d:=⟨fun x h=>by
 obtain ⟨cs,rfl,h0⟩:=vI h;obtain ⟨a0,_,rfl,h1⟩:=kP rdI h0;obtain ⟨a1,_,rfl,h2⟩:=kP (rdL az.rd) h1;obtain ⟨a2,_,rfl,h3⟩:=kP (rdL ah.rd) h2;obtain ⟨a3,_,rfl,h4⟩:=kP (rdL ah.rd) h3;obtain ⟨a4,_,rfl,h5⟩:=kP (rdL ah.rd) h4;obtain rfl:=DJ h5;exact ⟨⟨a0,a1,a2,a3,a4⟩,rfl⟩⟩
end Go.Sh
namespace Go.Proofs.YtbgaclfkpjnmgaaGreat.MasksSafe
open Go.ChangeShapes Go.WideShapes Go.ChangeAt Go.RowKit Go.Lx Go.Sh
theorem own:ownKnob Tryz.prog.godebug=none:=by kernel_rfl
theorem laidOut:laidOutB Tryz.prog=true:=by kernel_rfl
def ks:List Kd:=[.slice (.struct [.slice (.struct [.int .i64, .int .i64]), .slice (.int .i64)]), .struct [.int .i64, .slice (.struct [.int .i64, .int .i64, .int .i64, .int .i64, .slice (.int .i64)]), .slice (.struct [.int .i64, .int .i64, .int .i64, .int .i64, .int .i64, .slice (.struct [.int .i64, .int .i64, .int .i64, .int .i64, .slice (.int .i64)]), .slice (.struct [.slice (.int .i64), .int .i64])]), .slice (.struct [.int .i64, .int .i64, .int .i64, .int .i64, .int .i64, .slice (.struct [.int .i64, .int .i64, .int .i64, .int .i64, .slice (.int .i64)]), .slice (.struct [.slice (.int .i64), .int .i64])]), .slice (.struct [.int .i64, .int .i64, .int .i64, .int .i64, .int .i64, .slice (.struct [.int .i64, .int .i64, .int .i64, .int .i64, .slice (.int .i64)]), .slice (.struct [.slice (.int .i64), .int .i64])])], .slice (.int .i64)]
theorem Zv:∀ xs,Kd.Each ks xs→dU Tryz.prog 8 (xs.map .d) [] ⟨.d (.bool true),[]⟩:=fun xs h0=>by
 obtain ⟨p0,_,rfl,h1⟩:=Gm (rdL ag.rd) h0;obtain ⟨p1,_,rfl,h2⟩:=Gm aC.rd h1;obtain ⟨p2,_,rfl,h3⟩:=Gm (rdL rdI) h2;obtain rfl:=VK h3;exact CS (IJ p0 p1 p2)
set_option maxRecDepth 100000 in
theorem lifted (os:Os) (started:os.Started) (H:Type) (enc:TypeId×Value→H) :
  ReturnsInHanded {} Tryz.checked os 8 .any (Rows.masksSafeSpec.pre6 enc Tryz.prog Tryz.f8 Rows.masksSafeRow.domain false) (Rows.masksSafeSpec.post enc Tryz.prog Tryz.f8 false true false false):=by
 refine returnsInHanded_of_change_sized (C:=Tryz.checked) own started (by kernel_rfl) Tryz.func8
  (ChangeSpec.witness6 (enc:=enc) (C:=Tryz.checked) false ⟨#[],#[.slice none 0 0, .agg #[.int .i64 0, .slice none 0 0, .slice none 0 0, .slice none 0 0, .slice none 0 0], .slice none 0 0],[]⟩ 8 (by kernel_rfl) (by kernel_rfl) (by kernel_rfl) (by kernel_rfl)) ?_
 intro W base args ds gs before hval hW _ _ _;exact Nz (b:=4) laidOut (ks:=ks) (by kernel_rfl) (by kernel_rfl) (by kernel_rfl) (by kernel_rfl) rfl (fun ds hds=>by
  match ds,hds with
  | [_,_,_],_=>rfl) Zv W base args ds gs before hval hW
theorem over:Rows.masksSafeRow.holds Tryz.pinned (OpenSpec.ofChange Rows.masksSafeSpec) :=
 OpenClaim.holds_of_wide 8 Tryz.f8 rfl rfl rfl rfl rfl rfl rfl ⟨rfl,rfl,rfl,rfl,rfl⟩ rfl rfl rfl rfl rfl (by kernel_rfl) Tryz.func8 (by kernel_rfl)
  (of_decide_eq_true (by kernel_rfl)) (by unfold Func.isWrapper;first | (rw [if_pos (by decide +kernel)];kernel_rfl) | (rw [if_neg (by decide +kernel)];exact ⟨rfl,rfl⟩))
  (fun os started H enc _=>lifted os started H enc)
theorem proved:Rows.MasksSafeSaid:=over
end Go.Proofs.YtbgaclfkpjnmgaaGreat.MasksSafe
