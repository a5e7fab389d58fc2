/- The statement MasksValues holds: for every input the law answers true, and leaves its arguments as they were. -/
import Derived.Test.YtbgaclfkpjnmgaaGreatRows
import Derived.Test.YtbgaclfkpjnmgaaGreatMasksValuesWk3
import Derived.Test.YtbgaclfkpjnmgaaGreatMasksValuesLaw
set_option linter.all false
namespace Go.Sh
open Go.Lx
theorem ai.rd:Rd (.struct [.int .i64, .int .i64]) ai.d:=⟨fun x h=>by
 obtain ⟨cs,rfl,h0⟩:=rM h;obtain ⟨a0,_,rfl,h1⟩:=jo rdI h0;obtain ⟨a1,_,rfl,h2⟩:=jo rdI h1;obtain rfl:=DV h2;exact ⟨⟨a0,a1⟩,rfl⟩⟩
theorem ag.rd:Rd (.struct [.slice (.struct [.int .i64, .int .i64]), .slice (.int .i64)]) ag.d:=⟨fun x h=>by
 obtain ⟨cs,rfl,h0⟩:=rM h;obtain ⟨a0,_,rfl,h1⟩:=jo (rdL ai.rd) h0;obtain ⟨a1,_,rfl,h2⟩:=jo (rdL rdI) h1;obtain rfl:=DV h2;exact ⟨⟨a0,a1⟩,rfl⟩⟩
theorem aj.rd:Rd (.struct [.int .i64, .int .i64, .int .i64, .int .i64, .slice (.int .i64)]) aj.d:=⟨fun x h=>by
 obtain ⟨cs,rfl,h0⟩:=rM h;obtain ⟨a0,_,rfl,h1⟩:=jo rdI h0;obtain ⟨a1,_,rfl,h2⟩:=jo rdI h1;obtain ⟨a2,_,rfl,h3⟩:=jo rdI h2;obtain ⟨a3,_,rfl,h4⟩:=jo rdI h3;obtain ⟨a4,_,rfl,h5⟩:=jo (rdL rdI) h4;obtain rfl:=DV h5;exact ⟨⟨a0,a1,a2,a3,a4⟩,rfl⟩⟩
theorem aN.rd:Rd (.struct [.slice (.int .i64), .int .i64]) aN.d:=⟨fun x h=>by
 obtain ⟨cs,rfl,h0⟩:=rM h;obtain ⟨a0,_,rfl,h1⟩:=jo (rdL rdI) h0;obtain ⟨a1,_,rfl,h2⟩:=jo rdI h1;obtain rfl:=DV h2;exact ⟨⟨a0,a1⟩,rfl⟩⟩
theorem ae.rd:Rd (.struct [.int .i64, .int .i64, .int .i64, .int .i64, .int .i64, .slice (.struct [.int .i64, .int .i64, .int .i64, .int .i64, .slice (.int .i64)]), .slice (.struct [.slice (.int .i64), .int .i64])]) ae.d:=⟨fun x h=>by
 obtain ⟨cs,rfl,h0⟩:=rM h;obtain ⟨a0,_,rfl,h1⟩:=jo rdI h0;obtain ⟨a1,_,rfl,h2⟩:=jo rdI h1;obtain ⟨a2,_,rfl,h3⟩:=jo rdI h2;obtain ⟨a3,_,rfl,h4⟩:=jo rdI h3;obtain ⟨a4,_,rfl,h5⟩:=jo rdI h4;obtain ⟨a5,_,rfl,h6⟩:=jo (rdL aj.rd) h5;obtain ⟨a6,_,rfl,h7⟩:=jo (rdL aN.rd) h6;obtain rfl:=DV h7;exact ⟨⟨a0,a1,a2,a3,a4,a5,a6⟩,rfl⟩⟩
end Go.Sh
namespace Go.Proofs.YtbgaclfkpjnmgaaGreat.MasksValues
open Go.ChangeShapes Go.WideShapes Go.ChangeAt Go.RowKit Go.Lx Go.Sh
theorem own:ownKnob Tryz.prog.godebug=none:=by kernel_rfl
theorem laidOut:laidOutB Tryz.prog=true:=by kernel_rfl
def ks:List Kd:=[.slice (.struct [.slice (.struct [.int .i64, .int .i64]), .slice (.int .i64)]), .slice (.struct [.int .i64, .int .i64, .int .i64, .int .i64, .int .i64, .slice (.struct [.int .i64, .int .i64, .int .i64, .int .i64, .slice (.int .i64)]), .slice (.struct [.slice (.int .i64), .int .i64])])]
theorem VE:∀ xs,Kd.Each ks xs→bF Tryz.prog 9 (xs.map .d) [] ⟨.d (.bool true),[]⟩:=fun xs h0=>by
 obtain ⟨p0,_,rfl,h1⟩:=Ib (rdL ag.rd) h0;obtain ⟨p1,_,rfl,h2⟩:=Ib (rdL ae.rd) h1;obtain rfl:=Qm h2;exact wH (AV p0 p1)
set_option maxRecDepth 100000 in
theorem lifted (os:Os) (started:os.Started) (H:Type) (enc:TypeId×Value→H) :
  ReturnsInHanded {} Tryz.checked os 9 .any (Rows.masksValuesSpec.pre6 enc Tryz.prog Tryz.f9 Rows.masksValuesRow.domain false) (Rows.masksValuesSpec.post enc Tryz.prog Tryz.f9 false true false false):=by
 refine returnsInHanded_of_change_sized (C:=Tryz.checked) own started (by kernel_rfl) Tryz.func9
  (ChangeSpec.witness6 (enc:=enc) (C:=Tryz.checked) false ⟨#[],#[.slice none 0 0, .slice none 0 0],[]⟩ 8 (by kernel_rfl) (by kernel_rfl) (by kernel_rfl) (by kernel_rfl)) ?_
 intro W base args ds gs before hval hW _ _ _;exact IK (b:=4) laidOut (ks:=ks) (by kernel_rfl) (by kernel_rfl) (by kernel_rfl) (by kernel_rfl) rfl (fun ds hds=>by
  match ds,hds with
  | [_,_],_=>rfl) VE W base args ds gs before hval hW
theorem over:Rows.masksValuesRow.holds Tryz.pinned (OpenSpec.ofChange Rows.masksValuesSpec) :=
 OpenClaim.holds_of_wide 9 Tryz.f9 rfl rfl rfl rfl rfl rfl rfl ⟨rfl,rfl,rfl,rfl,rfl⟩ rfl rfl rfl rfl rfl (by kernel_rfl) Tryz.func9 (by kernel_rfl)
  (of_decide_eq_true (by kernel_rfl)) (by unfold Func.isWrapper;first | (rw [if_pos (by decide +kernel)];kernel_rfl) | (rw [if_neg (by decide +kernel)];exact ⟨rfl,rfl⟩))
  (fun os started H enc _=>lifted os started H enc)
theorem proved:Rows.MasksValuesSaid:=over
end Go.Proofs.YtbgaclfkpjnmgaaGreat.MasksValues
