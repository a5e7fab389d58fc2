/- The statement MasksConflicts holds: for every input the law answers true, and leaves its arguments as they were. -/
import Derived.Test.YtbgaclfkpjnmgaaGreatRows
import Derived.Test.YtbgaclfkpjnmgaaGreatMasksConflictsWk3
import Derived.Test.YtbgaclfkpjnmgaaGreatMasksConflictsLaw
set_option linter.all false
namespace Go.Sh
open Go.Lx
theorem ax.rd:Rd (.struct [.int .i64, .int .i64]) ax.d:=⟨fun x h=>by
 obtain ⟨cs,rfl,h0⟩:=wG h;obtain ⟨a0,_,rfl,h1⟩:=kV rdI h0;obtain ⟨a1,_,rfl,h2⟩:=kV rdI h1;obtain rfl:=Et h2;exact ⟨⟨a0,a1⟩,rfl⟩⟩
theorem ah.rd:Rd (.struct [.slice (.struct [.int .i64, .int .i64]), .slice (.int .i64)]) ah.d:=⟨fun x h=>by
 obtain ⟨cs,rfl,h0⟩:=wG h;obtain ⟨a0,_,rfl,h1⟩:=kV (rdL ax.rd) h0;obtain ⟨a1,_,rfl,h2⟩:=kV (rdL rdI) h1;obtain rfl:=Et h2;exact ⟨⟨a0,a1⟩,rfl⟩⟩
theorem az.rd:Rd (.struct [.int .i64, .int .i64, .int .i64, .int .i64, .slice (.int .i64)]) az.d:=⟨fun x h=>by
 obtain ⟨cs,rfl,h0⟩:=wG h;obtain ⟨a0,_,rfl,h1⟩:=kV rdI h0;obtain ⟨a1,_,rfl,h2⟩:=kV rdI h1;obtain ⟨a2,_,rfl,h3⟩:=kV rdI h2;obtain ⟨a3,_,rfl,h4⟩:=kV rdI h3;obtain ⟨a4,_,rfl,h5⟩:=kV (rdL rdI) h4;obtain rfl:=Et h5;exact ⟨⟨a0,a1,a2,a3,a4⟩,rfl⟩⟩
theorem bG.rd:Rd (.struct [.slice (.int .i64), .int .i64]) bG.d:=⟨fun x h=>by
 obtain ⟨cs,rfl,h0⟩:=wG h;obtain ⟨a0,_,rfl,h1⟩:=kV (rdL rdI) h0;obtain ⟨a1,_,rfl,h2⟩:=kV rdI h1;obtain rfl:=Et h2;exact ⟨⟨a0,a1⟩,rfl⟩⟩
theorem ag.rd:Rd (.struct [.int .i64, .int .i64, .int .i64, .int .i64, .int .i64, .slice (.struct [.int .i64, .int .i64, .int .i64, .int .i64, .slice (.int .i64)]), .slice (.struct [.slice (.int .i64), .int .i64])]) ag.d:=⟨fun x h=>by
 obtain ⟨cs,rfl,h0⟩:=wG h;obtain ⟨a0,_,rfl,h1⟩:=kV rdI h0;obtain ⟨a1,_,rfl,h2⟩:=kV rdI h1;obtain ⟨a2,_,rfl,h3⟩:=kV rdI h2;obtain ⟨a3,_,rfl,h4⟩:=kV rdI h3;obtain ⟨a4,_,rfl,h5⟩:=kV rdI h4;obtain ⟨a5,_,rfl,h6⟩:=kV (rdL az.rd) h5;obtain ⟨a6,_,rfl,h7⟩:=kV (rdL bG.rd) h6;obtain rfl:=Et h7;exact ⟨⟨a0,a1,a2,a3,a4,a5,a6⟩,rfl⟩⟩
theorem aC.rd:Rd (.struct [.int .i64, .slice (.struct [.int .i64, .int .i64, .int .i64, .int .i64, .slice (.int .i64)]), .slice (.struct [.int .i64, .int .i64, .int .i64, .int .i64, .int .i64, .slice (.struct [.int .i64, .int .i64, .int .i64, .int .i64, .slice (.int .i64)]), .slice (.struct [.slice (.int .i64), .int .i64])]), .slice (.struct [.int .i64, .int .i64, .int .i64, .int .i64, .int .i64, .slice (.struct [.int .i64, .int .i64, .int .i64, .int .i64, .slice (.int .i64)]), .slice (.struct [.slice (.int .i64), .int .i64])]), .slice (.struct [.int .i64, .int .i64, .int .i64, .int .i64, .int .i64, .slice (.struct [.int .i64, .int .i64, .int .i64, .int .i64, .slice (.int .i64)]), .slice (.struct [.slice (.int .i64), .int .i64])])]) aC.d:=⟨fun x h=>by
 obtain ⟨cs,rfl,h0⟩:=wG h;obtain ⟨a0,_,rfl,h1⟩:=kV rdI h0;obtain ⟨a1,_,rfl,h2⟩:=kV (rdL az.rd) h1;obtain ⟨a2,_,rfl,h3⟩:=kV (rdL ag.rd) h2;obtain ⟨a3,_,rfl,h4⟩:=kV (rdL ag.rd) h3;obtain ⟨a4,_,rfl,h5⟩:=kV (rdL ag.rd) h4;obtain rfl:=Et h5;exact ⟨⟨a0,a1,a2,a3,a4⟩,rfl⟩⟩
end Go.Sh
namespace Go.Proofs.YtbgaclfkpjnmgaaGreat.MasksConflicts
open Go.ChangeShapes Go.WideShapes Go.ChangeAt Go.RowKit Go.Lx Go.Sh
theorem own:ownKnob Tryz.prog.godebug=none:=by kernel_rfl
theorem laidOut:laidOutB Tryz.prog=true:=by kernel_rfl
def ks:List Kd:=[.slice (.struct [.slice (.struct [.int .i64, .int .i64]), .slice (.int .i64)]), .struct [.int .i64, .slice (.struct [.int .i64, .int .i64, .int .i64, .int .i64, .slice (.int .i64)]), .slice (.struct [.int .i64, .int .i64, .int .i64, .int .i64, .int .i64, .slice (.struct [.int .i64, .int .i64, .int .i64, .int .i64, .slice (.int .i64)]), .slice (.struct [.slice (.int .i64), .int .i64])]), .slice (.struct [.int .i64, .int .i64, .int .i64, .int .i64, .int .i64, .slice (.struct [.int .i64, .int .i64, .int .i64, .int .i64, .slice (.int .i64)]), .slice (.struct [.slice (.int .i64), .int .i64])]), .slice (.struct [.int .i64, .int .i64, .int .i64, .int .i64, .int .i64, .slice (.struct [.int .i64, .int .i64, .int .i64, .int .i64, .slice (.int .i64)]), .slice (.struct [.slice (.int .i64), .int .i64])])]]
theorem aaG:∀ xs,Kd.Each ks xs→dS Tryz.prog 4 (xs.map .d) [] ⟨.d (.bool true),[]⟩:=fun xs h0=>by
 obtain ⟨p0,_,rfl,h1⟩:=Nr (rdL ah.rd) h0;obtain ⟨p1,_,rfl,h2⟩:=Nr aC.rd h1;obtain rfl:=WG h2;exact yJ (BF p0 p1)
set_option maxRecDepth 100000 in
theorem lifted (os:Os) (started:os.Started) (H:Type) (enc:TypeId×Value→H) :
  ReturnsInHanded {} Tryz.checked os 4 .any (Rows.masksConflictsSpec.pre6 enc Tryz.prog Tryz.f4 Rows.masksConflictsRow.domain false) (Rows.masksConflictsSpec.post enc Tryz.prog Tryz.f4 false true false false):=by
 refine returnsInHanded_of_change_sized (C:=Tryz.checked) own started (by kernel_rfl) Tryz.func4
  (ChangeSpec.witness6 (enc:=enc) (C:=Tryz.checked) false ⟨#[],#[.slice none 0 0, .agg #[.int .i64 0, .slice none 0 0, .slice none 0 0, .slice none 0 0, .slice none 0 0]],[]⟩ 8 (by kernel_rfl) (by kernel_rfl) (by kernel_rfl) (by kernel_rfl)) ?_
 intro W base args ds gs before hval hW _ _ _;exact Ou (b:=4) laidOut (ks:=ks) (by kernel_rfl) (by kernel_rfl) (by kernel_rfl) (by kernel_rfl) rfl (fun ds hds=>by
  match ds,hds with
  | [_,_],_=>rfl) aaG W base args ds gs before hval hW
theorem over:Rows.masksConflictsRow.holds Tryz.pinned (OpenSpec.ofChange Rows.masksConflictsSpec) :=
 OpenClaim.holds_of_wide 4 Tryz.f4 rfl rfl rfl rfl rfl rfl rfl ⟨rfl,rfl,rfl,rfl,rfl⟩ rfl rfl rfl rfl rfl (by kernel_rfl) Tryz.func4 (by kernel_rfl)
  (of_decide_eq_true (by kernel_rfl)) (by unfold Func.isWrapper;first | (rw [if_pos (by decide +kernel)];kernel_rfl) | (rw [if_neg (by decide +kernel)];exact ⟨rfl,rfl⟩))
  (fun os started H enc _=>lifted os started H enc)
theorem proved:Rows.MasksConflictsSaid:=over
end Go.Proofs.YtbgaclfkpjnmgaaGreat.MasksConflicts
