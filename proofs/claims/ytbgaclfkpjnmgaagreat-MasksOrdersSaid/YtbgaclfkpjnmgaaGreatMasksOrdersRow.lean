/- The statement MasksOrders holds: for every input the law answers true, and leaves its arguments as they were. -/
import Derived.Test.YtbgaclfkpjnmgaaGreatRows
import Derived.Test.YtbgaclfkpjnmgaaGreatMasksOrdersWk3
import Derived.Test.YtbgaclfkpjnmgaaGreatMasksOrdersLaw
set_option linter.all false
namespace Go.Sh
open Go.Lx
theorem ai.rd:Rd (.struct [.int .i64, .int .i64]) ai.d:=⟨fun x h=>by
 obtain ⟨cs,rfl,h0⟩:=vP h;obtain ⟨a0,_,rfl,h1⟩:=kS rdI h0;obtain ⟨a1,_,rfl,h2⟩:=kS rdI h1;obtain rfl:=D9 h2;exact ⟨⟨a0,a1⟩,rfl⟩⟩
theorem ae.rd:Rd (.struct [.slice (.struct [.int .i64, .int .i64]), .slice (.int .i64)]) ae.d:=⟨fun x h=>by
 obtain ⟨cs,rfl,h0⟩:=vP h;obtain ⟨a0,_,rfl,h1⟩:=kS (rdL ai.rd) h0;obtain ⟨a1,_,rfl,h2⟩:=kS (rdL rdI) h1;obtain rfl:=D9 h2;exact ⟨⟨a0,a1⟩,rfl⟩⟩
theorem ay.rd:Rd (.struct [.int .i64, .int .i64, .int .i64, .int .i64, .slice (.int .i64)]) ay.d:=⟨fun x h=>by
 obtain ⟨cs,rfl,h0⟩:=vP h;obtain ⟨a0,_,rfl,h1⟩:=kS rdI h0;obtain ⟨a1,_,rfl,h2⟩:=kS rdI h1;obtain ⟨a2,_,rfl,h3⟩:=kS rdI h2;obtain ⟨a3,_,rfl,h4⟩:=kS rdI h3;obtain ⟨a4,_,rfl,h5⟩:=kS (rdL rdI) h4;obtain rfl:=D9 h5;exact ⟨⟨a0,a1,a2,a3,a4⟩,rfl⟩⟩
theorem bF.rd:Rd (.struct [.slice (.int .i64), .int .i64]) bF.d:=⟨fun x h=>by
 obtain ⟨cs,rfl,h0⟩:=vP h;obtain ⟨a0,_,rfl,h1⟩:=kS (rdL rdI) h0;obtain ⟨a1,_,rfl,h2⟩:=kS rdI h1;obtain rfl:=D9 h2;exact ⟨⟨a0,a1⟩,rfl⟩⟩
theorem ag.rd:Rd (.struct [.int .i64, .int .i64, .int .i64, .int .i64, .int .i64, .slice (.struct [.int .i64, .int .i64, .int .i64, .int .i64, .slice (.int .i64)]), .slice (.struct [.slice (.int .i64), .int .i64])]) ag.d:=⟨fun x h=>by
 obtain ⟨cs,rfl,h0⟩:=vP h;obtain ⟨a0,_,rfl,h1⟩:=kS rdI h0;obtain ⟨a1,_,rfl,h2⟩:=kS rdI h1;obtain ⟨a2,_,rfl,h3⟩:=kS rdI h2;obtain ⟨a3,_,rfl,h4⟩:=kS rdI h3;obtain ⟨a4,_,rfl,h5⟩:=kS rdI h4;obtain ⟨a5,_,rfl,h6⟩:=kS (rdL ay.rd) h5;obtain ⟨a6,_,rfl,h7⟩:=kS (rdL bF.rd) h6;obtain rfl:=D9 h7;exact ⟨⟨a0,a1,a2,a3,a4,a5,a6⟩,rfl⟩⟩
theorem az.rd:Rd (.struct [.int .i64, .slice (.struct [.int .i64, .int .i64, .int .i64, .int .i64, .slice (.int .i64)]), .slice (.struct [.int .i64, .int .i64, .int .i64, .int .i64, .int .i64, .slice (.struct [.int .i64, .int .i64, .int .i64, .int .i64, .slice (.int .i64)]), .slice (.struct [.slice (.int .i64), .int .i64])]), .slice (.struct [.int .i64, .int .i64, .int .i64, .int .i64, .int .i64, .slice (.struct [.int .i64, .int .i64, .int .i64, .int .i64, .slice (.int .i64)]), .slice (.struct [.slice (.int .i64), .int .i64])]), .slice (.struct [.int .i64, .int .i64, .int .i64, .int .i64, .int .i64, .slice (.struct [.int .i64, .int .i64, .int .i64, .int .i64, .slice (.int .i64)]), .slice (.struct [.slice (.int .i64), .int .i64])])]) az.d:=⟨fun x h=>by
 obtain ⟨cs,rfl,h0⟩:=vP h;obtain ⟨a0,_,rfl,h1⟩:=kS rdI h0;obtain ⟨a1,_,rfl,h2⟩:=kS (rdL ay.rd) h1;obtain ⟨a2,_,rfl,h3⟩:=kS (rdL ag.rd) h2;obtain ⟨a3,_,rfl,h4⟩:=kS (rdL ag.rd) h3;obtain ⟨a4,_,rfl,h5⟩:=kS (rdL ag.rd) h4;obtain rfl:=D9 h5;exact ⟨⟨a0,a1,a2,a3,a4⟩,rfl⟩⟩
end Go.Sh
namespace Go.Proofs.YtbgaclfkpjnmgaaGreat.MasksOrders
open Go.ChangeShapes Go.WideShapes Go.ChangeAt Go.RowKit Go.Lx Go.Sh
theorem own:ownKnob Tryz.prog.godebug=none:=by kernel_rfl
theorem laidOut:laidOutB Tryz.prog=true:=by kernel_rfl
def ks:List Kd:=[.slice (.struct [.slice (.struct [.int .i64, .int .i64]), .slice (.int .i64)]), .struct [.int .i64, .slice (.struct [.int .i64, .int .i64, .int .i64, .int .i64, .slice (.int .i64)]), .slice (.struct [.int .i64, .int .i64, .int .i64, .int .i64, .int .i64, .slice (.struct [.int .i64, .int .i64, .int .i64, .int .i64, .slice (.int .i64)]), .slice (.struct [.slice (.int .i64), .int .i64])]), .slice (.struct [.int .i64, .int .i64, .int .i64, .int .i64, .int .i64, .slice (.struct [.int .i64, .int .i64, .int .i64, .int .i64, .slice (.int .i64)]), .slice (.struct [.slice (.int .i64), .int .i64])]), .slice (.struct [.int .i64, .int .i64, .int .i64, .int .i64, .int .i64, .slice (.struct [.int .i64, .int .i64, .int .i64, .int .i64, .slice (.int .i64)]), .slice (.struct [.slice (.int .i64), .int .i64])])], .slice (.int .i64)]
theorem Zd:∀ xs,Kd.Each ks xs→dM Tryz.prog 7 (xs.map .d) [] ⟨.d (.bool true),[]⟩:=fun xs h0=>by
 obtain ⟨p0,_,rfl,h1⟩:=G6 (rdL ae.rd) h0;obtain ⟨p1,_,rfl,h2⟩:=G6 az.rd h1;obtain ⟨p2,_,rfl,h3⟩:=G6 (rdL rdI) h2;obtain rfl:=Vt h3;exact AL (FI p0 p1 p2)
set_option maxRecDepth 100000 in
theorem lifted (os:Os) (started:os.Started) (H:Type) (enc:TypeId×Value→H) :
  ReturnsInHanded {} Tryz.checked os 7 .any (Rows.masksOrdersSpec.pre6 enc Tryz.prog Tryz.f7 Rows.masksOrdersRow.domain false) (Rows.masksOrdersSpec.post enc Tryz.prog Tryz.f7 false true false false):=by
 refine returnsInHanded_of_change_sized (C:=Tryz.checked) own started (by kernel_rfl) Tryz.func7
  (ChangeSpec.witness6 (enc:=enc) (C:=Tryz.checked) false ⟨#[],#[.slice none 0 0, .agg #[.int .i64 0, .slice none 0 0, .slice none 0 0, .slice none 0 0, .slice none 0 0], .slice none 0 0],[]⟩ 8 (by kernel_rfl) (by kernel_rfl) (by kernel_rfl) (by kernel_rfl)) ?_
 intro W base args ds gs before hval hW _ _ _;exact NL (b:=4) laidOut (ks:=ks) (by kernel_rfl) (by kernel_rfl) (by kernel_rfl) (by kernel_rfl) rfl (fun ds hds=>by
  match ds,hds with
  | [_,_,_],_=>rfl) Zd W base args ds gs before hval hW
theorem over:Rows.masksOrdersRow.holds Tryz.pinned (OpenSpec.ofChange Rows.masksOrdersSpec) :=
 OpenClaim.holds_of_wide 7 Tryz.f7 rfl rfl rfl rfl rfl rfl rfl ⟨rfl,rfl,rfl,rfl,rfl⟩ rfl rfl rfl rfl rfl (by kernel_rfl) Tryz.func7 (by kernel_rfl)
  (of_decide_eq_true (by kernel_rfl)) (by unfold Func.isWrapper;first | (rw [if_pos (by decide +kernel)];kernel_rfl) | (rw [if_neg (by decide +kernel)];exact ⟨rfl,rfl⟩))
  (fun os started H enc _=>lifted os started H enc)
theorem proved:Rows.MasksOrdersSaid:=over
end Go.Proofs.YtbgaclfkpjnmgaaGreat.MasksOrders
