/- The sort of a slice at this program, and the iterator over a slice: contracts. -/
import Derived.Test.YtbgaclfkpjnmgaaGreatKit5
import Derived.RangeFuncBox
import Derived.RangeFuncLeaves
import Derived.Shelf.Abstract
import Derived.WalkKit
import Derived.OwnWalkIn
import Derived.TacticsInMore
import Derived.LoopNIn
import Derived.LoopIn
import Derived.Test.YtbgaclfkpjnmgaaGreatProg
set_option linter.all false
namespace Go.Proofs.YtbgaclfkpjnmgaaGreat
open Go.RowKit Go.Shelf Go.Lx
def sortedA_ren:Go.Shelf.Ren:=⟨fun | 6=>145 | 8=>187 | 9=>188 | 11=>209 | 13=>211 | 12=>210 | 23=>226 | 24=>227 | 14=>217 | 15=>218 | 16=>219 | 17=>220 | 18=>221 | 19=>222 | 20=>223 | 21=>224 | 22=>225 | 25=>228 | 26=>229 | 27=>230 | 28=>231 | 29=>232 | 30=>233 | 31=>234 | n=>n,fun | 26=>3 | 28=>209 | 24=>29 | 0=>0 | 3=>3 | 37=>255 | 48=>268 | 50=>270 | 4=>4 | 40=>262 | 39=>261 | 45=>167 | 5=>5 | 9=>9 | 51=>271 | 55=>275 | 57=>277 | 58=>225 | 33=>227 | n=>n,fun | n=>n⟩
theorem sortedA:Go.Proofs.SlLaysZI.n6 Tryz.prog sortedA_ren:={
 mixed:=by kernel_rfl,
 f6:=⟨Tryz.f145.name,by decide,Tryz.func145.trans (congrArg some (by kernel_rfl))⟩,
 f8:=⟨Tryz.f187.name,by decide,Tryz.func187.trans (congrArg some (by kernel_rfl))⟩,
 f11:=⟨Tryz.f209.name,by decide,Tryz.func209.trans (congrArg some (by kernel_rfl))⟩,
 t0:=Tryz.underlying0,
 a0:=Tryz.isAgg0,
 z0:=Tryz.sizeOf0,
 v0:=Tryz.zeroValue0,
 t24:=Tryz.underlying29,
 a24:=Tryz.isAgg29,
 z24:=Tryz.sizeOf29,
 v24:=Tryz.zeroValue29,
 t26:=Tryz.underlying3,
 a26:=Tryz.isAgg3,
 z26:=Tryz.sizeOf3,
 v26:=Tryz.zeroValue3,
 t28:=Tryz.underlying209,
 a28:=Tryz.isAgg209,
 z28:=Tryz.sizeOf209,
 v28:=Tryz.zeroValue209,
 i26:=by kernel_rfl }
def VR:Go.Shelf.Ren:=⟨fun | 5=>188 | 8=>211 | 7=>210 | 19=>226 | 20=>227 | 10=>217 | 11=>218 | 12=>219 | 13=>220 | 14=>221 | 15=>222 | 16=>223 | 17=>224 | 18=>225 | 30=>228 | 31=>229 | 32=>230 | 33=>231 | 34=>232 | 35=>233 | 40=>234 | n=>n,fun | 23=>29 | 25=>3 | 3=>3 | 32=>255 | 22=>29 | 0=>0 | 44=>268 | 46=>270 | 4=>4 | 36=>262 | 35=>261 | 41=>167 | 5=>5 | 9=>9 | 53=>271 | 57=>275 | 63=>277 | 64=>225 | n=>n,fun | n=>n⟩
theorem sortA:Go.Proofs.SlLaysM.n5 Tryz.prog VR:={
 mixed:=by kernel_rfl,
 f5:=⟨Tryz.f188.name,by decide,Tryz.func188.trans (congrArg some (by kernel_rfl))⟩,
 f7:=⟨Tryz.f210.name,by decide,Tryz.func210.trans (congrArg some (by kernel_rfl))⟩,
 f8:=Tryz.func211.trans (congrArg some (by kernel_rfl)),
 f10:=⟨Tryz.f217.name,by decide,Tryz.func217.trans (congrArg some (by kernel_rfl))⟩,
 f11:=⟨Tryz.f218.name,by decide,Tryz.func218.trans (congrArg some (by kernel_rfl))⟩,
 f12:=⟨Tryz.f219.name,by decide,Tryz.func219.trans (congrArg some (by kernel_rfl))⟩,
 f13:=⟨Tryz.f220.name,by decide,Tryz.func220.trans (congrArg some (by kernel_rfl))⟩,
 f14:=⟨Tryz.f221.name,by decide,Tryz.func221.trans (congrArg some (by kernel_rfl))⟩,
 f15:=⟨Tryz.f222.name,by decide,Tryz.func222.trans (congrArg some (by kernel_rfl))⟩,
 f16:=⟨Tryz.f223.name,by decide,Tryz.func223.trans (congrArg some (by kernel_rfl))⟩,
 f17:=⟨Tryz.f224.name,by decide,Tryz.func224.trans (congrArg some (by kernel_rfl))⟩,
 f18:=⟨Tryz.f225.name,by decide,Tryz.func225.trans (congrArg some (by kernel_rfl))⟩,
 f19:=Tryz.func226.trans (congrArg some (by kernel_rfl)),
 f20:=Tryz.func227.trans (congrArg some (by kernel_rfl)),
 f30:=⟨Tryz.f228.name,by decide,Tryz.func228.trans (congrArg some (by kernel_rfl))⟩,
 f31:=Tryz.func229.trans (congrArg some (by kernel_rfl)),
 f32:=Tryz.func230.trans (congrArg some (by kernel_rfl)),
 f33:=⟨Tryz.f231.name,by decide,Tryz.func231.trans (congrArg some (by kernel_rfl))⟩,
 f34:=⟨Tryz.f232.name,by decide,Tryz.func232.trans (congrArg some (by kernel_rfl))⟩,
 f35:=⟨Tryz.f233.name,by decide,Tryz.func233.trans (congrArg some (by kernel_rfl))⟩,
 f40:=⟨Tryz.f234.name,by decide,Tryz.func234.trans (congrArg some (by kernel_rfl))⟩,
 t0:=Tryz.underlying0,
 a0:=Tryz.isAgg0,
 z0:=Tryz.sizeOf0,
 v0:=Tryz.zeroValue0,
 t3:=Tryz.underlying3,
 a3:=Tryz.isAgg3,
 z3:=Tryz.sizeOf3,
 v3:=Tryz.zeroValue3,
 t4:=Tryz.underlying4,
 a4:=Tryz.isAgg4,
 z4:=Tryz.sizeOf4,
 v4:=Tryz.zeroValue4,
 t5:=Tryz.underlying5,
 a5:=Tryz.isAgg5,
 z5:=Tryz.sizeOf5,
 v5:=Tryz.zeroValue5,
 t9:=Tryz.underlying9,
 a9:=Tryz.isAgg9,
 z9:=Tryz.sizeOf9,
 v9:=Tryz.zeroValue9,
 t22:=Tryz.underlying29,
 a22:=Tryz.isAgg29,
 z22:=Tryz.sizeOf29,
 v22:=Tryz.zeroValue29,
 t23:=Tryz.underlying29,
 a23:=Tryz.isAgg29,
 z23:=Tryz.sizeOf29,
 v23:=Tryz.zeroValue29,
 t25:=Tryz.underlying3,
 a25:=Tryz.isAgg3,
 z25:=Tryz.sizeOf3,
 v25:=Tryz.zeroValue3,
 t32:=Tryz.underlying255,
 a32:=Tryz.isAgg255,
 z32:=Tryz.sizeOf255,
 v32:=Tryz.zeroValue255,
 t35:=Tryz.underlying261,
 a35:=Tryz.isAgg261,
 z35:=Tryz.sizeOf261,
 v35:=Tryz.zeroValue261,
 t36:=Tryz.underlying262,
 a36:=Tryz.isAgg262,
 z36:=Tryz.sizeOf262,
 v36:=Tryz.zeroValue262,
 t41:=Tryz.underlying167,
 a41:=Tryz.isAgg167,
 z41:=Tryz.sizeOf167,
 v41:=Tryz.zeroValue167,
 t44:=Tryz.underlying268,
 a44:=Tryz.isAgg268,
 z44:=Tryz.sizeOf268,
 v44:=Tryz.zeroValue268,
 t46:=Tryz.underlying270,
 a46:=Tryz.isAgg270,
 z46:=Tryz.sizeOf270,
 v46:=Tryz.zeroValue270,
 t53:=Tryz.underlying271,
 a53:=Tryz.isAgg271,
 z53:=Tryz.sizeOf271,
 v53:=Tryz.zeroValue271,
 t57:=Tryz.underlying275,
 a57:=Tryz.isAgg275,
 z57:=Tryz.sizeOf275,
 v57:=Tryz.zeroValue275,
 t63:=Tryz.underlying277,
 a63:=Tryz.isAgg277,
 z63:=Tryz.sizeOf277,
 v63:=Tryz.zeroValue277,
 t64:=Tryz.underlying225,
 a64:=Tryz.isAgg225,
 z64:=Tryz.sizeOf225,
 v64:=Tryz.zeroValue225 }
theorem sortsA (m:Nat):AnyZI.SortsIn Tryz.prog sortedA_ren Fence.wide m :=
 ⟨fun blk off cap ss W hH hblk hsz=>callsIn_wide.2 (AnyM.slices_Sort_int sortA blk off cap ss W hH hblk hsz),
  fun p cap W=>callsIn_wide.2 (AnyM.slices_Sort_int_none sortA p cap W)⟩
section
attribute [local go_sem] Oper.semAt_some
set_option maxRecDepth 100000
set_option maxHeartbeats 2000000
theorem VX:Qr Tryz.prog 189:=by
 intro n hn Bs o sv zs w hlen hBs hcell hI l J W hW hJ hJB hY h0;have hreach:zs.length * 8≤140737488351232:=by omega
 have hBs':=(hW.cell (p:=⟨Bs,o,none⟩) hBs).trans hcell;obtain ⟨a,cap,rfl,hc⟩:=hI;have hro:Fence.wide.round=none:=rfl;have h7:Fence.wide.fn 189:=trivial
 show CallsIn Fence.wide n Tryz.prog 189 #[.func (.yield l) #[] #[], .pointer (some ⟨Bs,o,none⟩)] W fun e W'=>(∃ v,e = .returned v)∧∃ ys,ys=zs∧J ys W'
 rcases hc with rfl | ⟨b,off,rfl,hb,hcs⟩
 ·refine callsIn_of_wp Tryz.func189 rfl h7 ?_ hro;simp only [Tryz.ntmps189,iH,dU,jy,Nat.reduceAdd,Nat.reduceSub,Array.replicate_succ,Array.replicate_zero,List.push_toArray,List.append_toArray,iU,je]
  gi_wp2
  gi_loopw [7] (fun i wr=>i = .int .i64 0∧J [] wr) (fun _ _=>0)
  case atStart=>exact ⟨rfl,h0⟩
  case round =>
   obtain ⟨rfl,hJs⟩:=hrel
   gi_wp2
   go_end0
   exact ⟨⟨_,rfl⟩,_,rfl,hJs⟩
 ·obtain ⟨len,hl⟩:∃ len,zs.length=len:=⟨_,rfl⟩
  have hall:upto (fun j=>zs[j]?.getD 0) len=zs:=by rw [← hl];exact upto_all zs
  rw [hl] at hBs' hreach hcs hY;clear hcell;clear hl;refine callsIn_of_wp Tryz.func189 rfl h7 ?_ hro;simp only [Tryz.ntmps189,iH,dU,jy,Nat.reduceAdd,Nat.reduceSub,Array.replicate_succ,Array.replicate_zero,List.push_toArray,List.append_toArray,iU,je]
  gi_wp2
  gi_loopw [7] (fun i wr=>∃ k:Nat,k≤len∧i = .int .i64 k∧J (upto (fun j=>zs[j]?.getD 0) k) wr)
   (fun i _=>len - (intOf i).toNat)
  case atStart=>exact ⟨0,lC _,rfl,h0⟩
  case round =>
   obtain ⟨k,hk,rfl,hJs⟩:=hrel;have hnx:=hJB _ _ hJs;have hcx:k < len→wr.cell? ⟨b,off+k,none⟩=some (.int .i64 (zs[k]?.getD 0)):=fun h=>(hnx.cell (p:=⟨b,off+k,none⟩) hb).trans (hcs k h)
   by_cases hlt:k < len
   ·obtain ⟨fn,tmps,assign,body,hy,hR⟩:=hY _ (zs[k]?.getD 0) wr hJs (by rw [upto_length];exact hlt);have hcx':=hcx hlt;clear hcs hall hBs' hnx hJB
    gi_wp2
    refine hR.mono ?_
    rintro e W3 ⟨rfl,hJ3,hk3⟩
    gi_wp2
    go_roundw
    case rel=>exact ⟨k+1,by omega,by simp,by rw [upto_succ];exact hJ3⟩
    case measure=>simp [intOf];omega
   ·obtain rfl:k=len:=by omega
    clear hcs hBs' hnx hJB
    gi_wp2
    go_end0
    exact ⟨⟨_,rfl⟩,_,hall,hJs⟩
end
theorem UW {xs r:List Int} {out:Out} (h:Jk xs=some r):dS Tryz.prog 145 [.clo 189 [.pimm (.sl (xs.map dI)) 0]] out ⟨.d (.sl (r.map dI)),[]⟩ :=
 VS (ρ:=sortedA_ren) rfl sortedA sortsA (enters_of Tryz.func188 (by kernel_rfl) rfl) ⟨_,Tryz.func145,by decide,by intro h;cases h⟩ (enters_of Tryz.func189 (by kernel_rfl) rfl) VX h
end Go.Proofs.YtbgaclfkpjnmgaaGreat
