/- Values of the language, told by plain data; contracts of functions and operations, and how they are shown: part 4. -/
import Derived.Test.YtbgaclfkpjnmgaaGreatKit3
import Derived.Lib.Overlaps
import Derived.Shelf.SlIterI.Sorted
import Derived.Shelf.SortM.Plain
import Derived.Shelf.SortM.SortNone
import Derived.Laws.IdiomRangeMap
set_option linter.all false
namespace Go.Lx
section
variable {P:Program} {env:Env} {s s':S} {loc loc':Loc} {out:Out} {chg:List (Option Loc)} {dst:Option Nat} {d:Nat} {ty:TypeId} {pos:String} {af:Array Edge} {gd:Option (Nat×Bool)}
theorem iL.sem {o:Oper} {v:A} {dl:Delta} (hr:dZ env o.op=true)
  (h:∀ (V:View) (μ:Id→Pl) (w:World),Inv P V s.get μ w→∀ (a:Act),(∀ x,x∈o.op.operands→∀ u,aB (look env) x=some u→iO P V s.get μ u (a.eval x)) →
   ∃ m:Sem Value,execOp a.eval o=(do pure (.value (← m)))∧Done P V s μ w (dl.apply s) v (m.run P w)):iL P env s o v dl:=by
 refine ⟨.inr ⟨hr,fun V μ w I a R K Q hK=>?_⟩⟩;obtain ⟨m,h1,h2⟩:=h V μ w I a R;exact zO (c:=bc P) h1 h2 (fun cv w' hl=>hK cv w' hl)
theorem tN.cons {V:View} {h:Id→Option Blk} {μ:Id→Pl} {tmps:Array Value} (R:tN P V h μ env tmps) {t0:Nat} {v:A} (H:iO P V h μ v (tmps.getD t0 undef)):tN P V h μ ((t0,v)::env) tmps:=by
 intro t u hu;simp only [look] at hu;split at hu
 ·rename_i e;subst e;cases hu;exact H
 ·exact R t u hu
theorem cap_ {x:Operand} {id:Id} {o n m c t e sz by_:Nat} {z:D} {ts:Array TypeId} (ht:Sli P t e sz by_ z) (hx:dO (look env) #[x].toList=some [.rcap id o n m c]) (hts:ts.toList=[t]) :
  iL P env s ⟨some d, .call ⟨.builtin .cap,#[x],ts⟩,ty,pos,af,gd⟩ (.d (.int .i64 c)) .same:=by
 refine bi hx hts ?_;simp [mr,wI,bc,ht.u]
section
variable {x:Operand} {t e sz by_ off len full:Nat} {z:D} {xs ys:List D} {o1:Operand} {lo hi:Int} {k1:IntKind} {id:Id} {l:Bool}
end
end
section
variable {P:Program} {env:Env} {s:S} {dst:Option Nat} {t t':TypeId} {x y:Operand} {a b:Int} {ty:TypeId} {pos:String} {af:Array Edge} {gd:Option (Nat×Bool)}
end
section
variable {P:Program} {env:Env} {s:S} {dst:Option Nat} {x y:Operand} {ty:TypeId} {pos:String} {af:Array Edge} {gd:Option (Nat×Bool)}
end
section
variable {P:Program} {env:Env} {s s1 s':S} {x y:Operand} {t off sz' sz2 m m2:Nat} {id id2:Id} {ty:TypeId} {pos:String} {af:Array Edge} {gd:Option (Nat×Bool)} {α β:Type} {f:α→D} {g:β→D} {xs:List α} {ys:List β} {n:Int} {a b:α}
end
section
variable {P:Program} {env:Env} {s s':S} {loc loc':Loc} {out:Out} {chg:List (Option Loc)} {dst:Option Nat} {d:Nat} {ty:TypeId} {pos:String} {af:Array Edge} {gd:Option (Nat×Bool)}
end
section
variable {P:Program} {env env':Env} {loc loc' c0:Loc} {out:Out} {chg:List (Option Loc)}
theorem OO (h1:env'.map (fun p=>look env p.1)=env'.map (fun p=>some p.2)) (h2:loc'.map (YG loc)=loc'.map (fun b=>some b.2)) (h3:((uG env'++ut loc').all fun i=>(dG loc' i.t i.n).isSome)=true) :
  Trim env ⟨loc,out,chg⟩ env' ⟨loc',out,chg⟩ :=
 ⟨fun t v hv=>⟨v,wL h1 (yM hv), .refl _⟩,zQ (fun _ he=>wL h2 he),rfl,rfl, .inr fun i hi _=>by
  have:=aY.1 h3 i (aP.2 hi);exact iC.1 this⟩
theorem aaV (h1:env'.map (fun p=>look env p.1)=env'.map (fun p=>some p.2)) (h2:loc'.map (YG loc)=loc'.map (fun b=>some b.2)) (h3:((uG env'++ut loc').all fun i=>Nat.beq i.d 0 || (dG loc' i.t i.n).isSome)=true) :
  Trim env ⟨loc,[c0],chg⟩ env' ⟨loc',[c0],chg⟩ :=
 ⟨fun t v hv=>⟨v,wL h1 (yM hv), .refl _⟩,zQ (fun _ he=>wL h2 he),rfl,rfl, .inr fun i hi hd=>by
  have:=aY.1 h3 i (aP.2 hi);simp only [jK] at this;rcases this with q | q
  ·have:=bV q;have hd1:i.d=1:=hd;omega
  ·exact iC.1 q⟩
theorem Le.zW {t tt n:Nat} {e:D} {cs:List A} (hv:look env t=some (.bptr ⟨out.length,tt,n⟩ 0)) (hb:dG loc tt n=some (.box cs)) (hc:cs=e.cells.map A.d) (hn:dG loc' tt n=none) (h:Trim env ⟨loc,out,chg⟩ env' ⟨loc',out,chg⟩) :
  Le P env ⟨loc,out,chg⟩ ((t, .pimm e 0)::env') ⟨loc',out,chg⟩:=by
 refine ⟨fun O a w T=>?_⟩;obtain ⟨V,μ,I,R,E,hdep,hsz,hdf⟩:=T;generalize hs1:(⟨loc,out,chg⟩:S)=s at *
 generalize hs2:(⟨loc',out,chg⟩:S)=s' at *
 have hds:s.dep=out.length:=by subst hs1;rfl
 have hls:s.loc=loc:=by subst hs1;rfl
 have hls':s'.loc=loc':=by subst hs2;rfl
 have own:∀ i,i.d=s.dep→s.get i=dG s.loc i.t i.n:=fun i e=>by unfold S.get;rw [if_pos e]
 have hsub:∀ i b,s'.get i=some b→s.get i=some b:=by
  intro i b hb;rw [h.get] at hb;split at hb
  ·rename_i e;rw [own i e];exact h.loc _ _ _ hb
  ·exact hb
 have hgi:s.get ⟨out.length,tt,n⟩=some (.box cs):=by rw [own _ hds.symm,hls];exact hb
 have hgi':s'.get ⟨out.length,tt,n⟩=none:=by rw [h.get,if_pos hds.symm,hls'];exact hn
 have hkeep:∀ j,j∈uG env'∨j∈ut s'.loc→∀ b,s.get j=some b→s'.get j=some b:=by
  intro j hj b hb;rcases h.ids with hs | hids
  ·rw [hs];exact hb
  rw [h.get];split
  ·rename_i e
   obtain ⟨b',hb'⟩:=hids j hj e;have:=h.loc _ _ _ hb';rw [own j e,this] at hb;rw [hb',← hb]
  ·exact hb
 have hd:s'.dep=s.dep:=by unfold S.dep;rw [h.out]
 have hclosed:∀ i c,s'.get i=some c→∀ j∈c.ids,∀ b,s.get j=some b→s'.get j=some b:=by
  intro i cs hi j hj b hb;by_cases e1:i.d=s.dep
  ·rcases h.ids with hs | _
   ·rw [hs];exact hb
   have hi':dG s'.loc i.t i.n=some cs:=by rw [h.get,if_pos e1] at hi;exact hi
   exact hkeep j (.inr (Dl hi' hj)) b hb
  ·have hle:=I.tidy i cs (hsub i _ hi) j hj;have hlt:=S.xm (hsub i _ hi);rw [h.get,if_neg (by omega)];exact hb
 obtain ⟨b1,b3,cells,elem,b5,b6,b7⟩:=I.blk _ _ hgi
 let V':View:=⟨fun b c v=>V.cell b c v∨(b=(μ ⟨out.length,tt,n⟩).blk∧cells[c]?=some v),V.map⟩
 have hV:V.Le V':=⟨fun _ _ _ x => .inl x,fun _ _ _ x=>x⟩
 have hown:qp s.get μ (μ ⟨out.length,tt,n⟩).blk:=⟨_,_,hgi,b1,rfl⟩
 have sound:∀ b c v,V'.cell b c v→w.cell? ⟨b,c,none⟩=some v:=by
  rintro b c v (q | ⟨rfl,q⟩)
  ·exact I.cell b c v q
  ·rw [cell_of_row w _ c cells elem (0,0) b5];exact q
 have I1:Inv P V s'.get μ w:=I.sub hsub hclosed;have I2:Inv P V' s'.get μ w:=I1.frame (fun _ _=>rfl) hV (by
  rintro b c v (q | ⟨rfl,q⟩) ⟨j,x,hx,hnil,hblk⟩
  ·exact q
  ·have hne:j≠⟨out.length,tt,n⟩:=by rintro rfl;rw [hgi'] at hx;cases hx
   exact absurd hblk (I.apart j _ _ _ (hsub j x hx) hgi hne hnil b1)) (fun _ _ _ x _=>x) sound I.map
 have E1:Evo O.V O.h O.μ O.w V' s.get μ w:=E.trans ⟨rfl,rfl,rfl,aZ _,fun _ _ _=>rfl,hV,by
  rintro b c v (q | ⟨rfl,q⟩)
  ·exact .inl q
  ·exact .inr (.inl hown),fun _ _ _ x => .inl x,fun j x hx hn => .inl ⟨x,hx,hn,rfl⟩,fun j b hb=>⟨b,hb, .refl _ _⟩⟩
 refine ⟨V',μ,I2,?_,E1.sub hsub ?_,h.out.trans hdep,hsz,hdf⟩
 ·refine tN.cons (fun u v hv=>?_) ?_
  ·obtain ⟨v0,h1,h2⟩:=h.env u v hv;have h3:=h2.ok _ _ _ _ _ (R u v0 h1);exact h3.mono hV (fun j hj b hb=>⟨b,hkeep j (.inl (Gs hv j hj)) b hb, .refl _ _⟩)
  ·have h2:=R t _ hv;generalize a.tmps.getD t undef=cv at h2;cases h2 with
   | bptr _ _ cs' hi =>
    subst hc;have hrel:∀ (i:Nat) d v,e.cells[i]?=some d→cells[i]?=some v→jL P V' d v∧Plain v:=by
     intro i d v hd hv;obtain ⟨g1,g2⟩:=b7 i (.d d) v (by rw [bn,hd];rfl) hv;exact ⟨g1.dOf.mono hV,g2⟩
    have key:∃ ev,jL P V' e ev∧∀ (j:Nat) x,ev.cells[j]?=some x→cells[j]?=some x:=by
     by_cases ha:∃ ds,e = .agg ds
     ·obtain ⟨ds,rfl⟩:=ha;refine ⟨.agg cells, .agg ds cells (by simpa [D.cells] using b6) (fun i d v hd hv=>(hrel i d v hd hv).1) (fun i v hv=>?_),fun j x hx=>hx⟩;have hi:i < cells.size:=(aN.1 hv).1;have hl:i < ds.length:=by
       have:cells.size=ds.length:=by simpa [D.cells] using b6
       omega
      exact (hrel i _ v (au hl) hv).2
     ·have he:e.cells=[e]:=by cases e<;>first | rfl | exact absurd ⟨_,rfl⟩ ha
      rw [he] at b6 hrel;have hs1:cells.size=1:=by simpa using b6
      have hc0:cells[0]?=some (cells[0]'(by omega)):=dD _;obtain ⟨g1,g2⟩:=hrel 0 e _ rfl hc0;refine ⟨_,g1,fun j x hx=>?_⟩;have hcl:(cells[0]'(by omega)).cells=#[cells[0]'(by omega)]:=by
       generalize (cells[0]'(by omega))=q at g2;cases q<;>first | rfl | exact g2.elim
      rw [hcl] at hx;cases j with
      | zero=>simp at hx;rw [hc0,hx]
      | succ j=>simp at hx
    obtain ⟨ev,k1,k2⟩:=key;exact .pimm e 0 ev _ 0 k1 (fun j x hx => .inr ⟨rfl,by simpa using k2 j x hx⟩)
 ·intro i b hb;have:=O.low i b hb;have hdl:s.dep=O.out.length:=congrArg List.length hdep;rw [h.get,if_neg (by omega)]
end
theorem qN {α:Type} {f:α→D} {p:Option α}:wW (dP f p)=dP f p:=by cases p<;>rfl
theorem aaT {α:Type} {f:α→D} {p:Option α}:(storable (.d (dP f p))&&oneCell (.d (dP f p)))=true:=by cases p<;>rfl
section
variable {P:Program} {F:Facts} {ops:List Oper} {b:List Nat} {rest:List (Nat×Oper)} {adds:List (Nat×Loc)} {env:Env} {s:S} {loc:Loc} {out:Out} {chg:List (Option Loc)} {M R:List Nat} {Q:Env→S→Prop} {i d:Nat} {op:Op} {ty:TypeId} {pos:String} {af:Array Edge} {v:A}
def isU:A→Bool | .undef=>true | _=>false
theorem ZY {a:A} (h:isU a=false):a = .undef→False:=by rintro rfl;cases h
def aaU:Blk→Bool | .box cs=>cs.all fun a=>!isU a | _=>true
theorem RF.full {cs cs':List A} (h:RF cs cs') (hu:(cs.all fun a=>!isU a)=true):cs=cs':=by
 induction h with
 | n=>rfl
 | s k ih=>rw [mg,aS] at hu;rw [ih hu.2]
 | u k ih=>rw [mg] at hu;simp [isU] at hu
theorem Ec.at {id:Id} {bk:Blk} (h:Ec s F) (k:Nat) (e:F[k]?=some (id,bk)) (hu:aaU bk=true:=by rfl):zk s id bk:=⟨by
 obtain ⟨b,h1,h2⟩:=h (id,bk) (bz e);rcases h2 with h2 | ⟨c1,c2,e1,e2,h2⟩
 ·simp only at h2;rw [h2];exact h1
 ·simp only at e1;subst e1;rw [h2.full hu];subst e2;exact h1⟩
structure aaA (s:S) (id:Id) (off:Nat) (v:A):Prop where
 h:∃ cs,s.get id=some (.box cs)∧cs[off]?=some v
theorem Ec.cell {id:Id} {cs:List A} (h:Ec s F) (k off:Nat) {v:A} (e:F[k]?=some (id, .box cs)) (hv:cs[off]?=some v) (hu:isU v=false:=by rfl):aaA s id off v:=⟨by
 obtain ⟨b,h1,h2⟩:=h (id, .box cs) (bz e);rcases h2 with h2 | ⟨c1,c2,e1,e2,h2⟩
 ·simp only at h2;subst h2;exact ⟨cs,h1,hv⟩
 ·simp only at e1;cases e1;subst e2;exact ⟨c2,h1,h2.get hv (ZY hu)⟩⟩
theorem Ec.plus (h:Ec s F) {bs:Loc} (hd:(F.all fun p=>(dG bs p.1.t p.1.n).isNone)=true):Ec (s.plus bs) F:=by
 intro p hp;obtain ⟨b,h1,h2⟩:=h p hp;refine ⟨b,?_,h2⟩;rw [vk];have:=aY.1 hd p hp;simp only [Option.isNone_iff_eq_none] at this;rw [this];split<;>exact h1
def aap (a b:Id):Bool:=Nat.beq a.d b.d&&Nat.beq a.t b.t&&Nat.beq a.n b.n
theorem UK {a b:Id} (h:aap a b=true):a=b:=by
 simp only [aap,aS] at h;obtain ⟨⟨e1,e2⟩,e3⟩:=h;have h1:=bV e1;have h2:=bV e2;have h3:=bV e3;cases a;cases b;simp only at h1 h2 h3;subst h1 h2 h3;rfl
def Yq (p:Id×Blk) (j:Id):Bool:=aap p.1 j || (match p.2 with | .box cs=>(A.oq cs).any fun k=>aap k j | _=>false)
theorem abt (h:∀ s,Ec s F→iL P env s ⟨some d,op,ty,pos,af,none⟩ v .same) (hv:(v.ids.all fun j=>F.any fun p=>Yq p j)=true) (hs:Ec (s.plus (rO b i adds)) F) (k:DWp P F ops b rest adds ((d,v)::env) s M R Q) :
  DWp P F ops b ((i,⟨some d,op,ty,pos,af,none⟩)::rest) adds env s M R Q:=by
 refine .aaK rfl (h _ hs) ⟨rfl,h,fun j hj=>?_⟩ k;have:=aY.1 hv j hj;obtain ⟨p,hp,e⟩:=gY.1 this;refine ⟨p,hp,?_⟩;simp only [Yq,jK] at e;rcases e with e | e
 ·exact .inl (UK e)
 ·obtain ⟨pi,pb⟩:=p;cases pb with
  | box cs =>
   obtain ⟨k,hk,e2⟩:=gY.1 e;rw [UK e2] at hk;exact .inr ⟨cs,rfl,hk⟩
  | _=>cases e
end
section
variable {P:Program} {F:Facts} {ops:Array Oper} {y:Code} {id:Nat} {env:Env} {s:S} {Q:Ex→Env→S→Prop}
theorem ldF (hF:Ec s F) (hm:P.follows .mixedOrders=true) {b:List Nat} (hb:fU ops.toList=b) (h:DWp P F ops.toList b (oC 0 ops.toList) [] env s [] [] (fun e s'=>Q .norm e s')):CWp P (.region id ops true) env s Q:=by
 obtain ⟨e,s',m,r,h1,h2,h3⟩:=h.ex;subst hb;exact .draw hm hF h1 (by simpa using h2) h3
end
def dN {α:Type} (f:α→D):List α→D
 | [] => .nilsl
 | x::xs => .sl ((x::xs).map f)
theorem aaD {α:Type} {f:α→D} {xs:List α} (h:xs.isEmpty=false):dN f xs = .sl (xs.map f):=by
 cases xs with
 | nil=>cases h
 | cons x xs=>rfl
def neL {α:Type} (xs:List α):Option (List α):=if xs.isEmpty=true then none else some xs
theorem Yg {α:Type} {xs ys:List α} (h:neL xs=some ys):ys=xs∧xs.isEmpty=false:=by
 unfold neL at h;split at h
 ·cases h
 ·rename_i e;cases h;exact ⟨rfl,by simpa using e⟩
section
variable {P:Program} {env:Env} {s:S} {dst:Option Nat} {ty:TypeId} {pos:String} {af:Array Edge} {gd:Option (Nat×Bool)} {α:Type} {f:α→D} {xs ys:List α} {x:Operand} {t t' e:TypeId}
theorem rtN {t:Nat} {x:D} (h:look env t=some (.d x)) {c:List (Option Loc)} (hc:s.chg=c) {x':D} (hx:x=x'):Returns P [.tmp t] env s ⟨.d x',c⟩:=by
 subst hc hx;exact ⟨.inr (.inl ⟨t,x,rfl,h,rfl⟩)⟩
theorem rtC {t:Nat} {f:FuncId} {cs:List A} (h:look env t=some (.clo f cs)) (hi:A.oq cs=[]) {c:List (Option Loc)} (hc:s.chg=c):Returns P [.tmp t] env s ⟨.clo f cs,c⟩:=by
 subst hc;exact ⟨.inr (.inr ⟨t,f,cs,rfl,h,hi,rfl⟩)⟩
theorem eqN (hx:aB (look env) x=some (.d (dN f xs))) (ht:P.underlying t=some (.slice e)):iL P env s ⟨dst, .binOp .eql t x (.const (.slice none 0 0)) t',ty,pos,af,gd⟩ (.d (.bool xs.isEmpty)) .same :=
 .of (bc P) rfl fun _ _=>by
  have hy:aB (look env) (.const (.slice none 0 0))=some (.d .nilsl):=rfl;cases xs<;>simp [qm,hx,hy,dN,lN,Hr,bc,ht,BQ]
theorem neN (hx:aB (look env) x=some (.d (dN f xs))) (ht:P.underlying t=some (.slice e)):iL P env s ⟨dst, .binOp .neq t x (.const (.slice none 0 0)) t',ty,pos,af,gd⟩ (.d (.bool (!xs.isEmpty))) .same :=
 .of (bc P) rfl fun _ _=>by
  have hy:aB (look env) (.const (.slice none 0 0))=some (.d .nilsl):=rfl;cases xs<;>simp [qm,hx,hy,dN,lN,Hr,bc,ht,BQ]
theorem Le.aaj {t:Nat} (hv:look env t=some (.d (dN f xs))):Le P env s ((t, .d (.sl (xs.map f)))::env) s:=by
 refine ⟨fun O a w T=>?_⟩;obtain ⟨V,μ,I,R,E,hdep,hn',hdf⟩:=T;refine ⟨V,μ,I,R.cons ?_,E,hdep,hn',hdf⟩;have hd:=(R t _ hv).dOf;cases xs with
 | nil=>exact .d _ _ (AO hd)
 | cons x xs=>exact .d _ _ hd
end
end Go.Lx
set_option linter.all false
namespace Go.Lx
open Go.RowKit Go.Proofs
def ins (x:Int):List Int→List Int
 | []=>[x]
 | y::ys=>if x≤y then x::y::ys else y::ins x ys
def LJ:List Int→List Int
 | []=>[]
 | x::xs=>ins x (LJ xs)
theorem LH (x:Int):∀ xs,(ins x xs).Perm (x::xs)
 | [] => .refl _
 | y::ys=>by
  unfold ins;split
  ·exact .refl _
  ·exact ((LH x ys).cons y).trans (.swap x y ys)
theorem Ey:∀ xs,(LJ xs).Perm xs
 | [] => .refl _
 | x::xs=>(LH x _).trans ((Ey xs).cons x)
theorem J8 (x:Int):∀ {xs:List Int},xs.Pairwise (·≤·)→(ins x xs).Pairwise (·≤·)
 | [],_=>by simp [ins]
 | y::ys,h=>by
  unfold ins;rw [kC] at h;split
  ·rename_i hle
   refine kC.2 ⟨fun z hz=>?_,kC.2 h⟩;rcases fJ.1 hz with rfl | hz
   ·exact hle
   ·exact Int.le_trans hle (h.1 z hz)
  ·rename_i hle
   refine kC.2 ⟨fun z hz=>?_,J8 x h.2⟩;rcases fJ.1 ((LH x ys).mem_iff.1 hz) with rfl | hz
   ·omega
   ·exact h.1 z hz
theorem FI:∀ xs:List Int,(LJ xs).Pairwise (·≤·)
 | [] => .nil
 | x::xs=>J8 x (FI xs)
theorem NJ {xs ys:List Int} (h:ys.Perm xs) (hs:ys.Pairwise (·≤·)):ys=LJ xs :=
 List.Perm.eq_of_pairwise (le:=(·≤·)) (fun a b _ _ h1 h2=>Int.le_antisymm h1 h2) hs (FI xs) (h.trans (Ey xs).symm)
theorem IM (xs:List Int):xs.mergeSort (fun x y=>decide (x≤y))=LJ xs:=by
 refine NJ (List.mergeSort_perm _ _) ?_;have h:=List.pairwise_mergeSort (le:=fun x y:Int=>decide (x≤y)) (fun a b c h1 h2=>by simp at *;omega) (fun a b=>by simp;omega) xs;exact h.imp (fun h=>by simpa using h)
def Jk (xs:List Int):Option (List Int):=if xs.length≤1000000 then some (LJ xs) else none
theorem Tu {xs r:List Int} (h:Jk xs=some r):xs.length≤1000000∧r=LJ xs:=by
 unfold Jk at h;split at h
 ·cases h;exact ⟨by assumption,rfl⟩
 ·cases h
def Qp (F:Fence) (n:Nat) (P:Program) (g:Nat) (lb:Array Value) (S:List Int→Prop) (N:Nat) (w:World):Prop :=
 ∀ (l:Nat) (J:List Int→World→Prop) (W:World),Below w.heap.size w W→AbidesFrom W.heap.size J→(∀ pre W',J pre W'→Below w.heap.size w W') →
  (∀ pre x W1,J pre W1→pre.length < N→YieldAt F (n - 1) P l #[Value.int .i64 x] W1 fun e W'=>e = .returned (.bool true)∧J (pre++[x]) W'∧KeepsWalks W1 W') →
  J [] W →
  CallsIn F n P g (#[.func (.yield l) #[] #[]]++lb) W fun e W'=>(∃ v,e = .returned v)∧∃ xs,S xs∧J xs W'
def XW (n₀:Nat) (W:World) (sv:Value) (zs:List Int):Prop :=
 ∃ a cap,sv = .slice a zs.length cap∧(zs=[]∨∃ b off,a=some ⟨b,off,none⟩∧b < n₀∧∀ j,j < zs.length→W.cell? ⟨b,off+j,none⟩=some (.int .i64 (zs[j]?.getD 0)))
def Qr (P:Program) (g:Nat):Prop :=
 ∀ (n:Nat),1≤n→∀ (Bs o:Nat) (sv:Value) (zs:List Int) (w:World),zs.length≤1000000→Bs < w.heap.size→w.cell? ⟨Bs,o,none⟩=some sv→XW w.heap.size w sv zs →
  Qp Fence.wide n P g #[.pointer (some ⟨Bs,o,none⟩)] (fun ys=>ys=zs) zs.length w
def upto {α:Type} (f:Nat→α) (k:Nat):List α:=(List.range k).map f
theorem upto_succ {α:Type} (f:Nat→α) (k:Nat):upto f (k+1)=upto f k++[f k]:=by simp [upto,List.range_succ]
theorem upto_length {α:Type} (f:Nat→α) (k:Nat):(upto f k).length=k:=by simp [upto]
theorem upto_all (zs:List Int):upto (fun j=>zs[j]?.getD 0) zs.length=zs:=by
 apply List.ext_getElem
 ·simp [upto]
 ·intro i h1 h2;simp [upto,h2]
end Go.Lx
namespace Go.Proofs
open Go.RowKit Go.Maps Go.Sort Go.Shelf Go.Lx
variable {P:Program} {ρ:Ren}
set_option maxRecDepth 100000 in
set_option maxHeartbeats 2000000 in
theorem OW (L:SlLaysZI.n11 P ρ) (F:Fence) (n:Nat) (h11:F.fn (ρ.f 11)) (hro:F.round=none) (hn:2≤n) (g:Nat) (lb:Array Value) (hFg:F.fn g) (eg:∀ args w,(callFunc g args).run P w = .ok (.enter g args) w)
  (S:List Int→Prop) (N:Nat) (hN:N≤maxLen) (hNb:N * 8≤140737488355328) (w:World) (hseq:Qp F (n - 1) P g lb S N w) :
  CallsIn F n P (ρ.f 11) #[.slice none 0 0, .func (.func g) #[] lb] w fun e w'=>∃ (v:Value) (ss:List Int),e = .returned v∧S ss∧w'.ownsRow w.heap.size (ρ.t 26) 1 v ss.length (ss.map encZ)∧(v = .slice none 0 0↔ss=[])∧Below w.heap.size w w':=by
 have h1:1≤n:=by omega
 have mixed:=L.mixed;have t0:=L.t0;have a0:=L.a0;have z0:=L.z0;have v0:=L.v0;have t24:=L.t24;have a24:=L.a24;have z24:=L.z24;have v24:=L.v24;have t26:=L.t26;have a26:=L.a26;have z26:=L.z26;have v26:=L.v26;have t28:=L.t28;have a28:=L.a28;have z28:=L.z28;have v28:=L.v28;have hne:ρ.t 24≠ρ.t 26:=fun e=>by have h:=L.t24;rw [e,L.t26] at h;cases h
 have u0:=run_underlying L.t0;have u24:=run_underlying L.t24;have u26:=run_underlying L.t26;have u28:=run_underlying L.t28;obtain ⟨_,_,FG⟩:=L.f11;refine callsIn_of_wp_marks FG rfl h11 ?_ hro;simp only [SlBodyZ.n11_ntmps ρ,iH,dU,jy,Nat.reduceAdd,Nat.reduceSub,Array.replicate_succ,Array.replicate_zero,List.push_toArray,List.append_toArray,iU,je]
 gi_wp2
 refine wpIn_rangeFunc ?_;intro fn hfn;rw [hro];obtain ⟨W0,hW0⟩:∃ W0,w.alloc (.cells #[.slice none 0 0] (ρ.t 24))=W0:=⟨_,rfl⟩
 have hs0:W0.heap.size=w.heap.size+1:=by rw [← hW0];simp
 have hv0:W0.heap[w.heap.size]?=some (.cells #[.slice none 0 0] (ρ.t 24) (0,0)):=by rw [← hW0];exact World.alloc_heap_new w _
 have hb0:Below w.heap.size w W0:=by rw [← hW0];exact (Below.refl _ w).alloc (aZ _) _
 rw [hW0];obtain ⟨W1,hW1⟩:∃ W1,(W0.alloc (.deferred (some []))).alloc (.loop (AnyZI.apRec ρ fn (.func (.func g) #[] lb) w.heap.size W0.heap.size .ready none))=W1:=⟨_,rfl⟩
 have hold:∀ k,k < W0.heap.size→W1.heap[k]?=W0.heap[k]?:=fun k hk=>by
  rw [← hW1];exact (Below.heap_alloc _ _ k (by simp;omega)).trans (Below.heap_alloc _ _ k hk)
 have hb1:Below w.heap.size w W1:=by rw [← hW1];exact (hb0.alloc hb0.size _).alloc (by have:=hb0.size;simp;omega) _
 have hs1:W1.heap.size=W0.heap.size+2:=by rw [← hW1];simp
 have hM:AnyZI.ApAt ρ w fn (.func (.func g) #[] lb) w.heap.size (W0.heap.size+1) W0.heap.size [] W1 :=
  ⟨⟨_,(hold w.heap.size (by omega)).trans hv0,⟨rfl, .inl ⟨rfl,rfl⟩⟩,by simp⟩,
   by rw [← hW1];have:=World.alloc_heap_new (W0.alloc (.deferred (some []))) (.loop (AnyZI.apRec ρ fn (.func (.func g) #[] lb) w.heap.size W0.heap.size .ready none));rwa [World.size_alloc] at this,
   by rw [← hW1];exact (Below.heap_alloc _ _ _ (by simp)).trans (World.alloc_heap_new W0 _),hb1⟩
 refine ⟨W0.heap.size+1,[{ target := .collected W0.heap.size,args:=#[] }],W1,{ target := .fn (.func g) lb,args:=#[.func (.yield (W0.heap.size+1)) #[] #[]] },W1,g,
  #[.func (.yield (W0.heap.size+1)) #[] #[]]++lb,W1,?_,?_,?_,?_,fun _=>h1,?_⟩
 ·rw [← hW1];exact run_enterLoop_outer _ _ _ _ _
 ·simp [resolve,go_sem]
 ·intro f' hf';simp [Target.leads] at hf';subst hf';exact hFg
 ·simp [invoke,go_sem,eg]
 ·refine (hseq (W0.heap.size+1) (AnyZI.ApAt ρ w fn (.func (.func g) #[] lb) w.heap.size (W0.heap.size+1) W0.heap.size) W1 hb1 (AnyZI.ap_abides ρ _ _ _ _ _ _ _ hb1.size) (fun pre W' h=>h.below)
   (fun pre x W hJ hl=>AnyZI.apYield { L with } F (n - 1 - 1) w fn hfn _ w.heap.size (W0.heap.size+1) W0.heap.size (by omega) (by omega) (by omega) (aZ _) (by omega) N hN hNb pre x W hJ hl) hM).mono ?_
  rintro e W2 ⟨⟨v0,rfl⟩,ss,hS,h2⟩
  obtain ⟨v,hv,hrow,hnil⟩:=h2.box;have hend:=run_endLoop (P:=P) h2.L (by simp [AnyZI.apRec]);obtain ⟨W3,hW3⟩:∃ W3,W2.putObj (W0.heap.size+1) (.loop { AnyZI.apRec ρ fn (.func (.func g) #[] lb) w.heap.size W0.heap.size .ready none with state := .exhausted })=W3:=⟨_,rfl⟩
  rw [hW3] at hend;have hg3:W2.grownBy W3 (some (W0.heap.size+1)):=by rw [← hW3];exact grownBy_putObj_a _ _ _
  have hv3:W3.heap[w.heap.size]?=some (.cells #[v] (ρ.t 24) (0,0)):=by rw [← hW3];exact (World.putObj_heap_other (by omega)).trans hv
  have hK3:W3.heap[W0.heap.size]?=some (.deferred (some [])):=by rw [← hW3];exact (World.putObj_heap_other (by omega)).trans h2.K
  have hrow3:=hrow.kept hg3 (ownsRow_ne_a hrow h2.L (fun cur e=>by first | cases e | exact hne (Obj.cells.inj e).2.1));have hb3:Below w.heap.size w W3:=h2.below.grown hg3 h2.below.size (fun k e=>by cases e;omega);obtain ⟨hc3,hf3⟩:=cell_of_box_a hv3;clear hW3;refine ⟨none,W3,hend,?_⟩
  gi_wp2
  rw [← hs0];refine ⟨by simp, .inl ⟨_,_,rfl,run_takeDeferred hK3,?_⟩⟩;exact ⟨_,results_tmp rfl _ _ _,v,ss,rfl,hS,hrow3.kept (grownBy_putObj_a _ _ _) (ownsRow_ne_a hrow3 hK3 (fun cur e=>by first | cases e | exact hne (Obj.cells.inj e).2.1)),hnil,hb3.grown (grownBy_putObj_a _ _ _) hb3.size (fun k e=>by cases e;omega)⟩
set_option maxHeartbeats 1000000 in
theorem TE (L:SlLaysZI.n8 P ρ) (F:Fence) (n:Nat) (h8:F.fn (ρ.f 8)) (h11:F.fn (ρ.f 11)) (hro:F.round=none) (hn:3≤n) (g:Nat) (lb:Array Value) (hFg:F.fn g) (eg:∀ args w,(callFunc g args).run P w = .ok (.enter g args) w)
  (S:List Int→Prop) (N:Nat) (hN:N≤maxLen) (hNb:N * 8≤140737488355328) (w:World) (hseq:Qp F (n - 1 - 1) P g lb S N w) :
  CallsIn F n P (ρ.f 8) #[.func (.func g) #[] lb] w fun e w'=>∃ (v:Value) (ss:List Int),e = .returned v∧S ss∧w'.ownsRow w.heap.size (ρ.t 26) 1 v ss.length (ss.map encZ)∧(v = .slice none 0 0↔ss=[])∧Below w.heap.size w w':=by
 have h1:1≤n:=by omega
 have e11:∀ args w,(callFunc (ρ.f 11) args).run P w = .ok (.enter (ρ.f 11) args) w:=L.f11.enters rfl
 have mixed:=L.mixed;have t0:=L.t0;have a0:=L.a0;have z0:=L.z0;have v0:=L.v0;have t24:=L.t24;have a24:=L.a24;have z24:=L.z24;have v24:=L.v24;have t26:=L.t26;have a26:=L.a26;have z26:=L.z26;have v26:=L.v26;have t28:=L.t28;have a28:=L.a28;have z28:=L.z28;have v28:=L.v28;have u0:=run_underlying L.t0;have u24:=run_underlying L.t24;have u26:=run_underlying L.t26;have u28:=run_underlying L.t28;obtain ⟨_,_,FG⟩:=L.f8;refine callsIn_of_wp FG rfl h8 ?_ hro;simp only [SlBodyZ.n8_ntmps ρ,iH,dU,jy,Nat.reduceAdd,Nat.reduceSub,Array.replicate_succ,Array.replicate_zero,List.push_toArray,List.append_toArray,iU,je]
 gi_wp2_with (gi_at_fn (ρ.f 11);refine (OW { L with } F (n - 1) h11 hro (by omega) g lb hFg eg S N hN hNb _ hseq).mono ?_;rintro e w' ⟨v,ss,rfl,hS,hrow,hnil,hb⟩)
 go_ret
 exact ⟨v,ss,rfl,hS,hrow,hnil,hb⟩
set_option maxRecDepth 100000 in
set_option maxHeartbeats 2000000 in
theorem V9 (L:SlLaysZI.n6 P ρ) (F:Fence) (n:Nat) (h6:F.fn (ρ.f 6)) (h8:F.fn (ρ.f 8)) (h9:F.fn (ρ.f 9)) (h11:F.fn (ρ.f 11)) (hro:F.round=none) (hn:4≤n) (hsort:AnyZI.SortsIn P ρ F (n - 1)) (e9:∀ args w,(callFunc (ρ.f 9) args).run P w = .ok (.enter (ρ.f 9) args) w) (g:Nat) (lb:Array Value) (hFg:F.fn g) (eg:∀ args w,(callFunc g args).run P w = .ok (.enter g args) w)
  (zs:List Int) (hN:zs.length≤1000000) (w:World) (hseq:Qp F (n - 1 - 1 - 1) P g lb (fun ys=>ys=zs) zs.length w) :
  CallsIn F n P (ρ.f 6) #[.func (.func g) #[] lb] w fun e w'=>∃ (v:Value),e = .returned v ∧
   w'.ownsRow w.heap.size (ρ.t 26) 1 v zs.length ((LJ zs).map encZ)∧Below w.heap.size w w':=by
 have h1:1≤n:=by omega
 have e8:∀ args w,(callFunc (ρ.f 8) args).run P w = .ok (.enter (ρ.f 8) args) w:=L.f8.enters rfl
 have mixed:=L.mixed;have t0:=L.t0;have a0:=L.a0;have z0:=L.z0;have v0:=L.v0;have t24:=L.t24;have a24:=L.a24;have z24:=L.z24;have v24:=L.v24;have t26:=L.t26;have a26:=L.a26;have z26:=L.z26;have v26:=L.v26;have t28:=L.t28;have a28:=L.a28;have z28:=L.z28;have v28:=L.v28;have u0:=run_underlying L.t0;have u24:=run_underlying L.t24;have u26:=run_underlying L.t26;have u28:=run_underlying L.t28;have hml:(1000000:Nat)≤maxLen:=by decide
 obtain ⟨_,_,FG⟩:=L.f6;refine callsIn_of_wp FG rfl h6 ?_ hro;simp only [SlBodyZ.n6_ntmps ρ,iH,dU,jy,Nat.reduceAdd,Nat.reduceSub,Array.replicate_succ,Array.replicate_zero,List.push_toArray,List.append_toArray,iU,je]
 gi_wp2_with (gi_at_fn (ρ.f 8);refine (TE { L with } F (n - 1) h8 h11 hro (by omega) g lb hFg eg _ zs.length (by omega) (by omega) _ hseq).mono ?_;rintro e W ⟨v,ss,rfl,hS,hrow,hnil,hb⟩)
 subst hS;rcases hrow.2 with ⟨rfl,hz⟩ | ⟨gb,cap,cur,rfl,hbase,hgb,r1,r2,r3,r4⟩
 ·have hss:ss=[]:=cZ hz;subst hss
  gi_wp2_with (gi_at_fn (ρ.f 9);refine (hsort.2 none 0 W).mono ?_;rintro e w' ⟨rfl,rfl⟩)
  go_ret
  exact ⟨.slice none 0 0,rfl,by simpa [LJ] using hrow,hb⟩
 ·have hH:Holds encZ W gb 0 ss.toArray:=holds_of_block_i hgb (by simpa using r4);have hgl:gb < W.heap.size:=(aN.1 hgb).1;have hsz:ss.length < 4611686018427387904:=by omega
  have cS:=hsort.1 gb 0 cap ss W hH hgl hsz
  gi_wp2_with (gi_at_fn (ρ.f 9);refine cS.mono ?_;rintro e w' ⟨rfl,nn,os,rfl⟩)
  go_ret
  exact ⟨_,rfl,by rw [← IM];exact ownsRow_sorted_i (by simp) hbase hgb r1 r2 r3,hb.grown (grownBy_sorted_i _) hb.size (fun j hj=>by cases hj;exact hbase)⟩
end Go.Proofs
set_option linter.all false
namespace Go.Lx
open Go.RowKit Go.Proofs
theorem SV {P:Program} {V:View} {μ:Id→Pl} {w w':World} {out:Out} (I:Inv P V (uH out).get μ w) (B:Below w.heap.size w w') {x:D} {cv:Value}
  (hd:∀ V':View,V.Le V'→(∀ b c v,w.heap.size≤b→w'.cell? ⟨b,c,none⟩=some v→V'.cell b c v)→jL P V' x cv):Gj P V μ w out ⟨.d x,[]⟩ cv w':=by
 let V':View:=⟨fun b c v=>V.cell b c v∨(w.heap.size≤b∧w'.cell? ⟨b,c,none⟩=some v),V.map⟩
 have hV:V.Le V':=⟨fun _ _ _ h => .inl h,fun _ _ _ h=>h⟩
 have sc:∀ b c v,V'.cell b c v→w'.cell? ⟨b,c,none⟩=some v:=by
  rintro b c v (h | h)
  ·have h1:=I.cell b c v h;have h2:b < w.heap.size:=World.block_lt_of_cell? w _ h1;rw [← h1];unfold World.cell?;simp only [B.block b h2]
  ·exact h.2
 have sm:∀ r e c,V'.map r e c→w'.heap[r]?=some (.map e c):=by
  intro r e c h;have h1:=I.map r e c h;rw [B.block r (aN.1 h1).1];exact h1
 have I':Inv P V' (uH out).get μ w':=I.frame (fun b ho=>B.block b (ho.lt I)) hV (fun b c v h ho=>by
   rcases h with h | h
   ·exact h
   ·have:=ho.lt I;omega) (fun _ _ _ h _=>h) sc sm
 refine ⟨V',μ,[],?_,I',⟨fun g hg=>(by cases hg),fun g hg=>(by cases hg), .nil⟩,?_⟩
 ·simp only [fG];exact ⟨trivial, .d _ _ (hd V' hV fun b c v h1 h2 => .inr ⟨h1,h2⟩)⟩
 ·refine ⟨B.os,B.tape,B.output,B.size,fun b hb _=>B.block b hb,hV,fun b c v h=>?_,fun r e c h => .inl h,fun i b hb hn => .inl ⟨b,hb,hn,rfl⟩,fun i b hb=>⟨b,hb, .refl _ _⟩⟩;rcases h with h | h
  ·exact .inl h
  ·exact .inr (.inr h.1)
theorem SC {P:Program} {V:View} {h:Id→Option Blk} {μ:Id→Pl} {w:World} (I:Inv P V h μ w) {xs:List Int} {sv:Value} (hd:jL P V (.sl (xs.map dI)) sv):XW w.heap.size w sv xs:=by
 generalize hq:D.sl (xs.map dI)=q at hd;cases hd with
 | sl ys a c b o sz ev hc ha h1 hs hv =>
  cases hq;rw [iq] at *
  refine ⟨a,c,by simp,?_⟩;rcases ha with ha | rfl
  ·exact .inl (by simpa using ha)
  ·by_cases he:xs=[]
   ·exact .inl he
   right;have hcell:∀ j,j < xs.length→w.cell? ⟨b,o+j * sz,none⟩=some (.int .i64 (xs[j]?.getD 0))∧sz=1:=by
    intro j hj;have e1:(xs.map dI)[j]?=some (dI xs[j]):=by simp [hj]
    have r:=h1 j _ e1;have hev:ev j = .int .i64 xs[j]:=by
     generalize ev j=q at r;unfold dI at r;cases r;rfl
    have hz:=hs j (by simpa using hj);have ha:=hv j (by simpa using hj) 0 (.int .i64 xs[j]) (by rw [hev];rfl);rw [hev] at hz;have:=I.cell _ _ _ ha;refine ⟨?_,by simpa [Value.cells] using hz.symm⟩;rw [oL] at this;rw [this];simp [hj]
   have h0:0 < xs.length:=List.length_pos_iff.2 he;have hsz:=(hcell 0 h0).2;subst hsz;refine ⟨b,o,rfl,World.block_lt_of_cell? w _ (hcell 0 h0).1,fun j hj=>?_⟩;have:=(hcell j hj).1
   rwa [Nat.mul_one] at this
 | _=>cases hq
theorem WY {P:Program} {V:View} {w:World} {t n0:Nat} {v:Value} {xs:List Int} (hrow:w.ownsRow n0 t 1 v xs.length (xs.map (Value.int .i64))) (hV:∀ b c x,n0≤b→w.cell? ⟨b,c,none⟩=some x→V.cell b c x):jL P V (.sl (xs.map dI)) v:=by
 rcases hrow.2 with ⟨rfl,hz⟩ | ⟨gb,cap,cur,rfl,hbase,hgb,r1,r2,r3,r4⟩
 ·have:xs=[]:=cZ hz;subst this;exact .sl [] none 0 0 0 0 (fun _=>undef) (aZ _) (.inl rfl) (fun i d hd=>by simp at hd) (fun i hi=>by simp at hi) (fun i hi=>by simp at hi)
 ·have key:jL P V (.sl (xs.map dI)) (.slice (some ⟨gb,0,none⟩) (xs.map dI).length cap):=by
   refine .sl (xs.map dI) (some ⟨gb,0,none⟩) cap gb 0 1 (fun i => .int .i64 (xs[i]?.getD 0)) (by simpa using r1) (.inr rfl) ?_ ?_ ?_
   ·intro i d hd;simp only [bn,aJ] at hd;obtain ⟨z,h1,rfl⟩:=hd;simp only [h1,kJ];exact .int .i64 z
   ·intro i hi;rfl
   ·intro i hi j x hx;have hj:j=0∧x = .int .i64 (xs[i]?.getD 0):=by
     cases j with
     | zero=>simp [Value.cells] at hx;exact ⟨rfl,hx.symm⟩
     | succ j=>simp [Value.cells] at hx
    obtain ⟨rfl,rfl⟩:=hj;rw [iq] at hi;apply hV gb _ _ hbase;have hc:cur[i]?=some (.int .i64 (xs[i]?.getD 0)):=by
     have:(cur.toList.take (xs.length * 1))[i]?=(xs.map (Value.int .i64))[i]?:=by rw [r4]
     rw [List.getElem?_take_of_lt (by omega)] at this;simp only [Array.getElem?_toList,bn] at this;rw [this];simp [hi]
    unfold World.cell?;simp [hgb,hc]
  simpa using key
theorem VS {P:Program} {ρ:Go.Shelf.Ren} {gS gI:Nat} (hg:ρ.f 6=gS) (L:SlLaysZI.n6 P ρ) (hsort:∀ m,AnyZI.SortsIn P ρ Fence.wide m) (e9:∀ args w,(callFunc (ρ.f 9) args).run P w = .ok (.enter (ρ.f 9) args) w)
  (ent:zJ P gS) (eg:∀ args w,(callFunc gI args).run P w = .ok (.enter gI args) w) (hit:Qr P gI) {xs r:List Int} {out:Out} (h:Jk xs=some r) :
  dS P gS [.clo gI [.pimm (.sl (xs.map dI)) 0]] out ⟨.d (.sl (r.map dI)),[]⟩:=by
 obtain ⟨hl,rfl⟩:=Tu h;refine ⟨ent,fun V μ w cargs I R=>?_⟩;cases R with
 | cons _ v _ vs h1 h2 =>
 cases h2;cases h1 with
 | clo _ _ vs hn hc =>
 have h0:0 < vs.size:=by simp [hn]
 have hp:=hc 0 (.pimm (.sl (xs.map dI)) 0) vs[0] rfl (by simp [h0]);have hvs:vs=#[vs[0]]:=by
  apply Array.ext
  ·simpa using hn
  ·intro i h1 h2;have:i=0:=by simp at h2;omega
   subst this;rfl
 rw [hvs];generalize vs[0]=pv at hp;cases hp with
 | pimm _ _ ev b o hd hv =>
 have hcells:ev.cells[0]?=some ev:=by
  clear hv hc hvs hit;generalize hq:D.sl (xs.map dI)=q at hd;cases hd<;>first | rfl | cases hq
 have hcell:=I.cell _ _ _ (hv 0 ev hcells);have hb:b < w.heap.size:=World.block_lt_of_cell? w _ hcell;subst hg;refine callsIn_wide.1 ((V9 L Fence.wide 6 trivial trivial trivial trivial rfl (by omega) (hsort _) e9 gI #[.pointer (some ⟨b,o+0,none⟩)] trivial eg xs hl w (hit _ (by omega) b (o+0) ev xs w hl hb hcell (SC I hd))).mono ?_)
 rintro e w' ⟨v,rfl,hrow,hB⟩
 exact SV I hB fun V' _ hV=>WY (by simpa [(Ey xs).length_eq] using hrow) hV
end Go.Lx
set_option linter.all false
namespace Go.Lx
section
variable {P:Program}
structure StV (P:Program) (O:tV) (V:View) (μ:Id→Pl) (env:Env) (s:S) (a:Act) (w:World):Prop where
 I:Inv P V s.get μ w
 R:tN P V s.get μ env a.tmps
 E:Evo O.V O.h O.μ O.w V s.get μ w
 out:s.out=O.out
 n:a.tmps.size=O.n
 df:a.defers=[]
theorem StV.st {O:tV} {V:View} {μ:Id→Pl} {env:Env} {s:S} {a:Act} {w:World} (T:StV P O V μ env s a w):St P O env s a w:=⟨V,μ,T.I,T.R,T.E,T.out,T.n,T.df⟩
theorem St.v {O:tV} {env:Env} {s:S} {a:Act} {w:World} (T:St P O env s a w):∃ V μ,StV P O V μ env s a w:=by
 obtain ⟨V,μ,I,R,E,h1,h2,h3⟩:=T;exact ⟨V,μ,I,R,E,h1,h2,h3⟩
end
section
variable {P:Program} {σ:Type}
end
end Go.Lx
set_option linter.all false
namespace Go.Lx
section
variable {P:Program}
end
end Go.Lx
namespace Go.Lx
inductive RdA (s:S) (K:Id→Prop):A→D→Prop where
 | d (x:D):RdA s K (.d x) x
 | tight (xs:List D):RdA s K (.tight xs) (.sl xs)
 | pimm (e:D):RdA s K (.pimm e 0) (.pbox e)
 | ref {i:Id} {off len full sz:Nat} {l:Bool} {xs:List D} (hi:s.get i=some (.arr sz l xs)) (hk:K i) (hf:full=xs.length) (hl:off+len≤xs.length):RdA s K (.ref i off len full) (.sl ((xs.drop off).take len))
 | agg {cs:List A} {ds:List D} (hn:ds.length=cs.length) (h:∀ (k:Nat) a d,cs[k]?=some a→ds[k]?=some d→RdA s K a d):RdA s K (.agg cs) (.agg ds)
 | box {i:Id} {cs:List A} {y:D} (hi:s.get i=some (.box cs)) (hk:K i) (hn:y.cells.length=cs.length) (h:∀ (k:Nat) a d,cs[k]?=some a→y.cells[k]?=some d→RdA s K a d):RdA s K (.bptr i 0) (.pbox y)
 | nest {i:Id} {m sz:Nat} {xs:List (List A)} {ys:List D} (hi:s.get i=some (.nest sz xs)) (hk:K i) (hm:m=xs.length) (hn:ys.length=xs.length)
   (hs:∀ (j:Nat) e y,xs[j]?=some e→ys[j]?=some y→y.cells.length=e.length)
   (h:∀ (j:Nat) e y (k:Nat) a d,xs[j]?=some e→ys[j]?=some y→e[k]?=some a→y.cells[k]?=some d→RdA s K a d):RdA s K (.nref i m) (.sl ys)
 | map {i:Id} {kt:TypeId} {l:Bool} {es:List (D×D)} (hi:s.get i=some (.map kt l es)) (hk:K i):RdA s K (.mref i) (.mp kt es)
def aa8 (y:D) (vs:Array Value):Value :=
 match y with
 | .agg _ => .agg vs
 | _=>vs.getD 0 undef
theorem QE {P:Program} {V:View} {y:D} {vs:Array Value} (hn:vs.size=y.cells.length) (h:∀ (k:Nat) d v,y.cells[k]?=some d→vs[k]?=some v→jL P V d v∧Plain v):jL P V y (aa8 y vs)∧(aa8 y vs).cells=vs:=by
 have one:∀ y:D,y.cells=[y]→vs.size=y.cells.length→(∀ (k:Nat) d v,y.cells[k]?=some d→vs[k]?=some v→jL P V d v∧Plain v)→jL P V y (vs.getD 0 undef)∧(vs.getD 0 undef).cells=vs:=by
  intro y e hn h;rw [e] at hn h;have hl:0 < vs.size:=by rw [hn];simp
  have h0:vs[0]?=some (vs.getD 0 undef):=by simp [Array.getD,hl]
  obtain ⟨h1,h2⟩:=h 0 y _ rfl h0;refine ⟨h1,?_⟩;have hc:(vs.getD 0 undef).cells=#[vs.getD 0 undef]:=by
   generalize vs.getD 0 undef=q at h2;cases q<;>first | rfl | exact h2.elim
  rw [hc];apply Array.ext
  ·rw [hn];rfl
  ·intro i h3 h4;have:i=0:=by simp at h3;exact h3
   subst this;have:=dD h4;rw [h0] at this;simpa using jB this
 cases y with
 | agg cs=>exact ⟨.agg cs vs hn (fun i d v h1 h2=>(h i d v h1 h2).1) (fun i v hv=>by
   have hl:=(aN.1 hv).1;exact (h i _ v (au (by rw [← hn];exact hl)) hv).2),rfl⟩
 | _=>exact one _ rfl hn h
section
variable {P:Program} {V V':View} {μ:Id→Pl} {w:World} {s:S} {K:Id→Prop}
theorem mul_lt {i n sz k:Nat} (h:i < n) (hk:k < sz):i * sz+k < n * sz:=by
 calc i * sz+k < i * sz+sz:=by omega
  _=(i+1) * sz:=by rw [di,kL]
  _≤n * sz:=aV _ h
theorem RdA.rel {a:A} {x:D} (H:RdA s K a x) (I:Inv P V s.get μ w) (hV:V.Le V')
  (hc:∀ i b,s.get i=some b→K i→(μ i).nil=false→∀ c v,w.cell? ⟨(μ i).blk,c,none⟩=some v→V'.cell (μ i).blk c v)
  (hm:∀ i kt l es,s.get i=some (.map kt l es)→K i→∀ en cl,w.heap[(μ i).blk]?=some (.map en cl)→V'.map (μ i).blk en cl):∀ v,iO P V s.get μ a v→jL P V' x v:=by
 induction H with
 | d x=>intro v R;exact R.dOf.mono hV
 | tight xs=>intro v R;cases R with | tight _ a hd=>exact hd.mono hV
 | pimm e=>intro v R;cases R with | pimm _ _ ev b o hd hv=>exact .pbox e ev b o (hd.mono hV) (fun j x hx=>hV.cell _ _ _ (hv j x hx))
 | @ref i off len full sz l xs hi hk hf hl =>
  intro v R;cases R with
  | ref _ _ _ _ sz' l' xs' a c hi' hf' hv =>
   rw [hi] at hi';cases hi';have B:=I.blk i _ hi;refine vH (hv hf) hl (fun q=>?_) (fun q=>?_) (fun k d hd=>?_)
   ·rcases B with ⟨b1,_⟩ | ⟨_,b2,_⟩
    ·rw [q] at b1;cases b1
    ·exact b2
   ·rcases B with ⟨_,b2,_⟩ | ⟨b1,_⟩
    ·exact b2
    ·rw [q] at b1;cases b1
   ·rcases B with ⟨_,b2,_⟩ | ⟨b1,b2,b3,b4,cells,elem,b5,b6,hpl,ev,b7⟩
    ·subst b2;simp at hd
    ·obtain ⟨c1,c2,c3⟩:=b7 k d hd;refine ⟨ev k,c1.mono hV,c2,fun j v hv=>?_⟩;refine hc i _ hi hk b1 _ _ ?_;rw [cell_of_row w _ _ cells elem (0,0) b5];exact c3 j v hv
 | @agg cs ds hn h ih =>
  intro v R;cases R with
  | agg _ vs hn' hc' hp =>
   refine .agg ds vs (by omega) (fun k d v h1 h2=>?_) hp;have hk:k < cs.length:=by have:=(ay.1 h1).1;omega
   exact ih k _ d (au hk) h1 v (hc' k _ v (au hk) h2)
 | @box i cs y hi hk hn h ih =>
  intro v R;cases R with
  | bptr _ _ cs' hi' =>
   obtain ⟨b1,b3,cells,elem,b5,b6,b7⟩:=I.blk i _ hi;obtain ⟨e1,e2⟩:=QE (P:=P) (V:=V') (y:=y) (vs:=cells) (by omega) (fun k d v h1 h2=>by
    have hk:k < cs.length:=by have:=(ay.1 h1).1;omega
    obtain ⟨q1,q2⟩:=b7 k _ v (au hk) h2;exact ⟨ih k _ d (au hk) h1 v q1,q2⟩)
   refine .pbox y _ _ 0 e1 (fun j v hv=>?_);rw [e2] at hv;refine hc i _ hi hk b1 _ _ ?_;rw [cell_of_row w _ _ cells elem (0,0) b5,iV];exact hv
 | @nest i m sz xs ys hi hk hm hn hs h ih =>
  intro v R;cases R with
  | nref _ _ sz' xs' a c hi' hf' hv =>
   rw [hi] at hi';cases hi';have B:=I.blk i _ hi;have hlen:ys=(ys.drop 0).take m:=by rw [List.drop_zero,gK (by omega)]
   rw [hlen];refine vH (sz:=sz) (hv hm) (by omega) (fun q=>?_) (fun q=>?_) (fun k d hd=>?_)
   ·rcases B with ⟨b1,_⟩ | ⟨_,b2,_⟩
    ·rw [q] at b1;cases b1
    ·omega
   ·rcases B with ⟨_,b2,_⟩ | ⟨b1,_⟩
    ·subst b2;exact cZ hn
    ·rw [q] at b1;cases b1
   ·rcases B with ⟨_,b2,_⟩ | ⟨b1,b2,b3,cells,elem,b5,b6,hpl,b7⟩
    ·subst b2;rw [cZ hn] at hd;simp at hd
    ·have hkl:k < xs.length:=by have:=(ay.1 hd).1;omega
     have hxe:=au hkl;obtain ⟨c1,c2⟩:=b7 k _ hxe;have hsz:=hs k _ d hxe hd
     let vs:Array Value:=cells.extract (k * sz) (k * sz+sz)
     have hle:k * sz+sz≤cells.size:=by
      rw [b6]
      calc k * sz+sz=(k+1) * sz:=by rw [di,kL]
       _≤(μ i).cap * sz:=aV _ (by omega)
     have hvs:vs.size=sz:=by simp only [vs,Array.size_extract];omega
     have hget:∀ j v,vs[j]?=some v→cells[k * sz+j]?=some v∧j < sz:=by
      intro j v hj;have hjl:j < vs.size:=(aN.1 hj).1;have:vs[j]?=cells[k * sz+j]?:=by
       simp only [vs];rw [Array.getElem?_extract];rw [if_pos (by omega)]
      exact ⟨by rw [← this];exact hj,by omega⟩
     obtain ⟨e1,e2⟩:=QE (P:=P) (V:=V') (y:=d) (vs:=vs) (by omega) (fun q dd v h1 h2=>by
      obtain ⟨g1,g2⟩:=hget q v h2;have hq:q < (xs[k]).length:=by rw [c1];exact g2
      have ha:=au hq;exact ⟨ih k _ d q _ dd hxe hd ha h1 v (c2 q _ v ha g1),hpl _ v g1⟩)
     refine ⟨_,e1,by rw [e2];exact hvs,fun j v hv=>?_⟩;rw [e2] at hv;refine hc i _ hi hk b1 _ _ ?_;rw [cell_of_row w _ _ cells elem (0,0) b5];exact (hget j v hv).1
 | @map i kt l es hi hk =>
  intro v R;cases R with
  | mref _ kt' l' es' hi' =>
   obtain ⟨b1,b3,en,b5,b6,b7,b8⟩:=I.blk i _ hi;refine .mp kt es _ en es.length (hm i kt l es hi hk _ _ b5) b6 (fun k e m he hm=>(b7 k e m he hm).1.mono hV) (fun k e m he hm=>(b7 k e m he hm).2.1.mono hV) b8 rfl (fun k m hm=>?_);have hk:k < es.length:=by rw [← b6];exact (aN.1 hm).1
   exact (b7 k es[k] m (by simp [hk]) hm).2.2
end
def XK (w:World):View:=⟨fun b c v=>w.cell? ⟨b,c,none⟩=some v,fun r e c=>w.heap[r]?=some (.map e c)⟩
inductive RdL (s:S):List A→List D→Prop where
 | n:RdL s [] []
 | c {a:A} {x:D} {avs:List A} {xs:List D} (h:RdA s (fun _=>True) a x) (k:RdL s avs xs):RdL s (a::avs) (x::xs)
def aas:D→Bool
 | .int _ _ | .bool _ | .str _=>true
 | _=>false
def aaP:A→Bool
 | .d x=>aas x
 | .tup vs=>vs.all fun v=>(match v with | .d x=>aas x | _=>false)
 | _=>false
theorem QY {P:Program} {V V':View} {x:D} {v:Value} (h:aas x=true) (H:jL P V x v):jL P V' x v:=by
 cases x<;>first | cases h | skip
 ·cases H;constructor
 ·cases H;constructor
 ·cases H;constructor
theorem Xz {P:Program} {V V':View} {h h':Id→Option Blk} {μ μ':Id→Pl} {x:A} {v:Value} (hf:aaP x=true) (H:iO P V h μ x v):iO P V' h' μ' x v:=by
 cases x<;>first | cases hf | skip
 ·exact .d _ _ (QY hf H.dOf)
 ·rename_i vs
  cases H with
  | tup _ us hn hc =>
   refine .tup vs us hn (fun i d v h1 h2=>?_);have hm:=aY.1 hf d (bz h1);cases d<;>first | cases hm | skip
   exact .d _ _ (QY hm (hc i _ v h1 h2).dOf)
theorem Xy {x:A} (hf:aaP x=true):x.wJ=false:=by
 have all:∀ vs:List A,(vs.all fun v=>(match v with | .d x=>aas x | _=>false))=true→A.BP vs=false:=by
  intro vs
  induction vs with
  | nil=>intro _;rfl
  | cons v vs ih =>
   intro h;simp only [mg,aS] at h;simp only [A.BP,ih h.2,Bool.or_false];cases v<;>first | rfl | (simp at h)
 cases x<;>first | rfl | cases hf | skip
 exact all _ hf
section
variable {P:Program} {env:Env} {s:S} {dst:Option Nat} {ty:TypeId} {pos:String} {af:Array Edge} {gd:Option (Nat×Bool)}
theorem RdL.rel {V V':View} {μ:Id→Pl} {w:World} {avs:List A} {ds:List D} (H:RdL s avs ds) (I:Inv P V s.get μ w) (hV:V.Le V')
  (hc:∀ i b,s.get i=some b→(μ i).nil=false→∀ c v,w.cell? ⟨(μ i).blk,c,none⟩=some v→V'.cell (μ i).blk c v)
  (hm:∀ i kt l es,s.get i=some (.map kt l es)→∀ en cl,w.heap[(μ i).blk]?=some (.map en cl)→V'.map (μ i).blk en cl) {h:Id→Option Blk} {μ':Id→Pl} :
  ∀ {vs:List Value},iE P V s.get μ avs vs→iE P V' h μ' (ds.map .d) vs:=by
 induction H with
 | n=>intro vs R;cases R;exact .nil
 | c h k ih =>
  intro vs R;cases R with
  | cons _ v _ _ r1 r2=>exact .cons _ _ _ _ (.d _ _ (h.rel I hV (fun i b q _=>hc i b q) (fun i kt l es q _=>hm i kt l es q) v r1)) (ih r2)
theorem Vk:(uH []).get=fun _=>none:=by
 funext i
 unfold uH S.get S.dep;by_cases e:i.d=0
 ·rw [if_pos (by simpa using e)];rfl
 ·rw [if_neg (by simpa using e),if_neg (by simp)]
theorem clB {args:Array Operand} {ts:Array TypeId} {avs caps:List A} {ds:List D} {g:FuncId} {x:Operand} {v:A} (hx:ul env x g caps) (ha:dO (look env) args.toList=some avs) (hr:RdL s (avs++caps) ds)
  (hf:dS P g (ds.map .d) [] ⟨v,[]⟩) (hv:aaP v=true):iL P env s ⟨dst, .call ⟨.value x,args,ts⟩,ty,pos,af,gd⟩ v .same:=by
 refine ⟨.inr ⟨rfl,fun V μ w I a R K Q hK=>?_⟩⟩;have RA:iE P V s.get μ avs (args.toList.map a.eval):=by
  have key:∀ (xs:List Operand) (vs:List A),(∀ y∈xs,y∈args.toList)→dO (look env) xs=some vs→iE P V s.get μ vs (xs.map a.eval):=by
   intro xs
   induction xs with
   | nil=>intro vs _ e;simp only [dO] at e;cases e;exact .nil
   | cons y xs ih =>
    intro vs hy e;simp only [dO] at e;split at e
    ·rename_i v vs' h1 h2
     cases e;exact .cons v _ _ _ (R y (by have:=hy y (.head _);simp [Op.operands,Call.operands];first | (right;simpa using this) | simpa using this) v h1) (ih vs' (fun z hz=>hy z (.tail _ hz)) h2)
    ·cases e
  exact key _ _ (fun _ h=>h) ha
 have hmap:args.map a.eval=(args.toList.map a.eval).toArray:=by apply mO;simp
 have fin:∀ (ccaps:List Value),iE P V s.get μ caps ccaps→execOp a.eval ⟨dst, .call ⟨.value x,args,ts⟩,ty,pos,af,gd⟩=callFunc g (args.toList.map a.eval++ccaps).toArray→Oper.wp P (⟨dst, .call ⟨.value x,args,ts⟩,ty,pos,af,gd⟩:Oper) a w K Q:=by
  intro ccaps RC hex;have RR:=RA.append RC;have hV:V.Le (XK w):=⟨I.cell,I.map⟩
  have RD:=hr.rel (V':=XK w) (h:=(uH []).get) (μ':=μ) I hV (fun i b _ _ c v h=>h) (fun i kt l es _ en cl h=>h) RR;have I0:Inv P (XK w) (uH []).get μ w:=by
   rw [Vk];exact ⟨fun i b h=>(by cases h),fun i j b b' h=>(by cases h),fun b c v h=>h,fun r e c h=>h,fun i b h=>(by cases h)⟩
  have hcall:=hf.ok (XK w) μ w _ I0 RD;refine abl (c:=bc P) (by rw [hex];exact FV (c:=bc P) hf.ent _) (R:=fun cv w'=>Left P V s μ w (Delta.same.apply s) v cv w') (Calls.mono hcall ?_) (fun cv w' h=>hK cv w' h);intro en w' hen;cases en with
  | panicked ch=>exact hen
  | outgrown=>exact hen
  | returned cv =>
   simp only at hen ⊢;obtain ⟨V',μ',gs,h1,h2,h3,h4⟩:=hen;have hrel:=IQ _ h1 (Xy hv);have hold:∀ b,b < w.heap.size→w'.heap[b]?=w.heap[b]?:=fun b hb=>h4.rest b hb (by
    rintro ⟨i,x,hx,_⟩
    rw [Vk] at hx;cases hx)
   have cellOld:∀ b c v,V.cell b c v→w'.cell? ⟨b,c,none⟩=some v:=by
    intro b c v hv;have q1:=I.cell b c v hv;have q2:b < w.heap.size:=World.block_lt_of_cell? w _ q1;rw [← q1];unfold World.cell?;simp only [hold b q2]
   have mapOld:∀ r e c,V.map r e c→w'.heap[r]?=some (.map e c):=by
    intro r e c hv;have q1:=I.map r e c hv;rw [hold r (aN.1 q1).1,q1]
   refine ⟨V,μ,Xz hv hrel,?_,?_,rfl⟩
   ·exact I.frame (fun k ho=>hold k (ho.lt I)) (.refl V) (fun _ _ _ x _=>x) (fun _ _ _ x _=>x) cellOld mapOld
   ·exact ⟨h4.os,h4.tape,h4.output,h4.size,fun b hb _=>hold b hb, .refl V,fun _ _ _ x => .inl x,fun _ _ _ x => .inl x,fun i b hi hn => .inl ⟨b,hi,hn,rfl⟩,fun i b hb=>⟨b,hb, .refl _ _⟩⟩
 rcases hx.h with ⟨h,rfl⟩ | h
 ·have hg:=(R x (by simp [Op.operands,Call.operands]) _ h).dOf;have hgv:a.eval x = .func (.func g) #[] #[]:=by
   generalize a.eval x=q at hg;cases hg;rfl
  refine fin [] .nil ?_;simp [execOp,resolve,hgv,Deferred.ofValue,invoke,hmap]
 ·have hg:=R x (by simp [Op.operands,Call.operands]) _ h;generalize hq:a.eval x=q at hg;cases hg with
  | clo _ _ us hn hc =>
   refine fin us.toList (.of (by simpa using hn) (fun i d v hd hv=>hc i d v hd (by simpa using hv))) ?_;have happ:((args.toList.map a.eval).toArray++us:Array Value)=(args.toList.map a.eval++us.toList).toArray:=by apply mO;simp
   simp [execOp,resolve,hq,Deferred.ofValue,invoke,hmap,happ]
end
end Go.Lx
namespace Go.Lx
mutual
theorem A.Ce {σ:Id→Id}:∀ (a:A),(∀ i∈a.ids,σ i=i)→a.ren σ=a
 | .agg cs,h=>by simp only [A.ren];rw [A.AP cs h]
 | .tup cs,h=>by simp only [A.ren];rw [A.AP cs h]
 | .clo _ cs,h=>by simp only [A.ren];rw [A.AP cs h]
 | .ref i _ _ _,h=>by simp only [A.ren];rw [h i (by simp [A.ids])]
 | .rcap i _ _ _ _,h=>by simp only [A.ren];rw [h i (by simp [A.ids])]
 | .bptr i _,h=>by simp only [A.ren];rw [h i (by simp [A.ids])]
 | .bref i _,h=>by simp only [A.ren];rw [h i (by simp [A.ids])]
 | .nref i _,h=>by simp only [A.ren];rw [h i (by simp [A.ids])]
 | .nptr i _ _ _,h=>by simp only [A.ren];rw [h i (by simp [A.ids])]
 | .tref i _ _,h=>by simp only [A.ren];rw [h i (by simp [A.ids])]
 | .tptr i _ _,h=>by simp only [A.ren];rw [h i (by simp [A.ids])]
 | .eptr i _ _ _,h=>by simp only [A.ren];rw [h i (by simp [A.ids])]
 | .mref i,h=>by simp only [A.ren];rw [h i (by simp [A.ids])]
 | .iter _,_=>rfl
 | .undef,_=>rfl
 | .unk,_=>rfl
 | .d _,_=>rfl
 | .tight _,_=>rfl
 | .own _ _,_=>rfl
 | .pimm _ _,_=>rfl
theorem A.AP {σ:Id→Id}:∀ (cs:List A),(∀ i∈A.oq cs,σ i=i)→A.xO σ cs=cs
 | [],_=>rfl
 | a::cs,h=>by
  simp only [A.xO];rw [A.Ce a (fun i hi=>h i (by simp only [A.oq,aP];exact .inl hi)),A.AP cs (fun i hi=>h i (by simp only [A.oq,aP];exact .inr hi))]
end
theorem Vz {σ:Id→Id} (xs:List (List A)) (h:∀ i∈A.oq xs.flatten,σ i=i):xs.map (A.xO σ)=xs:=by
 induction xs with
 | nil=>rfl
 | cons x xs ih =>
  simp only [List.flatten_cons,tC] at h;simp only [gB];rw [A.AP x (fun i hi=>h i (aP.2 (.inl hi))),ih (fun i hi=>h i (aP.2 (.inr hi)))]
mutual
theorem Blk.Ce {σ:Id→Id}:∀ (b:Blk),(∀ i∈b.ids,σ i=i)→b.ren σ=b
 | .box cs,h=>by simp only [Blk.ren];rw [A.AP cs h]
 | .nest sz xs,h=>by simp only [Blk.ren];rw [Vz xs h]
 | .fam rows,h=>by simp only [Blk.ren];rw [Blk.Q5 rows h]
 | .arr _ _ _,_=>rfl
 | .map _ _ _,_=>rfl
 | .gap,_=>rfl
 | .tail _ _ _,_=>rfl
theorem Blk.Q5 {σ:Id→Id}:∀ (rows:List Blk),(∀ i∈Blk.oq rows,σ i=i)→Blk.Yj σ rows=rows
 | [],_=>rfl
 | b::r,h=>by
  simp only [Blk.Yj];rw [Blk.Ce b (fun i hi=>h i (by simp only [Blk.oq,aP];exact .inl hi)),Blk.Q5 r (fun i hi=>h i (by simp only [Blk.oq,aP];exact .inr hi))]
end
section
variable {P:Program} {env env':Env} {loc loc':Loc} {out:Out} {chg:List (Option Loc)}
theorem yH (l l':Loc) (i:Id) (h:i.d≠out.length):S.get ⟨l,out,chg⟩ i=S.get ⟨l',out,chg⟩ i:=by
 unfold S.get S.cur S.dep;rw [if_neg h,if_neg h]
theorem qj (l:Loc) (i:Id) (h:i.d=out.length):S.get ⟨l,out,chg⟩ i=dG l i.t i.n:=by
 unfold S.get S.dep;rw [if_pos h]
theorem Le.aaM {env1:Env} {loc1:Loc} {t:Nat} {v:A} {x:D} (hT:Trim env ⟨loc,out,chg⟩ env1 ⟨loc1,out,chg⟩) (hv:look env t=some v)
  (hr:RdA ⟨loc,out,chg⟩ (fun i=>i.d=out.length∧dG loc1 i.t i.n=none) v x):Le P env ⟨loc,out,chg⟩ ((t, .d x)::env1) ⟨loc1,out,chg⟩:=by
 refine ⟨fun O a w T=>?_⟩;have T1:=T.trim hT;obtain ⟨V,μ,I,R,E,hdep,hsz,hdf⟩:=T;have hO:O.out.length=out.length:=by rw [← hdep]
 have sub:∀ i b,S.get ⟨loc1,out,chg⟩ i=some b→S.get ⟨loc,out,chg⟩ i=some b:=by
  intro i b hb;by_cases e:i.d=out.length
  ·rw [qj _ i e] at hb ⊢;exact hT.loc _ _ _ hb
  ·rw [yH _ loc i e] at hb;exact hb
 have hkeep:∀ j,j∈uG env1∨j∈ut loc1→∀ b,S.get ⟨loc,out,chg⟩ j=some b→S.get ⟨loc1,out,chg⟩ j=some b:=by
  intro j hj b hb;by_cases e:j.d=out.length
  ·rcases hT.ids with hs | hids
   ·rw [hs];exact hb
   ·obtain ⟨b',hb'⟩:=hids j hj e;have:=hT.loc _ _ _ hb';rw [qj _ j e] at hb ⊢;rw [show dG loc j.t j.n=some b' from this] at hb;rw [show dG loc1 j.t j.n=some b' from hb',← hb]
  ·rw [yH _ loc j e];exact hb
 have hclosed:∀ i c,S.get ⟨loc1,out,chg⟩ i=some c→∀ j∈c.ids,∀ b,S.get ⟨loc,out,chg⟩ j=some b→S.get ⟨loc1,out,chg⟩ j=some b:=by
  intro i c hi j hj b hb;by_cases e1:i.d=out.length
  ·have hi':dG loc1 i.t i.n=some c:=by rw [qj _ i e1] at hi;exact hi
   exact hkeep j (.inr (Dl hi' hj)) b hb
  ·have hle:=I.tidy i c (sub i _ hi) j hj;have hlt:=S.xm (sub i _ hi);have:S.dep ⟨loc,out,chg⟩=out.length:=rfl;rw [yH _ loc j (by omega)];exact hb
 let V':View:=⟨fun b c v=>V.cell b c v∨∃ i blk,S.get ⟨loc,out,chg⟩ i=some blk∧(i.d=out.length∧dG loc1 i.t i.n=none)∧(μ i).nil=false∧(μ i).blk=b∧w.cell? ⟨b,c,none⟩=some v,
  fun r e c=>V.map r e c∨∃ i kt l es,S.get ⟨loc,out,chg⟩ i=some (.map kt l es)∧(i.d=out.length∧dG loc1 i.t i.n=none)∧(μ i).blk=r∧w.heap[r]?=some (.map e c)⟩
 have hV:V.Le V':=⟨fun _ _ _ h => .inl h,fun _ _ _ h => .inl h⟩
 have gone:∀ i,i.d=out.length∧dG loc1 i.t i.n=none→S.get ⟨loc1,out,chg⟩ i=none:=fun i h=>by rw [qj _ i h.1];exact h.2
 have mapnil:∀ i kt l es,S.get ⟨loc,out,chg⟩ i=some (.map kt l es)→(μ i).nil=false:=fun i kt l es h=>(I.blk i _ h).1
 have I1:Inv P V (S.get ⟨loc1,out,chg⟩) μ w:=I.sub sub hclosed;have I2:Inv P V' (S.get ⟨loc1,out,chg⟩) μ w:=by
  refine I1.frame (fun _ _=>rfl) hV ?_ ?_ ?_ ?_
  ·rintro b c v (q | ⟨i,blk,h1,h2,h3,h4,h5⟩) ⟨j,y,hy,hn,hb⟩
   ·exact q
   ·exfalso
    have hne:i≠j:=by rintro rfl;rw [gone i h2] at hy;cases hy
    exact I.apart i j _ _ h1 (sub j y hy) hne h3 hn (by rw [h4,hb])
  ·rintro r e c (q | ⟨i,kt,l,es,h1,h2,h4,h5⟩) ⟨j,y,hy,hn,hb⟩
   ·exact q
   ·exfalso
    have hne:i≠j:=by rintro rfl;rw [gone i h2] at hy;cases hy
    exact I.apart i j _ _ h1 (sub j y hy) hne (mapnil i _ _ _ h1) hn (by rw [h4,hb])
  ·rintro b c v (q | ⟨i,blk,h1,h2,h3,h4,h5⟩)
   ·exact I.cell b c v q
   ·exact h5
  ·rintro r e c (q | ⟨i,kt,l,es,h1,h2,h4,h5⟩)
   ·exact I.map r e c q
   ·exact h5
 have ownO:∀ i b,S.get ⟨loc,out,chg⟩ i=some b→(μ i).nil=false→qp O.h O.μ (μ i).blk∨O.w.heap.size≤(μ i).blk:=fun i b hi hn=>by
  rcases E.place i b hi hn with ⟨b0,q1,q2,q3⟩ | q
  ·exact .inl ⟨i,b0,q1,q2,q3⟩
  ·exact .inr q
 refine ⟨V',μ,I2,?_,?_,hdep,hsz,hdf⟩
 ·intro u y hy;simp only [look] at hy;split at hy
  ·rename_i e
   subst e;cases hy;refine .d _ _ (hr.rel I hV (fun i b hi hk hn c v hc => .inr ⟨i,b,hi,hk,hn,rfl,hc⟩) (fun i kt l es hi hk en cl hm => .inr ⟨i,kt,l,es,hi,hk,rfl,hm⟩) _ (R u v hv))
  ·obtain ⟨v0,h1,h2⟩:=hT.env u y hy;have h3:=h2.ok _ _ _ _ _ (R u v0 h1);exact h3.mono hV (fun j hj b hb=>⟨b,hkeep j (.inl (Gs hy j hj)) b hb, .refl _ _⟩)
 ·refine ⟨E.os,E.tape,E.output,E.size,E.rest,E.view.trans hV,?_,?_,fun i b hi hn=>E.place i b (sub i b hi) hn,fun i b hi=>?_⟩
  ·rintro b c v (q | ⟨i,blk,h1,h2,h3,rfl,h5⟩)
   ·exact E.newc b c v q
   ·exact .inr (ownO i blk h1 h3)
  ·rintro r e c (q | ⟨i,kt,l,es,h1,h2,rfl,h5⟩)
   ·exact E.newm r e c q
   ·exact .inr (ownO i _ h1 (mapnil i _ _ _ h1))
  ·obtain ⟨b',h1,h2⟩:=E.keep i b hi;have hl:=O.low i b hi;exact ⟨b',by rw [yH _ loc i (by omega)];exact h1,h2⟩
end
end Go.Lx
namespace Go.Lx
inductive Slot (α:Type) where
 | c (f:α→D)
 | h (t sz:Nat) (len:α→Nat) (g:α→List D)
def Slot.cell {α:Type} (d j:Nat) (x:α):Slot α→A
 | .c f => .d (f x)
 | .h t _ len _ => .ref ⟨d,t,j⟩ 0 (len x) (len x)
def Slot.datum {α:Type} (x:α):Slot α→D
 | .c f=>f x
 | .h _ _ _ g => .sl (g x)
def xW {α:Type} (d:Nat) (sl:List (Slot α)) (j:Nat) (x:α):List A:=sl.map (Slot.cell d j x)
def wB {α:Type} (d:Nat) (sl:List (Slot α)):Nat→List α→List (List A)
 | _,[]=>[]
 | j,x::xs=>xW d sl j x::wB d sl (j+1) xs
def nM {α:Type} (d:Nat) (sl:List (Slot α)) (xs:List α):List (List A):=wB d sl 0 xs
def qo {α:Type} (sz:Nat) (g:α→List D) (xs:List α):Blk := .fam (xs.map fun x => .arr sz false (g x))
section
variable {α:Type} {d:Nat} {sl:List (Slot α)}
theorem FN:∀ (xs:List α) (j:Nat),(wB d sl j xs).length=xs.length
 | [],_=>rfl
 | x::xs,j=>by simp [wB,FN xs (j+1)]
theorem kY (xs:List α):(nM d sl xs).length=xs.length:=FN xs 0
theorem FM:∀ (xs:List α) (j i:Nat),(wB d sl j xs)[i]?=(xs[i]?).map (xW d sl (j+i))
 | [],_,_=>rfl
 | x::xs,j,0=>rfl
 | x::xs,j,i+1=>by simp only [wB,lq];rw [FM xs (j+1) i,show j+1+i=j+(i+1) by omega]
theorem sF (xs:List α) (i:Nat):(nM d sl xs)[i]?=(xs[i]?).map (xW d sl i):=by
 unfold nM;rw [FM,iV]
theorem NY (xs:List α) (i:Nat) (x:α):nM d sl (xs.set i x)=(nM d sl xs).set i (xW d sl i x):=by
 apply lV;intro k;rw [sF,jV,jV,kY,sF];by_cases e:i=k
 ·subst e;by_cases q:i < xs.length<;>simp [q]
 ·simp [e]
theorem Kt {xs:List α} {i:Nat} {a x:α} (ha:xs[i]?=some a) (h:xW d sl i x=xW d sl i a):nM d sl (xs.set i x)=nM d sl xs:=by
 rw [NY,h];apply lV;intro k;rw [jV,kY,sF];by_cases e:i=k
 ·subst e;obtain ⟨hl,hq⟩:=ay.1 ha;simp [hl,hq]
 ·simp [e]
theorem NW (xs:List α) (x:α):nM d sl (xs++[x])=nM d sl xs++[xW d sl xs.length x]:=by
 apply lV;intro k;rw [sF];by_cases e:k < xs.length
 ·rw [bK e,bK (by rw [kY];exact e),sF]
 ·rw [dF (by omega),dF (by rw [kY];omega),kY];by_cases q:k=xs.length
  ·subst q;simp
  ·have:∃ m,k - xs.length=m+1:=⟨k - xs.length - 1,by omega⟩
   obtain ⟨m,hm⟩:=this;simp [hm]
theorem Uu (j:Nat) (x:α):(xW d sl j x).length=sl.length:=by simp [xW]
theorem rU {sz:Nat} {g:α→List D} (xs:List α) (m n:Nat):(qo sz g xs).view m n=(xs[n]?).map fun x => .arr sz false (g x):=by
 simp [qo,Blk.view]
def Slot.keys:List (Slot α)→List Nat
 | []=>[]
 | .c _::r=>Slot.keys r
 | .h t _ _ _::r=>t::Slot.keys r
theorem Ut {j:Nat} {x:α} {i:Id} (h:i∈A.oq (xW d sl j x)):i.d=d∧i.n=j∧i.t∈Slot.keys sl:=by
 induction sl with
 | nil=>cases h
 | cons s r ih =>
  cases s with
  | c f =>
   simp only [xW,gB,Slot.cell,A.oq,A.ids,iU] at h;exact ih h
  | h t sz len g =>
   simp only [xW,gB,Slot.cell,A.oq,A.ids,aP,eY] at h;rcases h with h | h
   ·subst h;exact ⟨rfl,rfl, .head _⟩
   ·obtain ⟨h1,h2,h3⟩:=ih h;exact ⟨h1,h2, .tail _ h3⟩
theorem wM {xs:List α} {i:Id} (h:i∈A.oq (nM d sl xs).flatten):i.d=d∧i.n < xs.length∧i.t∈Slot.keys sl:=by
 obtain ⟨k,a,h1,h2⟩:=yI h;obtain ⟨e,q1,q2⟩:=List.mem_flatten.1 (bz h1);obtain ⟨n,hn⟩:=gm.1 q1;rw [sF] at hn;obtain ⟨x,hx,rfl⟩:=aJ.1 hn;obtain ⟨r1,r2,r3⟩:=Ut (IL q2 h2);exact ⟨r1,by rw [r2];exact (ay.1 hx).1,r3⟩
end
section
variable {α:Type} {loc loc':Loc} {out:Out} {chg:List (Option Loc)} {sz:Nat} {g:α→List D} {xs:List α} {t m:Nat}
theorem pF {xs:List α} {n:Int} {a:α} (h:at_ xs n=some a):xs[n.toNat]?=some a∧0≤n∧n < xs.length:=by
 unfold at_ at h;split at h
 ·rename_i h0
  have:=(ay.1 h).1;exact ⟨h,h0,by omega⟩
 ·cases h
theorem lK {j:Nat} {a:α} (hl:rV loc t=some (qo sz g xs)) (ha:xs[j]?=some a):dG loc t j=some (.arr sz false (g a)):=by
 refine Ia (rows:=xs.map fun x => .arr sz false (g x)) hl ?_;rw [bn,ha];rfl
theorem rw0 {n:Int} {a:α} (hl:rV loc t=some (qo sz g xs)) (ha:at_ xs n=some a):zk ⟨loc,out,chg⟩ ⟨out.length,t,n.toNat⟩ (.arr sz false (g a)) :=
 ⟨by rw [jF];exact lK hl (pF ha).1⟩
theorem CO.row {n:Int} {a b:α} (ha:at_ xs n=some a) {ys:List D} (hy:g b=ys):CO (((t,m),qo sz g xs)::loc) t n.toNat (.arr sz false ys) (((t,m),qo sz g (xs.set n.toNat b))::loc):=by
 subst hy;have h:=CO.r (t:=t) (y := .arr sz false (g b)) (l:=loc) (show (qo sz g xs).view m n.toNat=some (.arr sz false (g a)) by rw [rU,(pF ha).1];rfl);have e:(qo sz g xs).into n.toNat (.arr sz false (g b))=qo sz g (xs.set n.toNat b):=by
  simp only [qo,Blk.into,List.map_set]
 rw [e] at h;exact h
theorem suR {c0 cl cl':Loc} {t n:Nat} {b:Blk} (h:CO cl t n b cl'):JR ⟨loc,[c0],[some cl]⟩ ⟨0,t,n⟩ b ⟨loc,[c0],[some cl']⟩:=⟨by
 show (⟨loc,[c0],[some (setB cl t n b)]⟩:S)=_
 rw [h.eq],fun hg=>by
  have hg':dG cl t n=some b:=hg;rw [h.same hg']⟩
end
section
variable {P:Program} {env:Env} {loc:Loc} {out:Out} {chg:List (Option Loc)} {d:Nat} {ty:TypeId} {pos:String} {af:Array Edge} {gd:Option (Nat×Bool)} {α:Type}
def Vb (l:Loc) (t:Nat):Bool:=l.all fun e=>!Nat.beq e.1.1 t
theorem EL {l:Loc} {t:Nat} (h:Vb l t=true) (n:Nat):dG l t n=none:=H9 fun e he q=>by
 have:=aY.1 h e he;simp [q] at this
theorem VW {V:View} {μ:Id→Pl} {w w':World} {cv:Value} {n m tf sz:Nat} {len:α→Nat} {g:α→List D} {zs:List α} (I:Inv P V (S.get ⟨loc,out,chg⟩) μ w)
  (h:Left P V ⟨loc,out,chg⟩ μ w ⟨((d,n), .arr 1 false (zs.map fun _ => .nilsl))::loc,out,chg⟩ (.ref ⟨out.length,d,n⟩ 0 m m) cv w') (hm:m=zs.length) (hz:∀ x∈zs,len x=0∧g x=[])
  (hn:dG loc d n=none) (hf:Vb loc tf=true) (hdt:Nat.beq d tf=false) :
  Left P V ⟨loc,out,chg⟩ μ w ⟨((d,n), .nest 1 (nM out.length [.h tf sz len g] zs))::((tf,0),qo sz g zs)::loc,out,chg⟩ (.nref ⟨out.length,d,n⟩ m) cv w':=by
 obtain ⟨V1,μ1,h1,h2,h3,h4⟩:=h;have hdtf:d≠tf:=fun e=>by rw [e] at hdt;simp at hdt
 let i0:Id:=⟨out.length,d,n⟩
 generalize hs:(⟨loc,out,chg⟩:S)=s at *
 generalize hs1:(⟨((d,n), .arr 1 false (zs.map fun _ => .nilsl))::loc,out,chg⟩:S)=s1 at *
 generalize hs2:(⟨((d,n), .nest 1 (nM out.length [.h tf sz len g] zs))::((tf,0),qo sz g zs)::loc,out,chg⟩:S)=s2 at *
 have hdp:s.dep=out.length:=by subst hs;rfl
 have own:∀ i,i.d=out.length→s.get i=dG loc i.t i.n:=by intro i h;subst hs;exact qj _ i h
 have far1:∀ i,i.d≠out.length→s1.get i=s.get i:=by intro i h;subst hs hs1;exact yH _ _ i h
 have far2:∀ i,i.d≠out.length→s2.get i=s.get i:=by intro i h;subst hs hs2;exact yH _ _ i h
 have at1:s1.get i0=some (.arr 1 false (zs.map fun _ => .nilsl)):=by subst hs1;rw [qj _ _ rfl,kN rfl];simp [i0]
 have at2:s2.get i0=some (.nest 1 (nM out.length [.h tf sz len g] zs)):=by subst hs2;rw [qj _ _ rfl,kN rfl];simp [i0]
 have none0:s.get i0=none:=by rw [own _ rfl];exact hn
 have ne1:∀ i,i≠i0→s1.get i=s.get i:=by
  intro i hi;by_cases e:i.d=out.length
  ·have:s1.get i=dG (((d,n),Blk.arr 1 false (zs.map fun _ => .nilsl))::loc) i.t i.n:=by subst hs1;exact qj _ i e
   rw [this,own i e,kN rfl];by_cases q1:i.t=d
   ·have q2:¬ i.n=n:=fun q2=>hi (by cases i;simp only at e q1 q2;subst e q1 q2;rfl)
    rw [if_pos q1,if_neg q2]
   ·rw [if_neg q1]
  ·exact far1 i e
 have row2:∀ j,s2.get ⟨out.length,tf,j⟩=(zs[j]?).map fun x => .arr sz false (g x):=by
  intro j;subst hs2;rw [jF,iY (fun e=>hdtf e.symm)];cases hz2:zs[j]? with
  | none=>rw [iD (by rw [rU,hz2];rfl),EL hf];rfl
  | some x=>rw [jf (y := .arr sz false (g x)) (by rw [rU,hz2];rfl)];rfl
 have ne2:∀ i,i≠i0→¬ (i.d=out.length∧i.t=tf)→s2.get i=s.get i:=by
  intro i hi hr;by_cases e:i.d=out.length
  ·have:s2.get i=dG (((d,n),Blk.nest 1 (nM out.length [.h tf sz len g] zs))::((tf,0),qo sz g zs)::loc) i.t i.n:=by subst hs2;exact qj _ i e
   rw [this,own i e,kN rfl];have q3:¬ i.t=tf:=fun q=>hr ⟨e,q⟩
   by_cases q1:i.t=d
   ·have q2:¬ i.n=n:=fun q2=>hi (by cases i;simp only at e q1 q2;subst e q1 q2;rfl)
    rw [if_pos q1,if_neg q2,iY q3]
   ·rw [if_neg q1,iY q3]
  ·exact far2 i e
 have freeR:∀ i,i.d=out.length∧i.t=tf→s.get i=none∧s1.get i=none:=by
  rintro i ⟨e,q⟩
  have h0:s.get i=none:=by rw [own i e,q];exact EL hf _
  have hi:i≠i0:=fun e2=>hdtf (by rw [← q,e2])
  exact ⟨h0,by rw [ne1 i hi];exact h0⟩
 have row2':∀ i b,i.d=out.length∧i.t=tf→s2.get i=some b→b = .arr sz false []:=by
  rintro ⟨a1,a2,a3⟩ b ⟨q1,q2⟩ hb
  simp only at q1 q2;subst q1 q2;rw [row2] at hb;obtain ⟨x,hx,rfl⟩:=aJ.1 hb;rw [(hz x (bz hx)).2]
 let μ2:Id→Pl:=fun i=>if i.d=out.length∧i.t=tf then ⟨0,0,true,0⟩ else μ1 i
 have mu2:∀ i,¬ (i.d=out.length∧i.t=tf)→μ2 i=μ1 i:=fun i h=>by simp only [μ2,if_neg h]
 have mu0:μ2 i0=μ1 i0:=mu2 _ (fun q=>hdtf q.2);have notI0:∀ i b,s.get i=some b→i≠i0:=fun i b hb e=>by rw [e,none0] at hb;cases hb
 have notR:∀ i b,s.get i=some b→¬ (i.d=out.length∧i.t=tf):=fun i b hb q=>by rw [(freeR i q).1] at hb;cases hb
 have K:∀ i b,s.get i=some b→∃ b',s2.get i=some b'∧qH b (μ1 i) b' (μ2 i):=by
  intro i b hb;exact ⟨b,by rw [ne2 i (notI0 i b hb) (notR i b hb)];exact hb,by rw [mu2 i (notR i b hb)];exact .refl _ _⟩
 have closed:=I.closed;have I2:Inv P V1 s2.get μ2 w':=by
  refine ⟨fun i b hi=>?_,fun i j b b' hi hj hne n1 n2=>?_,h2.cell,h2.map,fun i b hi j hj=>?_⟩
  ·by_cases q:i.d=out.length∧i.t=tf
   ·have:=row2' i b q hi;subst this;simp only [μ2,if_pos q];exact .inl ⟨rfl,rfl,rfl⟩
   ·rw [mu2 i q];by_cases e:i=i0
    ·subst e;rw [at2] at hi;cases hi;rcases h2.blk i0 _ at1 with ⟨b1,b2,b3⟩ | ⟨b1,b2,b3,b4,cells,elem,b5,b6,hpl,ev,b7⟩
     ·have:zs=[]:=by simpa using b2
      subst this;exact .inl ⟨b1,rfl,b3⟩
     ·refine .inr ⟨b1,by rw [kY];simpa using b2,b3 rfl,cells,elem,b5,b6,hpl,fun k e he=>?_⟩;rw [sF] at he;obtain ⟨x,hx,rfl⟩:=aJ.1 he;refine ⟨rfl,fun k2 a v ha hv=>?_⟩;cases k2 with
      | succ k2=>simp [xW] at ha
      | zero =>
       simp only [xW,gB,List.map_nil,List.getElem?_cons_zero,Option.some.injEq,Slot.cell] at ha;subst ha;obtain ⟨z1,z2⟩:=hz x (bz hx);have hk:(zs.map fun _=>D.nilsl)[k]?=some .nilsl:=by rw [bn,hx];rfl
       obtain ⟨g1,g2,g3⟩:=b7 k _ hk;have hev:ev k = .slice none 0 0:=by
        generalize ev k=q at g1;cases g1;rfl
       rw [hev] at g3;have g4:=g3 0 (.slice none 0 0) rfl;simp only [Nat.mul_one,oL] at g4 hv;rw [g4] at hv;cases hv;rw [z1];have hrow:s2.get ⟨out.length,tf,k⟩=some (.arr sz false []):=by rw [row2,hx];simp [z2]
       refine .ref _ 0 0 0 sz false [] none 0 hrow (aZ _) (fun _=>⟨none,0,rfl, .inl ⟨?_,rfl,rfl,rfl⟩⟩);simp [μ2]
    ·have hi':=hi;rw [ne2 i e q] at hi;have hb1:s1.get i=some b:=by rw [ne1 i e];exact hi
     have B:=h2.blk i b hb1;have mono:∀ {a:A} {v:Value},(∀ x∈a.ids,x∈b.ids)→iO P V1 s1.get μ1 a v→iO P V1 s2.get μ2 a v:=by
      intro a v hsub H;refine H.mono (.refl _) (fun x hx c hc=>?_);obtain ⟨y,hy⟩:=closed i b hi x (hsub x hx);have e1:=notI0 x y hy;have e2:=notR x y hy;refine ⟨c,?_,by rw [mu2 x e2];exact .refl _ _⟩;rw [ne2 x e1 e2,← ne1 x e1];exact hc
     cases b with
     | arr _ _ _=>exact B
     | map _ _ _=>exact B
     | gap=>exact B
     | tail _ _ _=>exact B
     | fam _=>exact B.elim
     | box cs =>
      obtain ⟨b1,b3,cells,elem,b5,b6,b7⟩:=B;exact ⟨b1,b3,cells,elem,b5,b6,fun k a v ha hv=>⟨mono (fun x hx=>rH ha hx) (b7 k a v ha hv).1,(b7 k a v ha hv).2⟩⟩
     | nest sz2 xs2 =>
      rcases B with B | ⟨b1,b2,b3,cells,elem,b5,b6,hpl,b7⟩
      ·exact .inl B
      ·exact .inr ⟨b1,b2,b3,cells,elem,b5,b6,hpl,fun k e he=>⟨(b7 k e he).1,fun k2 a v ha hv=>mono (fun x hx=>yN he ha hx) ((b7 k e he).2 k2 a v ha hv)⟩⟩
  ·have q1:¬ (i.d=out.length∧i.t=tf):=fun q=>by simp [μ2,q] at n1
   have q2:¬ (j.d=out.length∧j.t=tf):=fun q=>by simp [μ2,q] at n2
   rw [mu2 i q1] at n1 ⊢;rw [mu2 j q2] at n2 ⊢;have lift:∀ i b,¬ (i.d=out.length∧i.t=tf)→s2.get i=some b→∃ c,s1.get i=some c:=by
    intro i b q hb;by_cases e:i=i0
    ·subst e;exact ⟨_,at1⟩
    ·exact ⟨b,by rw [ne1 i e,← ne2 i e q];exact hb⟩
   obtain ⟨c1,hc1⟩:=lift i b q1 hi;obtain ⟨c2,hc2⟩:=lift j b' q2 hj;exact h2.apart i j c1 c2 hc1 hc2 hne n1 n2
  ·by_cases q:i.d=out.length∧i.t=tf
   ·rw [row2' i b q hi] at hj;cases hj
   ·by_cases e:i=i0
    ·subst e;rw [at2] at hi;cases hi;have:=(wM hj).1
     show j.d≤out.length
     omega
    ·rw [ne2 i e q] at hi;exact I.tidy i b hi j hj
 refine ⟨V1,μ2,?_,I2,?_,?_⟩
 ·cases h1 with
  | ref _ _ _ _ sz1 l1 xs1 a c hi hf2 hv =>
   have hi':s1.get i0=_:=hi;rw [at1] at hi';cases hi';refine .nref i0 m 1 _ a c at2 (by rw [kY];omega) (fun e=>?_);rw [mu0];exact hv (by simpa using hm)
 ·refine ⟨h3.os,h3.tape,h3.output,h3.size,h3.rest,h3.view,h3.newc,h3.newm,fun i b hi n1=>?_,fun i b hb=>?_⟩
  ·have q1:¬ (i.d=out.length∧i.t=tf):=fun q=>by simp [μ2,q] at n1
   rw [mu2 i q1] at n1 ⊢;by_cases e:i=i0
   ·subst e;exact h3.place i0 _ at1 n1
   ·rw [ne2 i e q1] at hi;exact h3.place i b (by rw [ne1 i e];exact hi) n1
  ·obtain ⟨b',k1,k2⟩:=h3.keep i b hb;rw [ne1 i (notI0 i b hb),hb] at k1;cases k1;refine ⟨b,by rw [ne2 i (notI0 i b hb) (notR i b hb)];exact hb,?_⟩;rw [mu2 i (notR i b hb)];exact k2
 ·rw [← h4];subst hs1 hs2;rfl
end
end Go.Lx
namespace Go.Lx
section
variable {P:Program} {env:Env} {s s':S} {loc loc':Loc} {out:Out} {chg:List (Option Loc)} {dst:Option Nat} {d:Nat} {ty:TypeId} {pos:String} {af:Array Edge} {gd:Option (Nat×Bool)}
theorem iL.VW {α:Type} {o:Oper} {d n m tf sz:Nat} {len:α→Nat} {g:α→List D} {zs:List α} (H:iL P env ⟨loc,out,chg⟩ o (.ref ⟨out.length,d,n⟩ 0 m m) (.add [((d,n), .arr 1 false (zs.map fun _ => .nilsl))]))
  (hr:dZ env o.op=true) (hm:m=zs.length) (hz:∀ x∈zs,len x=0∧g x=[]) (hn:dG loc d n=none) (hf:Vb loc tf=true) (hdt:Nat.beq d tf=false) :
  iL P env ⟨loc,out,chg⟩ o (.nref ⟨out.length,d,n⟩ m) (.add [((d,n), .nest 1 (nM out.length [.h tf sz len g] zs)),((tf,0),qo sz g zs)]):=by
 refine ⟨.inr ⟨hr,fun V μ w I a R K Q hK=>?_⟩⟩;refine (H.only []).sound I (a:=a) (K:=K) (Q:=Q) ?_ (fun cv w' hl=>hK cv w' (Lx.VW I hl hm hz hn hf hdt));intro t v hv;obtain ⟨h1,h2⟩:=AB hv;unfold Af at h1;rcases aP.1 h1 with h1 | h1
 ·obtain ⟨x,h3,h4⟩:=List.mem_filterMap.1 h1;cases x with
  | tmp u=>cases h4;exact R (.tmp t) (by simpa using h3) v h2
  | _=>cases h4
 ·cases hg:o.guard with
  | none=>rw [hg] at h1;cases h1
  | some jw=>rw [hg] at h1;obtain ⟨g,b⟩:=jw;simp at h1
theorem msN {α:Type} {x y:Operand} {t e by_:Nat} {n:Int} {nn tf sz:Nat} {a:α} {zs:List α} {len:α→Nat} {g:α→List D} (ht:Sli P t e 1 by_ .nilsl) (hx:aB (look env) x=some (.d (.int .i64 n))) (hy:aB (look env) y=some (.d (.int .i64 n)))
  (hz:Js n a=some zs) (hn:qA loc d=nn) (hl:len a=0) (hg:g a=[]) (hf:Vb loc tf=true) (hdt:Nat.beq d tf=false) :
  iL P env ⟨loc,out,chg⟩ ⟨some d, .makeSlice t x y,ty,pos,af,gd⟩ (.nref ⟨out.length,d,nn⟩ zs.length) (.add [((d,nn), .nest 1 (nM out.length [.h tf sz len g] zs)),((tf,0),qo sz g zs)]):=by
 have H:=ms_ (P:=P) (env:=env) (loc:=loc) (out:=out) (chg:=chg) (d:=d) (ty:=ty) (pos:=pos) (af:=af) (gd:=gd) (f:=fun _:α=>D.nilsl) ht hx hy hz hn;refine H.VW rfl rfl (fun q hq=>?_) (AL _ _ _ (by omega)) hf hdt;unfold Js at hz;split at hz
 ·cases hz;have:=(List.mem_replicate.1 hq).2;subst this;exact ⟨hl,hg⟩
 ·cases hz
theorem Pz {fs l:Loc} (h:(fs.all fun e=>match e.2 with | .fam []=>true | _=>false)=true) (t n:Nat):dG (fs++l) t n=dG l t n:=by
 induction fs with
 | nil=>rfl
 | cons x fs ih =>
  obtain ⟨⟨a,b⟩,y⟩:=x;simp only [mg,aS] at h;obtain ⟨h1,h2⟩:=h;rw [je];by_cases e:t=a
  ·subst e;rw [iD (by
    cases y with
    | fam rows=>cases rows with | nil=>rfl | cons _ _=>simp at h1
    | _=>simp at h1),ih h2]
  ·rw [iY e,ih h2]
theorem anG {id:Id} {sz:Nat} (hb:zk s id .gap) (hl:JR s id (.nest sz []) s'):iL P env s ⟨some d, .assign (.const (.slice none 0 0)),ty,pos,af,gd⟩ (.nref id 0) (.set s'):=by
 refine iL.sem rfl fun V μ w I a R=>?_
 refine ⟨pure (.slice none 0 0),by simp [execOp,Act.eval],?_⟩;obtain ⟨hget,hout⟩:=S.mP hb.h (.nest sz []);rw [hl.h] at hget hout;have B:=I.blk _ _ hb.h;obtain ⟨I',E'⟩:=I.Qb (w':=w) hb.h (.nest sz []) ⟨0,0,true,0⟩ (fun q=>by cases q) (fun _ _ _=>rfl) (fun c v hn=>absurd (hn.symm.trans B) (by simp)) (fun e c hn=>absurd (hn.symm.trans B) (by simp)) rfl rfl rfl (aZ _) (.inl ⟨rfl,rfl,rfl⟩) trivial;refine ⟨.slice none 0 0,w,V,_,rfl,?_,by show Inv P V s'.get _ w;rw [hget];exact I',by show Evo V s.get μ w V s'.get _ w;rw [hget];exact E',hout⟩
 show iO P V s'.get _ _ _
 rw [hget];exact .nref _ 0 sz [] none 0 (upd_same _ _ _) (aZ _) (fun _=>⟨none,0,rfl, .inl ⟨by rw [fF],rfl,rfl,rfl⟩⟩)
theorem Ob {V:View} {μ:Id→Pl} {a:Act} {l:List Operand} (R:∀ x,x∈l→∀ u,aB (look env) x=some u→iO P V s.get μ u (a.eval x)) :
  ∀ (xs:List Operand) (vs:List A),(∀ y∈xs,y∈l)→dO (look env) xs=some vs→iE P V s.get μ vs (xs.map a.eval):=by
 intro xs
 induction xs with
 | nil=>intro vs _ e;simp only [dO] at e;cases e;exact .nil
 | cons y xs ih =>
  intro vs hy e;simp only [dO] at e;split at e
  ·rename_i v vs' h1 h2
   cases e;exact .cons v _ _ _ (R y (hy y (.head _)) v h1) (ih vs' (fun z hz=>hy z (.tail _ hz)) h2)
  ·cases e
theorem iL.aaB {b:Builtin} {args:Array Operand} {ts:Array TypeId} {vs:List A} {v:A} {dl:Delta} (ha:dO (look env) args.toList=some vs) (hr:dZ env (.call ⟨.builtin b,args,ts⟩)=true)
  (h:∀ (V:View) (μ:Id→Pl) (w:World),Inv P V s.get μ w→∀ (cargs:List Value),iE P V s.get μ vs cargs →
   ∃ m:Sem Value,builtin b ts ty (args.map fun | .const _=>true | _=>false) cargs.toArray=(do pure (.value (← m)))∧Done P V s μ w (dl.apply s) v (m.run P w)) :
  iL P env s ⟨dst, .call ⟨.builtin b,args,ts⟩,ty,pos,af,gd⟩ v dl:=by
 refine iL.sem hr fun V μ w I a R=>?_
 have RA:=Ob (s:=s) (l:=(Op.call ⟨.builtin b,args,ts⟩).operands.toList) (fun x hx u hu=>R x (by simpa using hx) u hu) args.toList vs (fun y hy=>by simp [Op.operands,Call.operands];simpa using hy) ha;obtain ⟨m,h1,h2⟩:=h V μ w I _ RA;refine ⟨m,?_,h2⟩;have hmap:args.map a.eval=(args.toList.map a.eval).toArray:=by apply mO;simp
 simp only [execOp,resolve];simp only [pure_bind,invoke];rw [hmap];exact h1
theorem ixN {x y:Operand} {t e sz by_ m:Nat} {z:D} {id:Id} {k:IntKind} {j:Int} {xs:List (List A)} (ht:Sli P t e sz by_ z) (hx:aB (look env) x=some (.nref id m)) (hr:(wO env x || xq env x)=false)
  (hy:aB (look env) y=some (.d (.int k j))) (hb:zk s id (.nest sz xs)) (hm:m=xs.length) (h:0≤j∧j < m) :
  iL P env s ⟨dst, .indexAddr t x y,ty,pos,af,gd⟩ (.nptr id j.toNat 0 m) .same:=by
 refine iL.sem (by simp only [dZ,hr];rfl) fun V μ w I a R=>?_
 have Rx:=R x (by simp [Op.operands]) _ hx;have Ry:=R y (by simp [Op.operands]) _ hy;refine ⟨Instr.indexAt t (a.eval x) (a.eval y),by simp [execOp],?_⟩;generalize a.eval x=vx at Rx;generalize a.eval y=vy at Ry;have hvy:=Pg Ry;subst hvy;cases Rx with
 | nref _ _ sz' xs' ad c hi hf hv =>
  have hi2:=hi;rw [hb.h] at hi2;cases hi2;obtain ⟨a',c',e1,hsv⟩:=hv hm;cases e1;rcases hsv with ⟨q1,q2,q3,_⟩ | ⟨q1,q2,q3,q4,q5⟩
  ·exfalso
   rcases I.blk id _ hb.h with ⟨b1,b2,_⟩ | ⟨b1,_⟩
   ·subst b2;simp at hm;omega
   ·rw [q1] at b1;cases b1
  ·have ha:=q5 (.inr rfl);rw [oM] at ha;subst ha;refine .pure (cv := .pointer (some ⟨(μ id).blk,j.toNat * sz,none⟩)) I ?_ (.nptr id _ 0 m sz xs _ hb.h hf (fun _=>⟨by rw [oL],by omega⟩));simp [Instr.indexAt,asIntOf,dV ht.u,ja ht.s,h.1,h.2,kU]
theorem U9 {V:View} {μ:Id→Pl} {w:World} (I:Inv P V s.get μ w) {id:Id} {sz:Nat} {xs:List (List A)} (hb:s.get id=some (.nest sz xs)) {j:Nat} {e:List A} (he:xs[j]?=some e) :
  (μ id).nil=false∧∃ vs:List Value,lW P V s.get μ e vs∧(∀ (k:Nat) v,vs[k]?=some v→w.cell? ⟨(μ id).blk,j * sz+k,none⟩=some v)∧e.length=sz:=by
 have hj:=(ay.1 he).1;rcases I.blk id _ hb with ⟨b1,b2,_⟩ | ⟨b1,b2,b3,cells,elem,b5,b6,hpl,b7⟩
 ·subst b2;simp at he
 ·obtain ⟨c1,c2⟩:=b7 j e he;refine ⟨b1,(cells.toList.drop (j * sz)).take sz,⟨?_,fun i a v ha hv=>?_⟩,fun k v hv=>?_,c1⟩
  ·have:j * sz+sz≤cells.size:=by
    rw [b6]
    calc j * sz+sz=(j+1) * sz:=by rw [di,kL]
     _≤(μ id).cap * sz:=aV _ (by omega)
   simp;omega
  ·have hi:i < sz:=by rw [← c1];exact (ay.1 ha).1
   rw [bT,if_pos hi,eP] at hv;have hv':cells[j * sz+i]?=some v:=by simpa using hv
   exact ⟨c2 i a v ha hv',hpl _ v hv'⟩
  ·rw [cell_of_row w _ _ cells elem (0,0) b5];rw [bT] at hv;split at hv
   ·rw [eP] at hv;simpa using hv
   ·cases hv
theorem ldN {x:Operand} {t tz off m j sz:Nat} {id:Id} {xs:List (List A)} {e:List A} {v:A} (ht:ng P t=some tz) (hx:aB (look env) x=some (.nptr id j off m)) (hr:xq env x=false) (hm:m=xs.length)
  (hb:zk s id (.nest sz xs)) (he:xs[j]?=some e) (hp:xM (qL P t) tz e off=some v):iL P env s ⟨dst, .load t x,ty,pos,af,gd⟩ v .same:=by
 refine iL.sem (by simp only [dZ,hr];rfl) fun V μ w I a R=>?_
 have Rx:=R x (by simp [Op.operands]) _ hx;refine ⟨Instr.loadAt t (a.eval x),by simp [execOp],?_⟩;generalize a.eval x=vx at Rx;cases Rx with
 | nptr _ _ _ _ sz' xs' ad hi hf hv =>
  rw [hb.h] at hi;cases hi;obtain ⟨rfl,_⟩:=hv hm;obtain ⟨_,vs,h1,h2,_⟩:=U9 I hb.h he;obtain ⟨cv,h3,h4⟩:=pU (w:=w) (b:=(μ id).blk) (o:=j * sz) ht (off:=off) h1 h2 hp;exact .pure I (by simpa [Instr.loadAt,Instr.sureAddr] using h3) h4
theorem aaJ {x:Operand} {t off m j sz:Nat} {id:Id} {xs:List (List A)} {e:List A} {v:A} (ht:GU P t) (hx:aB (look env) x=some (.nptr id j off m)) (hr:xq env x=false) (hm:m=xs.length)
  (hb:zk s id (.nest sz xs)) (he:xs[j]?=some e) (hp:e[off]?=some v):iL P env s ⟨dst, .load t x,ty,pos,af,gd⟩ v .same :=
 ldN ht.z hx hr hm hb he (by simp only [ht.a,xM,aF,aj];exact hp)
theorem stN {x y:Operand} {t tz off m j sz:Nat} {id:Id} {xs:List (List A)} {e:List A} {v:A} (ht:ng P t=some tz) (hx:aB (look env) x=some (.nptr id j off m)) (hm:m=xs.length) (hy:aB (look env) y=some v)
  (hs:storable v=true) (hn:v.cells.length=tz) (hd:id.d=s.dep∨(v.ids.all fun q=>Nat.ble q.d id.d)=true) (hb:zk s id (.nest sz xs)) (he:xs[j]?=some e) (hf:off+tz≤e.length)
  (hl:JR s id (.nest sz (xs.set j (splice e off v.cells))) s'):iL P env s ⟨none, .store t x y,ty,pos,af,gd⟩ .undef (.set s'):=by
 refine ⟨.inr ⟨rfl,fun V μ w I a R K Q hK=>?_⟩⟩;have Rx:=R x (by simp [Op.operands]) _ hx;have Ry:=R y (by simp [Op.operands]) _ hy;generalize hvx:a.eval x=vx at Rx;generalize hvy:a.eval y=vy at Ry;cases Rx with
 | nptr _ _ _ _ sz' xs' ad hi hfl hv =>
  rw [hb.h] at hi;cases hi;obtain ⟨rfl,hjm⟩:=hv hm;have hC:=ui Ry hs;have hcn:vy.cells.size=tz:=by rw [← hn,← hC.1,fM]
  have hjx:j < xs.length:=(ay.1 he).1;rcases I.blk id _ hb.h with ⟨_,b2,_⟩ | ⟨b1,b2,b3,cells,elem,b5,b6,hpl,b7⟩
  ·subst b2;simp at he
  ·have hsz:e.length=sz:=(b7 j e he).1;have hfit:j * sz+off+tz≤cells.size:=by
    rw [b6]
    calc j * sz+off+tz≤j * sz+sz:=by omega
     _=(j+1) * sz:=by rw [di,kL]
     _≤(μ id).cap * sz:=aV _ (by omega)
   obtain ⟨w',k1,k2,k3,k4,k5,k6,k7⟩:=Ap (w:=w) ht b5 hcn hfit (yT hC);obtain ⟨hget,hdep⟩:=S.mP hb.h (.nest sz (xs.set j (splice e off v.cells)));rw [hl.h] at hget hdep;have hle:off+v.cells.length≤e.length:=by rw [hn];exact hf
   have hle2:j * sz+off+vy.cells.toList.length≤cells.toList.length:=by rw [hC.1,hn];simp;exact hfit
   have hμ:vI μ id (μ id)=μ:=by funext q;unfold vI;split<;>simp_all
   have K1:∀ q b,s.get q=some b→∃ b',upd s.get id (.nest sz (xs.set j (splice e off v.cells))) q=some b'∧qH b (μ q) b' (μ q):=by
    intro q b hq;by_cases z:q=id
    ·subst z;rw [hb.h] at hq;cases hq;exact ⟨_,upd_same _ _ _,rfl,by simp,fun _=>rfl⟩
    ·exact ⟨b,by rw [upd_ne _ _ z];exact hq, .refl _ _⟩
   obtain ⟨I',E'⟩:=I.Qb (w':=w') hb.h (.nest sz (xs.set j (splice e off v.cells))) (μ id) (fun q => .inl ⟨rfl,q⟩) (fun k _ hk=>k3 k (hk.resolve_left (by rw [b1];simp)))
    (fun cc u _ hv=>absurd hv (b3 cc u)) (fun en cc _ hv=>by have:=I.map _ _ _ hv;rw [b5] at this;cases this) k5 k6 k7 (by omega)
    (.inr ⟨b1,by simpa using b2,b3,_,elem,k2,by rw [iH,jH _ _ _ hle2,fM,b6],by
     intro k u hu;rw [eu,kQ _ _ _ hle2] at hu;split at hu
     ·exact hpl k u (by simpa using hu)
     ·split at hu
      ·exact yT hC u (bz hu)
      ·exact hpl k u (by simpa using hu),by
     intro i e' hi';rw [hμ];have hsub:∀ (k:Nat) a u,e'[k]?=some a→(splice cells.toList (j * sz+off) vy.cells.toList).toArray[i * sz+k]?=some u→∃ h0:Id→Option Blk,iO P V s.get μ a u:=by
      intro k a u ha hu;rw [eu,kQ _ _ _ hle2,hC.1] at hu;by_cases z:i=j
      ·subst z;rw [kD hjx] at hi';cases hi';rw [kQ _ _ _ hle] at ha;by_cases g1:k < off
       ·rw [if_pos g1] at ha;rw [if_pos (by omega)] at hu;exact ⟨s.get,(b7 i e he).2 k a u ha (by simpa using hu)⟩
       ·rw [if_neg g1] at ha;rw [if_neg (by omega)] at hu;by_cases g2:k < off+v.cells.length
        ·rw [if_pos g2] at ha;rw [if_pos (by omega)] at hu;refine ⟨s.get,(hC.2 (k - off) a u ha ?_).1⟩;rw [← hu];congr 1;omega
        ·rw [if_neg g2] at ha;rw [if_neg (by omega)] at hu;exact ⟨s.get,(b7 i e he).2 k a u ha (by simpa using hu)⟩
      ·rw [ku (fun q=>z q.symm)] at hi';have hk:k < sz:=by rw [← (b7 i e' hi').1];exact (ay.1 ha).1
       have hfar:i * sz+k < j * sz∨(j+1) * sz≤i * sz+k:=by
        rcases Nat.lt_or_ge i j with z1 | z1
        ·left
         calc i * sz+k < i * sz+sz:=by omega
          _=(i+1) * sz:=by rw [di,kL]
          _≤j * sz:=aV _ z1
        ·right
         calc (j+1) * sz≤i * sz:=aV _ (by omega)
          _≤i * sz+k:=by omega
       have hb2:(j+1) * sz=j * sz+sz:=by rw [di,kL]
       have hu':cells[i * sz+k]?=some u:=by
        rcases hfar with z1 | z1
        ·rw [if_pos (by omega)] at hu;simpa using hu
        ·rw [if_neg (by omega),if_neg (by omega)] at hu;simpa using hu
       exact ⟨s.get,(b7 i e' hi').2 k a u ha hu'⟩
     refine ⟨?_,fun k a u ha hu=>?_⟩
     ·by_cases z:i=j
      ·subst z;rw [kD hjx] at hi';cases hi';rw [jH _ _ _ hle];exact hsz
      ·rw [ku (fun q=>z q.symm)] at hi';exact (b7 i e' hi').1
     ·obtain ⟨_,H⟩:=hsub k a u ha hu;exact H.mono (.refl V) (fun i _ b hb=>K1 i b hb)⟩) ⟨rfl,by simp,fun _=>rfl⟩
    (by
     intro q hq;obtain ⟨n,b,h1,h2⟩:=yI hq;obtain ⟨e',q1,q2⟩:=List.mem_flatten.1 (bz h1);rcases List.mem_or_eq_of_mem_set q1 with q1 | rfl
     ·obtain ⟨n2,hn2⟩:=gm.1 q1;obtain ⟨n3,hn3⟩:=gm.1 q2;exact I.tidy id _ hb.h q (yN hn2 hn3 h2)
     ·rcases Il (IL q2 h2) with z | z
      ·obtain ⟨n3,b3,h3,h4⟩:=yI z;exact I.tidy id _ hb.h q (yN he h3 h4)
      ·rcases hd with hd | hd
       ·obtain ⟨bb,hbb⟩:=uX Ry q (zX z);have:=S.xm hbb;omega
       ·exact gp (aY.1 hd q (zX z)))
   rw [hμ] at I' E';rw [← hget] at I' E';exact aav (c:=bc P) (by simp only [execOp,hvx,hvy]) k1 (hK _ _ ⟨V,μ, .undef,I',E',hdep⟩)
theorem abE {x y:Operand} {t off m j sz:Nat} {id:Id} {xs xs':List (List A)} {e e':List A} {v:A} (ht:GU P t) (hx:aB (look env) x=some (.nptr id j off m)) (hm:m=xs.length) (hy:aB (look env) y=some v)
  (hs:(storable v&&oneCell v)=true) (hd:id.d=s.dep∨(v.ids.all fun q=>Nat.ble q.d id.d)=true) (hb:zk s id (.nest sz xs)) (he:xs[j]?=some e) (hc:Yy e off v e') (hxs:xs.set j e'=xs')
  (hl:JR s id (.nest sz xs') s'):iL P env s ⟨none, .store t x y,ty,pos,af,gd⟩ .undef (.set s'):=by
 simp only [aS] at hs;obtain ⟨h1,h2⟩:=hc.eq;have h3:=oneCell_cells hs.2;refine stN ht.z hx hm hy hs.1 (by rw [h3];rfl) hd hb he h1 ?_;rw [h3,h2,hxs];exact hl
end
end Go.Lx
namespace Go.Lx
def CP (P:Program) (V:View) (h:Id→Option Blk) (μ:Id→Pl) (sz:Nat) (xs:List (List A)) (cs:List Value):Prop :=
 cs.length=xs.length * sz∧(∀ v∈cs,Plain v)∧∀ (i:Nat) e,xs[i]?=some e→e.length=sz∧∀ (k:Nat) a v,e[k]?=some a→cs[i * sz+k]?=some v→iO P V h μ a v
section
variable {P:Program} {V:View} {h:Id→Option Blk} {μ:Id→Pl} {w:World}
theorem CP.append {sz:Nat} {xs ys:List (List A)} {cs ds:List Value} (H:CP P V h μ sz xs cs) (H':CP P V h μ sz ys ds):CP P V h μ sz (xs++ys) (cs++ds):=by
 obtain ⟨h1,h2,h3⟩:=H;obtain ⟨g1,g2,g3⟩:=H';refine ⟨by simp [h1,g1,di],fun v hv=>(aP.1 hv).elim (h2 v) (g2 v),fun i e he=>?_⟩;by_cases q:i < xs.length
 ·rw [bK q] at he;obtain ⟨k1,k2⟩:=h3 i e he;refine ⟨k1,fun k a v ha hv=>k2 k a v ha ?_⟩;have hk:k < sz:=by rw [← k1];exact (ay.1 ha).1
  rw [bK (by rw [h1];exact mul_lt q hk)] at hv;exact hv
 ·rw [dF (by omega)] at he;obtain ⟨k1,k2⟩:=g3 _ e he;refine ⟨k1,fun k a v ha hv=>k2 k a v ha ?_⟩;have e1:i * sz=xs.length * sz+(i - xs.length) * sz:=by rw [← di];congr 1;omega
  rw [dF (by rw [h1];omega),h1] at hv;rw [← hv];congr 1;omega
theorem CP.mono {h':Id→Option Blk} {μ':Id→Pl} {sz:Nat} {xs:List (List A)} {cs:List Value} (H:CP P V h μ sz xs cs) (K:∀ i b,h i=some b→∃ b',h' i=some b'∧qH b (μ i) b' (μ' i)):CP P V h' μ' sz xs cs :=
 ⟨H.1,H.2.1,fun i e he=>⟨(H.2.2 i e he).1,fun k a v ha hv=>((H.2.2 i e he).2 k a v ha hv).mono (.refl V) (fun i _ b hb=>K i b hb)⟩⟩
theorem EJ {s:S} (I:Inv P V s.get μ w) {id:Id} {sz m:Nat} {xs:List (List A)} (hb:s.get id=some (.nest sz xs)) (hm:m=xs.length) {a:Option Addr} {c:Nat} (hv:zl (μ id) sz 0 m (.slice a m c)) :
  ∃ cs:List Value,CP P V s.get μ sz xs cs∧(Builtin.firstCells sz m (.slice a m c)).run P w = .ok cs.toArray w:=by
 obtain ⟨a',c',e1,hsv⟩:=hv;cases e1;rcases I.blk id _ hb with ⟨b1,b2,_⟩ | ⟨b1,b2,b3,cells,elem,b5,b6,hpl,b7⟩
 ·subst b2;simp at hm;subst hm;refine ⟨[],⟨by simp,by simp,fun i e he=>by simp at he⟩,?_⟩;rcases hsv with ⟨_,rfl,_⟩ | ⟨q,_⟩
  ·simp [Builtin.firstCells]
  ·rw [b1] at q;cases q
 ·rcases hsv with ⟨q1,_⟩ | ⟨q1,q2,q3,q4,q5⟩
  ·rw [b1] at q1;cases q1
  ·have ha:=q5 (.inr rfl);rw [oM] at ha;subst ha;have hle:xs.length * sz≤cells.size:=by rw [b6];exact aV _ b2
   have hlen:(cells.toList.take (xs.length * sz)).length=xs.length * sz:=by simp;omega
   refine ⟨cells.toList.take (xs.length * sz),⟨hlen,fun v hv=>?_,fun i e he=>⟨(b7 i e he).1,fun k a v ha hv=>(b7 i e he).2 k a v ha ?_⟩⟩,?_⟩
   ·obtain ⟨k,hk⟩:=gm.1 hv;rw [bT] at hk;split at hk
    ·exact hpl k v (by simpa using hk)
    ·cases hk
   ·rw [bT] at hv;split at hv
    ·simpa using hv
    ·cases hv
   ·simp only [Builtin.firstCells];have key:=run_loadCells_list (P:=P) (w:=w) ⟨(μ id).blk,0,none⟩ (cells.toList.take (xs.length * sz)) (fun j v hv=>by
     rw [kU,cell_of_row w _ _ cells elem (0,0) b5];rw [bT] at hv;split at hv
     ·simpa using hv
     ·cases hv)
    rw [hlen] at key;rw [hm];exact key
end
section
variable {P:Program} {env:Env} {s s':S} {loc loc':Loc} {out:Out} {chg:List (Option Loc)} {dst:Option Nat} {d:Nat} {ty:TypeId} {pos:String} {af:Array Edge} {gd:Option (Nat×Bool)}
theorem abp {args:Array Operand} {ts:Array TypeId} {t e t2 e2 sz by_ m n k0:Nat} {z:D} {id id2:Id} {xs ys:List (List A)} (ht:Sli P t e sz by_ z) (ht2:P.underlying t2=some (.slice e2))
  (ha:dO (look env) args.toList=some [.nref id m, .nref id2 n]) (hts:ts.toList=[t,t2]) (hb:zk s id (.nest sz xs)) (hm:m=xs.length) (hb2:zk s id2 (.nest sz ys)) (hn:n=ys.length)
  (hne:ys.isEmpty=false) (hroom:xs.length+ys.length≤16777216) (hd:id.d=s.dep∨((A.oq ys.flatten).all fun q=>Nat.ble q.d id.d)=true) (hk0:m+n=k0) (hl:JR s id (.nest sz (xs++ys)) s') :
  iL P env s ⟨dst, .call ⟨.builtin .append,args,ts⟩,ty,pos,af,gd⟩ (.nref id k0) (.set s'):=by
 subst hk0;refine iL.aaB ha rfl fun V μ w I cargs R=>?_
 obtain ⟨cx,cy,rfl,Hx,Hy⟩:=aat (c:=bc P) R;have ets:ts=#[t,t2]:=by apply mO;rw [hts]
 subst ets;refine ⟨_,rfl,?_⟩;have hu:=ht.u;have hsz:=ht.s;obtain ⟨i,hi,hbi⟩:=AQ ht.b;obtain ⟨zv,hz,hzs,hzr⟩:=AX ht.z0 hi;have hzc:zv.cells.size=sz:=by rw [hzs,ht.zs]
 have hb0:0 < i.bytes:=by rw [hbi];exact ht.p
 cases Hx with
 | nref _ _ sz1 xs1 a cap hi1 hf1 hv1 =>
  have e1:=hi1;rw [hb.h] at e1;cases e1;cases Hy with
  | nref _ _ sz2 ys2 b c' hi2 hf2 hv2 =>
   have e2:=hi2;rw [hb2.h] at e2;cases e2;have hsv:=hv1 hm;obtain ⟨yc,hyC,hyr⟩:=EJ I hb2.h hn (hv2 hn);obtain ⟨yc2,hyC2,hyr2⟩:=EJ (w:=w.drew) I.drew hb2.h hn (hv2 hn);have hnpos:0 < n:=by rw [hn];cases ys with | nil=>cases hne | cons _ _=>simp
   obtain ⟨hget,hdep⟩:=S.mP hb.h (.nest sz (xs++ys));rw [hl.h] at hget hdep;have tidy:∀ j∈(Blk.nest sz (xs++ys)).ids,j.d≤id.d:=by
    intro j hj;simp only [Blk.ids,List.flatten_append,tC] at hj;rcases aP.1 hj with hj | hj
    ·exact I.tidy id _ hb.h j hj
    ·rcases hd with hd | hd
     ·have h1:=I.tidy id2 _ hb2.h j hj;have h2:=S.xm hb2.h;omega
     ·exact gp (aY.1 hd j hj)
   have lenlt:¬ (xs++ys).length=xs.length:=by intro q;rw [iy] at q;omega
   by_cases hin:m+n≤cap
   ·
    obtain ⟨a',cc,e3,hsv'⟩:=hsv;cases e3;rcases hsv' with ⟨q1,q2,q3,_⟩ | ⟨q1,q2,q3,q4,q5⟩
    ·omega
    ·have ha':=q5 (.inr rfl);rw [oM] at ha';subst ha';rcases I.blk id _ hb.h with ⟨q,_⟩ | ⟨_,b2,b3,cells,elem,b5,b6,hpl,b7⟩
     ·rw [q1] at q;cases q
     ·have hfit:m * sz+yc.length≤cells.size:=by
       rw [hyC.1,b6,← hn,← di];exact aV _ (by omega)
      obtain ⟨w',k1,k2,k3,k4,k5,k6,k7⟩:=zg (w:=w) ty hu ht2 hsz hin b5 hfit hyC.2.1 hyr;have hle:xs.length * sz≤cells.size:=by rw [b6];exact aV _ b2
      have hX:CP P V s.get μ sz xs (cells.toList.take (xs.length * sz)):=by
       refine ⟨by simp;omega,fun v hv=>?_,fun i e he=>⟨(b7 i e he).1,fun k a v ha hv=>(b7 i e he).2 k a v ha ?_⟩⟩
       ·obtain ⟨k,hk⟩:=gm.1 hv;rw [bT] at hk;split at hk
        ·exact hpl k v (by simpa using hk)
        ·cases hk
       ·rw [bT] at hv;split at hv
        ·simpa using hv
        ·cases hv
      have hXY:=hX.append hyC;have K1:∀ q b,s.get q=some b→∃ b',upd s.get id (.nest sz (xs++ys)) q=some b'∧qH b (μ q) b' (vI μ id (μ id) q):=by
       intro q b hq;by_cases z:q=id
       ·subst z;rw [hb.h] at hq;cases hq;exact ⟨_,upd_same _ _ _,rfl,by simp,fun q=>absurd q lenlt⟩
       ·exact ⟨b,by rw [upd_ne _ _ z];exact hq,by rw [iM _ _ z];exact .refl _ _⟩
      have hle2:m * sz+yc.length≤cells.toList.length:=by simpa using hfit
      obtain ⟨I',E'⟩:=I.Qb (w':=w') hb.h (.nest sz (xs++ys)) (μ id) (fun q => .inl ⟨rfl,q⟩) (fun k _ hk=>k3 k (hk.resolve_left (by rw [q1];simp)))
       (fun cc v _ hv=>absurd hv (b3 cc v)) (fun en cc _ hv=>by have:=I.map _ _ _ hv;rw [b5] at this;cases this) k5 k6 k7 (by omega)
       (.inr ⟨q1,by simp;omega,b3,_,elem,k2,by rw [iH,jH _ _ _ hle2];simpa using b6,by
        intro k v hk;rw [eu,kQ _ _ _ hle2] at hk;split at hk
        ·exact hpl k v (by simpa using hk)
        ·split at hk
         ·exact hyC.2.1 v (bz hk)
         ·exact hpl k v (by simpa using hk),by
        intro i e he;obtain ⟨g1,g2⟩:=(hXY.mono K1).2.2 i e he;refine ⟨g1,fun k a v hka hv=>g2 k a v hka ?_⟩;have hk:k < sz:=by rw [← g1];exact (ay.1 hka).1
        have hil:i < (xs++ys).length:=(ay.1 he).1;have hlt:=mul_lt hil hk;simp only [iy,di] at hlt;rw [eu,kQ _ _ _ hle2] at hv;have hy1:=hyC.1;have exl:(cells.toList.take (xs.length * sz)).length=xs.length * sz:=by simp;omega
        have emx:m * sz=xs.length * sz:=by rw [hm]
        by_cases g3:i * sz+k < xs.length * sz
        ·rw [if_pos (by omega)] at hv;rw [bK (by omega),bT,if_pos g3];exact hv
        ·rw [if_neg (by omega),if_pos (by omega)] at hv;rw [dF (by omega),exl,← emx];exact hv⟩)
       ⟨rfl,by simp,fun q=>absurd q lenlt⟩ tidy
      refine ⟨_,w',V,vI μ id (μ id),k1,?_,?_,?_,hdep⟩
      ·show iO P V s'.get _ _ _
       rw [hget];refine .nref id _ sz (xs++ys) _ _ (upd_same _ _ _) (by simp;omega) (fun _=>⟨_,_,rfl, .inr ?_⟩);rw [fF];exact ⟨q1,q2,q3,rfl,fun _=>by simp⟩
      ·show Inv P V s'.get _ _
       rw [hget];exact I'
      ·show Evo V s.get μ w V s'.get _ w'
       rw [hget];exact E'
   ·
    have hcap':cap < m+n:=by omega
    obtain ⟨xc,hxC,hxr⟩:=EJ (w:=w.drew) I.drew hb.h hm hsv;have hroom':room (m+n) i.bytes=true:=by
     have:=ht.r;simp only [room,aS,fE];exact ⟨by omega,by omega⟩
    obtain ⟨k,hk⟩:=sH (w:=w) ty hu ht2 hi hz hsz hroom' hb0 hcap' hxr hyr2;have hC:=hxC.append hyC2
    let p':Pl:=⟨w.heap.size,m+n+k,false,0⟩
    have noV:∀ c v,¬ V.cell w.heap.size c v:=by
     intro c v hv;have:=World.block_lt_of_cell? w _ (I.cell _ _ _ hv);simp at this
    have K1:∀ q b,s.get q=some b→∃ b',upd s.get id (.nest sz (xs++ys)) q=some b'∧qH b (μ q) b' (vI μ id p' q):=by
     intro q b hq;by_cases z:q=id
     ·subst z;rw [hb.h] at hq;cases hq;exact ⟨_,upd_same _ _ _,rfl,by simp,fun q=>absurd q lenlt⟩
     ·exact ⟨b,by rw [upd_ne _ _ z];exact hq,by rw [iM _ _ z];exact .refl _ _⟩
    obtain ⟨I',E'⟩:=I.Qb (w':=oD w (.cells ((xc++yc2).toArray++Builtin.zeroCells zv.cells k) e)) hb.h (.nest sz (xs++ys)) p' (fun _ => .inr (aZ _)) (fun k hk _=>rW w _ k hk)
     (fun cc v _ hv=>by
      have h1:=I.cell _ _ _ hv;have h2:=World.block_lt_of_cell? w _ h1;rw [← h1];unfold World.cell?;simp only [rW w _ _ h2])
     (fun en cc _ hv=>by
      have h1:=I.map _ _ _ hv;rw [rW w _ _ (aN.1 h1).1,h1])
     rfl rfl rfl (by simp [oD])
     (.inr ⟨rfl,by simp [p'];omega,fun c v=>noV c v,_,e,Dp w _,by
      have h9:=hC.1;simp only [Array.size_append,iH,jP,hzc,p',h9,iy];rw [← di,hm,hn],by
      intro q v hq;have hmem:=Array.mem_of_getElem? hq;rcases Array.mem_append.1 hmem with g | g
      ·exact hC.2.1 v (by simpa using g)
      ·exact yl hzr k v g,by
      intro j el hel;obtain ⟨g1,g2⟩:=(hC.mono (h':=upd s.get id (.nest sz (xs++ys))) (μ':=vI μ id p') K1).2.2 j el hel;refine ⟨g1,fun q a v hqa hv=>g2 q a v hqa ?_⟩;have hqs:q < sz:=by rw [← g1];exact (ay.1 hqa).1
      have hil:j < (xs++ys).length:=(ay.1 hel).1;have hlt:=mul_lt hil hqs;rw [← hC.1] at hlt;rw [Array.getElem?_append_left (by simpa using hlt)] at hv;simpa using hv⟩)
     ⟨rfl,by simp,fun q=>absurd q lenlt⟩ tidy
    refine ⟨_,_,V,vI μ id p',hk,?_,?_,?_,hdep⟩
    ·show iO P V s'.get _ _ _
     rw [hget];refine .nref id _ sz (xs++ys) _ _ (upd_same _ _ _) (by simp;omega) (fun _=>⟨_,_,rfl, .inr ?_⟩);rw [fF];exact ⟨rfl,by simp [p'],lC _,rfl,fun _=>by simp [p']⟩
    ·show Inv P V s'.get _ _
     rw [hget];exact I'
    ·show Evo V s.get μ w V s'.get _ _
     rw [hget];exact E'
theorem bsN {n t e sz by_:Nat} {z:D} {v:A} {parts:Array (Nat×Operand)} (ht:Sli P t e sz by_ z) (hp:nO (look env) parts.toList=some [(0,v)]) (hr:dZ env (.buildSlice t 1 parts)=true) (hs:storable v=true) (hv:Nat.beq v.cells.length sz=true)
  (hsz:Nat.ble sz 16777216=true) (hn:qA loc d=n) :
  iL P env ⟨loc,out,chg⟩ ⟨some d, .buildSlice t 1 parts,ty,pos,af,gd⟩ (.nref ⟨out.length,d,n⟩ 1) (.add [((d,n), .nest sz [v.cells])]):=by
 refine iL.sem hr fun V μ w I a R=>?_
 have hv':=bV hv;have hsz':=gp hsz;obtain ⟨p,hpe⟩:∃ p,parts.toList=[p]:=by
  cases hq:parts.toList with
  | nil=>rw [hq] at hp;simp only [nO] at hp;cases hp
  | cons p r =>
   cases r with
   | nil=>exact ⟨p,rfl⟩
   | cons p2 r =>
    rw [hq] at hp;obtain ⟨i,x⟩:=p;obtain ⟨i2,x2⟩:=p2;simp only [nO] at hp;split at hp
    ·rename_i h1 h2
     split at h2
     ·cases h2;cases hp
     ·cases h2
    ·cases hp
 obtain ⟨i,x⟩:=p;rw [hpe] at hp;simp only [nO] at hp;split at hp
 case h_2=>cases hp
 rename_i v1 vs1 hx1 hx2
 cases hx2;cases hp;have Rx:=R x (by
  have e:parts=#[(0,x)]:=by apply mO;rw [hpe]
  subst e;simp [Op.operands]) _ hx1
 refine ⟨Instr.buildSlice t 1 (parts.map fun p=>(p.1,a.eval p.2)),by simp [execOp],?_⟩;have emap:(parts.map fun p=>(p.1,a.eval p.2))=#[(0,a.eval x)]:=by apply mO;simp [hpe]
 rw [emap];have hu:=ht.u;obtain ⟨zv,hzv,hzr⟩:=wQ ht.z0 w;have hzc:zv.cells.size=sz:=by rw [(hzr V).cells.1,ht.zs]
 have hC:=ui Rx hs;have hcn:(a.eval x).cells.size=sz:=by rw [← hv',← hC.1,fM]
 have hfill:Instr.fill (fun i=>some (i * sz,sz)) (Builtin.zeroCells zv.cells 1) [(0,a.eval x)]=some (a.eval x).cells:=by
  simp only [Instr.fill];rw [if_neg (by simp [hcn,jP,hzc])]
  congr 1
  have:=Es 0 (a.eval x) (Builtin.zeroCells zv.cells 1) (by simp [jP,hzc,hcn]);simp only [oM];rw [this];unfold splice;rw [List.drop_of_length_le (by simp [jP,hzc,hcn])];simp
 have hrun:(Instr.buildSlice t 1 #[(0,a.eval x)]).run P w = .ok (.slice (some ⟨w.heap.size,0,none⟩) 1 1) (w.alloc (.cells (a.eval x).cells e)):=by
  unfold Instr.buildSlice;have hbig:¬ (1 * sz > 2 ^ 24):=by omega
  by_cases h0:1 * sz=0
  ·have e1:Builtin.zeroCells zv.cells 1=#[]:=ik (by rw [jP,hzc,h0]);rw [e1] at hfill;have h0':sz=0:=by omega
   have e3:(Array.map (fun _=>(default:Value)) (Array.range 0))=#[]:=ik (by simp);simp [dV hu,ja ht.s,h0',newRow];subst h0';simp at hfill
   first | (rw [e3,hfill];simp) | simp [hfill]
  ·have e1:Builtin.zeroCells zv.cells 1=(Array.range (1 * sz)).map (zv.cells[· % zv.cells.size]!):=by unfold Builtin.zeroCells;rw [hzc]
   rw [e1] at hfill;simp only [Sem.run_bind,dV hu,Result.andThen_ok,ja ht.s,if_neg hbig,if_neg h0,hzv,Sem.run_pure,hfill,newRow];simp [hfill]
 have hfree:S.get ⟨loc,out,chg⟩ ⟨out.length,d,n⟩=none:=by rw [jF];exact AL _ _ _ (by omega)
 have hget:S.get (Delta.apply ⟨loc,out,chg⟩ (.add [((d,n), .nest sz [v.cells])]))=upd (S.get ⟨loc,out,chg⟩) ⟨out.length,d,n⟩ (.nest sz [v.cells]):=by
  funext j
  show S.get ⟨((d,n), .nest sz [v.cells])::loc,out,chg⟩ j=_
  by_cases e:j.d=out.length
  ·rw [qj _ j e,kN rfl];unfold upd;rw [qj _ j e];by_cases e1:j=⟨out.length,d,n⟩
   ·subst e1;simp
   ·rw [if_neg e1];by_cases e2:j.t=d
    ·by_cases e3:j.n=n
     ·exfalso;apply e1;cases j;simp only at e e2 e3;subst e e2 e3;rfl
     ·rw [if_pos e2,if_neg e3]
    ·rw [if_neg e2]
  ·rw [yH _ loc j e,upd_ne _ _ (fun q=>e (by rw [q]))]
 have noV:∀ c v,¬ V.cell w.heap.size c v:=by
  intro c v hv;have:=World.block_lt_of_cell? w _ (I.cell _ _ _ hv);simp at this
 have K:∀ j x,S.get ⟨loc,out,chg⟩ j=some x→∃ x',upd (S.get ⟨loc,out,chg⟩) ⟨out.length,d,n⟩ (.nest sz [v.cells]) j=some x'∧qH x (μ j) x' (vI μ ⟨out.length,d,n⟩ ⟨w.heap.size,1,false,0⟩ j):=by
  intro j x hx;have e:j≠⟨out.length,d,n⟩:=fun e=>by rw [e,hfree] at hx;cases hx
  exact ⟨x,by rw [upd_ne _ _ e];exact hx,by rw [iM _ _ e];exact .refl _ _⟩
 obtain ⟨I',E'⟩:=I.lay (w':=w.alloc (.cells (a.eval x).cells e)) hfree (.nest sz [v.cells]) ⟨w.heap.size,1,false,0⟩ (fun _ hk=>heap_alloc_old w _ hk) rfl rfl rfl (by simp) (fun _=>aZ _)
  (.inr ⟨rfl,by simp,noV,_,e,heap_alloc_new w _,by simp [hcn],fun k u hu=>yT hC u (by
    have:=Array.mem_of_getElem? hu;simpa using this),fun i el hel=>by
   cases i with
   | succ i=>simp at hel
   | zero =>
    simp at hel;subst hel;refine ⟨hv',fun k b u hkb hu=>?_⟩;rw [oM,iV] at hu;exact (hC.2 k b u hkb (by simpa using hu)).1.mono (.refl V) (fun j _ b hb=>K j b hb)⟩)
  (by
   intro j hj;simp only [Blk.ids,List.flatten_cons,List.flatten_nil,jh] at hj;obtain ⟨b,hb⟩:=uX Rx j (zX hj);exact S.xm hb)
 refine ⟨_,_,V,_,hrun,?_,by rw [hget];exact I',by rw [hget];exact E',rfl⟩;rw [hget];refine .nref _ 1 sz [v.cells] _ _ (upd_same _ _ _) (by simp) (fun _=>⟨_,_,rfl, .inr ?_⟩);rw [fF];exact ⟨rfl,by simp,lC _,rfl,fun _=>by simp⟩
end
end Go.Lx
namespace Go.Lx
def Rw (h:Id→Option Blk) (i:Id) (b:Blk):Prop:=∀ n,(b.one=true→n=0)→h ⟨i.d,i.t,n+i.n⟩=b.view 0 n
def cov (i:Id) (b:Blk) (j:Id):Prop:=j.d=i.d∧j.t=i.t∧(b.one=true→j.n=i.n)
def apartB (i:Id) (b:Blk):List Id→List Blk→Bool
 | j::ids,c::bs=>(!Nat.beq i.t j.t || (b.one&&c.one&&!Nat.beq i.n j.n) || !Nat.beq i.d j.d)&&apartB i b ids bs
 | _,_=>true
def Eh:List Id→List Blk→Bool
 | i::ids,b::bs=>(b.one || Nat.beq i.n 0)&&apartB i b ids bs&&Eh ids bs
 | _,_=>true
theorem zL {i:Id} {b:Blk}:∀ {ids:List Id} {bs:List Blk},apartB i b ids bs=true→∀ (k:Nat) j c,ids[k]?=some j→bs[k]?=some c→i.d=j.d→i.t=j.t→b.one=true∧c.one=true∧i.n≠j.n
 | [],_,_,k,j,c,h1,_,_,_=>by simp at h1
 | j0::ids,[],_,k,j,c,_,h2,_,_=>by simp at h2
 | j0::ids,c0::bs,h,k,j,c,h1,h2,h3,h4=>by
  simp only [apartB,aS] at h;cases k with
  | zero =>
   simp at h1 h2;subst h1 h2;have:=h.1;rw [h3,h4] at this;simp at this;exact ⟨this.1.1,this.1.2,fun e=>by simp [e] at this⟩
  | succ k=>exact zL h.2 k j c (by simpa using h1) (by simpa using h2) h3 h4
theorem JS:∀ {ids:List Id} {bs:List Blk},Eh ids bs=true→∀ (k l:Nat) i j b c,k≠l→ids[k]?=some i→ids[l]?=some j→bs[k]?=some b→bs[l]?=some c→i.d=j.d→i.t=j.t→b.one=true∧c.one=true∧i.n≠j.n
 | [],_,_,k,l,i,j,b,c,_,h1,_,_,_,_,_=>by simp at h1
 | i0::ids,[],_,k,l,i,j,b,c,_,_,_,h3,_,_,_=>by simp at h3
 | i0::ids,b0::bs,h,k,l,i,j,b,c,hne,h1,h2,h3,h4,h5,h6=>by
  simp only [Eh,aS] at h;cases k with
  | zero =>
   simp at h1 h3;subst h1 h3;cases l with
   | zero=>exact absurd rfl hne
   | succ l=>exact zL h.1.2 l j c (by simpa using h2) (by simpa using h4) h5 h6
  | succ k =>
   cases l with
   | zero =>
    simp at h2 h4;subst h2 h4;obtain ⟨q1,q2,q3⟩:=zL h.1.2 k i b (by simpa using h1) (by simpa using h3) h5.symm h6.symm;exact ⟨q2,q1,fun e=>q3 e.symm⟩
   | succ l=>exact JS h.2 k l i j b c (fun e=>hne (by rw [e])) (by simpa using h1) (by simpa using h2) (by simpa using h3) (by simpa using h4) h5 h6
theorem Fj:∀ {ids:List Id} {bs:List Blk},Eh ids bs=true→∀ (k:Nat) i b,ids[k]?=some i→bs[k]?=some b→b.one=false→i.n=0
 | [],_,_,k,i,b,h1,_,_=>by simp at h1
 | i0::ids,[],_,k,i,b,_,h2,_=>by simp at h2
 | i0::ids,b0::bs,h,k,i,b,h1,h2,h3=>by
  simp only [Eh,aS] at h;cases k with
  | zero=>simp at h1 h2;subst h1 h2;have:=h.1.1;rw [h3] at this;simpa using this
  | succ k=>exact Fj h.2 k i b (by simpa using h1) (by simpa using h2) h3
inductive FrF (h:Id→Option Blk):List Id→List Blk→Prop where
 | n:FrF h [] []
 | c {i:Id} {b:Blk} {ids:List Id} {bs:List Blk} (e:Rw h i b) (k:FrF h ids bs):FrF h (i::ids) (b::bs)
theorem FrF.at {h:Id→Option Blk} {ids:List Id} {bs:List Blk} (F:FrF h ids bs):∀ (k:Nat) i b,ids[k]?=some i→bs[k]?=some b→Rw h i b:=by
 induction F with
 | n=>intro k i b h;simp at h
 | c e k ih =>
  intro j i b h1 h2;cases j with
  | zero=>simp at h1 h2;subst h1 h2;exact e
  | succ j=>exact ih j i b (by simpa using h1) (by simpa using h2)
theorem FrF.len {h:Id→Option Blk} {ids:List Id} {bs:List Blk} (F:FrF h ids bs):bs.length=ids.length:=by
 induction F with
 | n=>rfl
 | c _ _ ih=>simp [ih]
theorem FrF.mono {h h':Id→Option Blk} {ids:List Id} {bs:List Blk} (F:FrF h ids bs) (hh:∀ (k:Nat) i b,ids[k]?=some i→bs[k]?=some b→∀ n,(b.one=true→n=0)→h' ⟨i.d,i.t,n+i.n⟩=h ⟨i.d,i.t,n+i.n⟩):FrF h' ids bs:=by
 induction F with
 | n=>exact .n
 | c e k ih=>exact .c (fun n hn=>by rw [hh 0 _ _ rfl rfl n hn];exact e n hn) (ih (fun k i b h1 h2=>hh (k+1) i b (by simpa using h1) (by simpa using h2)))
structure uk (out:Out) (chg:List (Option Loc)) (ids:List Id) (bs:List Blk):Prop where
 hit:FrF (⟨[],out,chg⟩:S).get ids bs
 miss:∀ j,(∀ (k:Nat) i b,ids[k]?=some i→bs[k]?=some b→¬ cov i b j)→(⟨[],out,chg⟩:S).get j=(uH out).get j
section
variable {P:Program} {out:Out} {loc loc0 cl c0:Loc} {chg chg':List (Option Loc)} {ids:List Id} {bs:List Blk} {i:Id} {b b0:Blk}
theorem uk.nil:uk out [] [] []:=⟨.n,fun i _=>rfl⟩
theorem uk.one:uk (loc::out) [some loc] [] []:=⟨.n,fun i _=>After.one.miss i (by simp)⟩
theorem uk.full:uk [loc,cl] [some loc,some cl] [] []:=⟨.n,fun i _=>After.full.miss i (by simp)⟩
theorem uk.keep (A:uk out chg ids bs) (h:Rw (uH out).get i b) (hap:apartB i b ids bs=true):uk out chg (i::ids) (b::bs):=by
 refine ⟨.c (fun n hn=>?_) A.hit,fun j hj=>A.miss j (fun k i' b' h1 h2=>hj (k+1) i' b' (by simpa using h1) (by simpa using h2))⟩;rw [A.miss _ (fun k j c h1 h2 hc=>?_)]
 ·exact h n hn
 ·obtain ⟨q1,q2,q3⟩:=hc;simp only at q1 q2 q3;obtain ⟨r1,r2,r3⟩:=zL hap k j c h1 h2 q1 q2;have:=q3 r2;have:=hn r1;omega
structure RG (h:Id→Option Blk) (i:Id) (b:Blk) (h':Id→Option Blk):Prop where
 hit:Rw h' i b
 miss:∀ j,¬ cov i b j→h' j=h j
theorem uk.set (A:uk out chg ids bs) (hp:RG (⟨[],out,chg⟩:S).get i b (⟨[],out,chg'⟩:S).get) (hap:apartB i b ids bs=true):uk out chg' (i::ids) (b::bs):=by
 refine ⟨.c hp.hit (A.hit.mono (fun k j c h1 h2 n hn=>?_)),fun j hj=>?_⟩
 ·refine hp.miss _ ?_
  rintro ⟨q1,q2,q3⟩
  simp only at q1 q2 q3;obtain ⟨r1,r2,r3⟩:=zL hap k j c h1 h2 q1.symm q2.symm;have:=q3 r1;have:=hn r2;omega
 ·rw [hp.miss j (hj 0 i b rfl rfl)];exact A.miss j (fun k i' b' h1 h2=>hj (k+1) i' b' (by simpa using h1) (by simpa using h2))
theorem RG.one (hg:(⟨[],out,chg⟩:S).get i=some b0) (hs:(⟨[],out,chg⟩:S).set i b=⟨[],out,chg'⟩) (hone:b.one=true:=by rfl):RG (⟨[],out,chg⟩:S).get i b (⟨[],out,chg'⟩:S).get:=by
 have hu:=(S.mP hg b hone).1;rw [hs] at hu;refine ⟨fun n hn=>?_,fun j hj=>?_⟩
 ·have:=hn hone;subst this;rw [iV,hu,rM hone,if_pos rfl];exact upd_same _ _ _
 ·rw [hu,upd_ne]
  rintro rfl
  exact hj ⟨rfl,rfl,fun _=>rfl⟩
def Ar (l:Loc) (t:Nat):Bool:=(match rV l t with | some (.fam _)=>true | _=>false)&&Nat.beq (l.filter fun e=>Nat.beq e.1.1 t).length 1
def JO (l:Loc) (t:Nat) (b:Blk):Loc:=l.map fun e=>if Nat.beq e.1.1 t then (e.1,b) else e
theorem QU {l:Loc} {t:Nat} (h:(l.filter fun e=>Nat.beq e.1.1 t).length=0) (n:Nat):dG l t n=none:=by
 refine H9 fun e he q=>?_
 have:e∈l.filter fun e=>Nat.beq e.1.1 t:=oh.2 ⟨he,by simp [q]⟩
 rw [cZ h] at this;cases this
theorem VI {l:Loc} {t:Nat} {b:Blk} (h:(l.filter fun e=>Nat.beq e.1.1 t).length=0):JO l t b=l:=by
 unfold JO;rw [List.map_congr_left (g:=id),List.map_id];intro e he;by_cases q:e.1.1=t
 ·have:e∈l.filter fun e=>Nat.beq e.1.1 t:=oh.2 ⟨he,by simp [q]⟩
  rw [cZ h] at this;cases this
 ·simp [q]
theorem Jj {l:Loc} {t:Nat} (h:Ar l t=true) {rows:List Blk} (hr:rV l t=some (.fam rows)) (n:Nat):dG l t n=rows[n]?:=by
 unfold Ar at h;simp only [aS] at h;have h2:=bV h.2;clear h
 induction l with
 | nil=>cases hr
 | cons x l ih =>
  obtain ⟨⟨a,m⟩,y⟩:=x;simp only [rV] at hr;by_cases e:t=a
  ·subst e;rw [if_pos rfl] at hr;cases hr;simp only [ni,Nat.beq_refl,aG,dU] at h2;cases hn:rows[n]? with
   | some z=>exact jf hn
   | none=>rw [iD (show (Blk.fam rows).view m n=none from hn)];exact (QU (by omega) n)
  ·rw [if_neg e] at hr;rw [iY e];refine ih hr ?_;have:Nat.beq a t=false:=by cases hq:Nat.beq a t with | false=>rfl | true=>exact absurd (bV hq).symm e
   simpa [ni,this] using h2
theorem Ro {l:Loc} {t:Nat} (h:Ar l t=true) (rows:List Blk):(∀ n,dG (JO l t (.fam rows)) t n=rows[n]?)∧∀ u n,u≠t→dG (JO l t (.fam rows)) u n=dG l u n:=by
 unfold Ar at h;simp only [aS] at h;have h2:=bV h.2;constructor
 ·clear h
  induction l with
  | nil=>simp at h2
  | cons x l ih =>
   obtain ⟨⟨a,m⟩,y⟩:=x;intro n;by_cases e:t=a
   ·subst e;simp only [ni,Nat.beq_refl,aG,dU] at h2;have hz:(l.filter fun e=>Nat.beq e.1.1 t).length=0:=by omega
    have hs:JO (((t,m),y)::l) t (.fam rows)=((t,m), .fam rows)::l:=by
     have:=VI (b := .fam rows) hz;unfold JO at this ⊢;rw [gB,this];simp only [Nat.beq_refl,aG]
    rw [hs];cases hn:rows[n]? with
    | some z=>exact jf hn
    | none=>rw [iD (show (Blk.fam rows).view m n=none from hn)];exact QU hz n
   ·have hb:Nat.beq a t=false:=by cases hq:Nat.beq a t with | false=>rfl | true=>exact absurd (bV hq).symm e
    have hs:JO (((a,m),y)::l) t (.fam rows)=((a,m),y)::JO l t (.fam rows):=by unfold JO;rw [gB];simp only [hb,aF,aj]
    rw [hs,iY e];exact ih (by simpa [ni,hb] using h2) n
 ·clear h h2;intro u n hu
  induction l with
  | nil=>rfl
  | cons x l ih =>
   obtain ⟨⟨a,m⟩,y⟩:=x;by_cases e:a=t
   ·subst e;have hs:JO (((a,m),y)::l) a (.fam rows)=((a,m), .fam rows)::JO l a (.fam rows):=by unfold JO;simp
    rw [hs,iY hu,iY hu];exact ih
   ·have hb:Nat.beq a t=false:=by cases hq:Nat.beq a t with | false=>rfl | true=>exact absurd (bV hq) e
    have hs:JO (((a,m),y)::l) t (.fam rows)=((a,m),y)::JO l t (.fam rows):=by unfold JO;rw [gB];simp only [hb,aF,aj]
    rw [hs];by_cases q:u=a
    ·subst q;cases hv:y.view m n with
     | some z=>rw [jf hv,jf hv]
     | none=>rw [iD hv,iD hv];exact ih
    ·rw [iY q,iY q];exact ih
theorem fe1 {t:Nat} {rows:List Blk} (h:Ar loc t=true) (hr:rV loc t=some (.fam rows)):Rw (uH (loc::out)).get ⟨out.length,t,0⟩ (.fam rows):=fun n _=>by
 have:(uH (loc::out)).get ⟨out.length,t,n⟩=dG loc t n:=by
  unfold uH S.get S.cur S.dep;simp [nz]
 simp only [oL];rw [this,Jj h hr];rfl
theorem oe (h:(uH out).get i=some b) (hone:b.one=true:=by rfl):Rw (uH out).get i b:=fun n hn=>by
 have:=hn hone;subst this;rw [iV,rM hone,if_pos rfl];exact h
theorem aab {t:Nat} {rows:List Blk} {l0 loc':Loc} (h:Ar loc t=true) (hs:JO loc t (.fam rows)=loc'):RG (⟨[],l0::out,[some loc]⟩:S).get ⟨out.length,t,0⟩ (.fam rows) (⟨[],l0::out,[some loc']⟩:S).get:=by
 subst hs;obtain ⟨h1,h2⟩:=Ro h rows;have own:∀ (l:Loc) (j:Id),j.d=out.length→(⟨[],l0::out,[some l]⟩:S).get j=dG l j.t j.n:=by
  intro l j hj;unfold S.get S.cur S.dep;simp [nz,hj]
 have far:∀ (l l':Loc) (j:Id),j.d≠out.length→(⟨[],l0::out,[some l]⟩:S).get j=(⟨[],l0::out,[some l']⟩:S).get j:=by
  intro l l' j hj;unfold S.get S.cur S.dep;simp only [nz,dU];by_cases e:j.d=out.length+1
  ·simp [e]
  ·rw [if_neg e,if_neg e];split
   ·rename_i hlt
    have:∃ k,out.length+1 - 1 - j.d=k+1:=⟨out.length - 1 - j.d,by omega⟩
    obtain ⟨k,hk⟩:=this;rw [hk];simp
   ·rfl
 refine ⟨fun n _=>?_,fun j hj=>?_⟩
 ·simp only [oL];rw [own _ _ rfl,h1];rfl
 ·by_cases e:j.d=out.length
  ·rw [own _ j e,own _ j e];refine h2 _ _ (fun q=>hj ⟨e,q,fun q2=>by cases q2⟩)
  ·exact far _ _ j e
end
theorem Dk {α:Type} (sz:Nat) (g:α→List D):∀ (xs:List α),Blk.oq (xs.map fun x=>Blk.arr sz false (g x))=[]
 | []=>rfl
 | x::xs=>by simp [Blk.oq,Blk.ids,Dk sz g xs]
inductive Jy (cbs:List Blk):List Blk→Prop where
 | n:Jy cbs []
 | c {b:Blk} {r:List Blk} (h:(b.ids.all fun i=>(jY cbs i).isSome)=true) (k:Jy cbs r):Jy cbs (b::r)
 | f {α:Type} {sz:Nat} {g:α→List D} {xs:List α} {r:List Blk} (k:Jy cbs r):Jy cbs (qo sz g xs::r)
 | e {α:Type} {sz:Nat} {sl:List (Slot α)} {xs:List α} {r:List Blk} (h:∀ t∈Slot.keys sl,∃ (sz:Nat) (g:α→List D),cbs[t]?=some (qo sz g xs)) (k:Jy cbs r):Jy cbs (.nest sz (nM 0 sl xs)::r)
theorem Jy.ok {cbs r:List Blk} (H:Jy cbs r):∀ b∈r,∀ i∈b.ids,∃ c,jY cbs i=some c:=by
 induction H with
 | n=>intro b hb;cases hb
 | c h k ih =>
  intro b hb i hi;rcases fJ.1 hb with rfl | hb
  ·exact iC.1 (aY.1 h i hi)
  ·exact ih b hb i hi
 | f k ih =>
  intro b hb i hi;rcases fJ.1 hb with rfl | hb
  ·simp only [qo,Blk.ids,Dk] at hi;cases hi
  ·exact ih b hb i hi
 | e h k ih =>
  intro b hb i hi;rcases fJ.1 hb with rfl | hb
  ·obtain ⟨q1,q2,q3⟩:=wM hi;obtain ⟨sz,g,hk⟩:=h _ q3;unfold jY;rw [if_pos q1,hk,ae,rU,au q2];exact ⟨_,rfl⟩
  ·exact ih b hb i hi
inductive Jw (ids:List Id):List Id→List Blk→Prop where
 | n:Jw ids [] []
 | c {j:Id} {b:Blk} {is:List Id} {r:List Blk} (h:(b.ids.all fun i=>Nat.ble (rho ids i).d j.d)=true) (k:Jw ids is r):Jw ids (j::is) (b::r)
 | f {α:Type} {sz:Nat} {g:α→List D} {xs:List α} {j:Id} {is:List Id} {r:List Blk} (k:Jw ids is r):Jw ids (j::is) (qo sz g xs::r)
 | e {α:Type} {sz:Nat} {sl:List (Slot α)} {xs:List α} {j:Id} {is:List Id} {r:List Blk} (h:∀ t∈Slot.keys sl,∃ i,ids[t]?=some i∧i.d=j.d) (k:Jw ids is r):Jw ids (j::is) (.nest sz (nM 0 sl xs)::r)
theorem Jw.ok {ids is:List Id} {r:List Blk} (H:Jw ids is r):∀ (k:Nat) j b,is[k]?=some j→r[k]?=some b→∀ i∈b.ids,(rho ids i).d≤j.d:=by
 induction H with
 | n=>intro k j b h;simp at h
 | c h k ih =>
  intro n j b h1 h2 i hi;cases n with
  | zero=>simp at h1 h2;subst h1 h2;exact gp (aY.1 h i hi)
  | succ n=>exact ih n j b (by simpa using h1) (by simpa using h2) i hi
 | f k ih =>
  intro n j b h1 h2 i hi;cases n with
  | zero=>simp at h1 h2;subst h1 h2;simp only [qo,Blk.ids,Dk] at hi;cases hi
  | succ n=>exact ih n j b (by simpa using h1) (by simpa using h2) i hi
 | e h k ih =>
  intro n j b h1 h2 i hi;cases n with
  | zero =>
   simp at h1 h2;subst h1 h2;obtain ⟨q1,q2,q3⟩:=wM hi;obtain ⟨x,hx,hd⟩:=h _ q3;unfold rho;rw [if_pos q1,hx];exact Nat.le_of_eq hd
  | succ n=>exact ih n j b (by simpa using h1) (by simpa using h2) i hi
def Slot.re {α:Type} (f:Nat→Nat):Slot α→Slot α
 | .c g => .c g
 | .h t sz len g => .h (f t) sz len g
def keyOf (ids:List Id) (t:Nat):Nat:=match ids[t]? with | some i=>i.t | none=>t
theorem Gp {α:Type} {ρ:Id→Id} {sz:Nat} {g:α→List D} {xs:List α}:(qo sz g xs).ren ρ=qo sz g xs:=by
 simp only [qo,Blk.ren,MB,List.map_map];rfl
theorem QS {α:Type} {ids:List Id} {d sz:Nat} {sl sl':List (Slot α)} {xs:List α} (h:∀ t∈Slot.keys sl,∃ i,ids[t]?=some i∧i.d=d∧i.n=0) (hs:sl.map (Slot.re (keyOf ids))=sl') :
  (Blk.nest sz (nM 0 sl xs)).ren (rho ids) = .nest sz (nM d sl' xs):=by
 subst hs;simp only [Blk.ren]
 congr 1
 have key:∀ (xs:List α) (j:Nat),(wB 0 sl j xs).map (A.xO (rho ids))=wB d (sl.map (Slot.re (keyOf ids))) j xs:=by
  intro xs
  induction xs with
  | nil=>intro j;rfl
  | cons x xs ih =>
   intro j;simp only [wB,gB,ih (j+1)]
   congr 1
   clear ih
   induction sl with
   | nil=>rfl
   | cons s r ih2 =>
    cases s with
    | c f =>
     simp only [xW,gB,A.xO,Slot.cell,Slot.re,A.ren] at ih2 ⊢;rw [ih2 (fun t ht=>h t ht)]
    | h t sz len g =>
     simp only [xW,gB,A.xO,Slot.cell,Slot.re,A.ren] at ih2 ⊢;rw [ih2 (fun t ht=>h t (.tail _ ht))];obtain ⟨i,h1,h2,h3⟩:=h t (.head _)
     congr 1
     unfold rho keyOf;simp [h1,h2,h3]
 exact key xs 0
inductive Yx (ρ:Id→Id):List Blk→List Blk→Prop where
 | n:Yx ρ [] []
 | c {b b':Blk} {r r':List Blk} (h:b.ren ρ=b') (k:Yx ρ r r'):Yx ρ (b::r) (b'::r')
theorem Yx.eq {ρ:Id→Id} {r r':List Blk} (h:Yx ρ r r'):r.map (Blk.ren ρ)=r':=by
 induction h with
 | n=>rfl
 | c h k ih=>simp [h,ih]
theorem frF {P:Program} {g:FuncId} {out:Out} {chg:List (Option Loc)} {ids:List Id} {cargs args:List A} {cbs cbs':List Blk} {cc cc':Loc} {chgc:List (Option Loc)} {cv v:A} (H:dS P g cargs [cc] ⟨cv,chgc⟩) (hcc:cc=canon 0 cbs)
  (hc:(chgc=[]∧cbs'=cbs)∨(chgc=[some cc']∧cc'=canon 0 cbs')) (hap:Eh ids cbs=true) (hk:cbs.map Blk.one=cbs'.map Blk.one)
  (ha:((A.oq cargs).all fun i=>(jY cbs i).isSome)=true) (hb:Jy cbs cbs) (hb':Jw ids ids cbs') (hA:A.xO (rho ids) cargs=args) (hv:cv.ren (rho ids)=v) {bs bs':List Blk} (hbs:Yx (rho ids) cbs bs)
  (hbs':Yx (rho ids) cbs' bs') (h0:FrF (uH out).get ids bs) (h1:uk out chg ids bs'):dS P g args out ⟨v,chg⟩:=by
 have e1:=hbs.eq;have e2:=hbs'.eq;subst hA hv hcc e1 e2;have hl:cbs.length=ids.length:=by have:=h0.len;simpa using this
 have hl':cbs'.length=ids.length:=by have:=h1.hit.len;simpa using this
 have idOf:∀ (t:Nat),t < ids.length→∃ j,ids[t]?=some j:=fun t ht=>⟨_,au ht⟩
 have rat:∀ i,i.d=0→∀ j,ids[i.t]?=some j→rho ids i=⟨j.d,j.t,i.n+j.n⟩:=by
  intro i h1 j hj;unfold rho;rw [if_pos h1,hj]
 have same:∀ (t:Nat) b b',cbs[t]?=some b→cbs'[t]?=some b'→b.one=b'.one:=by
  intro t b b' q1 q2;have:=congrArg (fun l:List Bool=>l[t]?) hk;simpa [q1,q2] using this
 have ex':∀ (t:Nat) b,cbs[t]?=some b→∃ b',cbs'[t]?=some b':=by
  intro t b hb;have:=(ay.1 hb).1;exact ⟨_,au (by omega)⟩
 have ex:∀ (t:Nat) b,cbs'[t]?=some b→∃ b',cbs[t]?=some b':=by
  intro t b hb;have:=(ay.1 hb).1;exact ⟨_,au (by omega)⟩
 have idx:∀ (t:Nat) b,cbs[t]?=some b→∃ j,ids[t]?=some j:=by
  intro t b hb;have:=(ay.1 hb).1;exact idOf t (by omega)
 have vone:∀ (b:Blk) n y,b.view 0 n=some y→(b.one=true→n=0):=by
  intro b n y hy ho;rw [rM ho] at hy;split at hy
  ·assumption
  ·cases hy
 refine dS.Yc (bs':=cbs') (T:=fun i=>i.d=0∧∃ b,cbs[i.t]?=some b∧(b.one=true→i.n=0)) H ?_ ?_ ?_ ?_ ?_ ?_ ?_ ?_ ?_ ?_ ?_ ?_
 ·rcases hc with hc | ⟨rfl,rfl⟩
  ·exact .inl hc
  ·exact .inr rfl
 ·rintro i j ⟨a1,b,a2,a3⟩ ⟨b1,c,b2,b3⟩ e
  obtain ⟨x,hx⟩:=idx _ _ a2;obtain ⟨y,hy⟩:=idx _ _ b2;rw [rat i a1 x hx,rat j b1 y hy] at e;have e1:=congrArg Id.d e;have e2:=congrArg Id.t e;have e3:=congrArg Id.n e;simp only at e1 e2 e3;by_cases q:i.t=j.t
  ·rw [q,hy] at hx;cases hx;cases i;cases j;simp only at a1 b1 q e3 ⊢;subst a1 b1 q
   congr 1
   omega
  ·obtain ⟨r1,r2,r3⟩:=JS hap _ _ x y b c q hx hy a2 b2 e1 e2;have:=a3 r1;have:=b3 r2;omega
 ·intro i b hi;obtain ⟨q1,b0,q2,q3⟩:=sW hi;exact ⟨q1,b0,q2,vone b0 _ _ q3⟩
 ·intro i b hi;obtain ⟨q1,b0,q2,q3⟩:=sW hi;obtain ⟨b1,hb1⟩:=ex _ _ q2;exact ⟨q1,b1,hb1,fun h=>vone b0 _ _ q3 (by rw [← same _ _ _ hb1 q2];exact h)⟩
 ·intro i b hi;obtain ⟨q1,b0,q2,q3⟩:=sW hi;obtain ⟨x,hx⟩:=idx _ _ q2;rw [rat i q1 x hx];have:=h0.at i.t x (b0.ren (rho ids)) hx (by rw [bn,q2];rfl) i.n (by rw [Jb];exact vone b0 _ _ q3);rw [this,GG,q3];rfl
 ·rintro i ⟨q1,b0,q2,q3⟩ hi
  obtain ⟨x,hx⟩:=idx _ _ q2;rw [rat i q1 x hx];have:=h0.at i.t x (b0.ren (rho ids)) hx (by rw [bn,q2];rfl) i.n (by rw [Jb];exact q3);rw [this,GG];unfold jY at hi;rw [if_pos q1,q2,ae] at hi;rw [hi];rfl
 ·intro i hi;exact iC.1 (aY.1 ha i hi)
 ·intro i b hi j hj;obtain ⟨q1,b0,q2,q3⟩:=sW hi;exact hb.ok b0 (bz q2) j (Gz q3 hj)
 ·intro i b hi j hj;right;obtain ⟨q1,b0,q2,q3⟩:=sW hi;obtain ⟨b1,hb1⟩:=ex _ _ q2;obtain ⟨x,hx⟩:=idx _ _ hb1;rw [rat i q1 x hx];exact hb'.ok i.t x b0 hx q2 j (Gz q3 hj)
 ·intro i b hi;obtain ⟨q1,b0,q2,q3⟩:=sW hi;obtain ⟨b1,hb1⟩:=ex _ _ q2;obtain ⟨x,hx⟩:=idx _ _ hb1;rw [rat i q1 x hx];have:=h1.hit.at i.t x (b0.ren (rho ids)) hx (by rw [bn,q2];rfl) i.n (by rw [Jb];exact vone b0 _ _ q3);rw [this,GG,q3];rfl
 ·rintro i ⟨q1,b0,q2,q3⟩ hi
  obtain ⟨b1,hb1⟩:=ex' _ _ q2;obtain ⟨x,hx⟩:=idx _ _ q2;rw [rat i q1 x hx];have:=h1.hit.at i.t x (b1.ren (rho ids)) hx (by rw [bn,hb1];rfl) i.n (by rw [Jb,← same _ _ _ q2 hb1];exact q3);rw [this,GG];unfold jY at hi;rw [if_pos q1,hb1,ae] at hi;rw [hi];rfl
 ·intro j hj;refine h1.miss j fun k i b hi hb hcov=>?_
  rw [bn] at hb;obtain ⟨b1,hb1,rfl⟩:=aJ.1 hb;obtain ⟨b0,hb0⟩:=ex _ _ hb1;obtain ⟨c1,c2,c3⟩:=hcov;rw [Jb,← same _ _ _ hb0 hb1] at c3;cases ho:b0.one with
  | true =>
   refine hj ⟨0,k,0⟩ ⟨rfl,b0,hb0,fun _=>rfl⟩ ?_;rw [rat ⟨0,k,0⟩ rfl i hi];have:=c3 ho;cases j;cases i;simp only at c1 c2 this ⊢;subst c1 c2 this;simp
  | false =>
   refine hj ⟨0,k,j.n⟩ ⟨rfl,b0,hb0,fun q=>by rw [ho] at q;cases q⟩ ?_;rw [rat ⟨0,k,j.n⟩ rfl i hi];have:=Fj hap k i b0 hi hb0 ho;cases j;cases i;simp only at c1 c2 this ⊢;subst c1 c2 this;simp
section
variable {P:Program} {env env':Env} {loc loc':Loc} {out:Out} {chg:List (Option Loc)}
def WA (all:Loc) (out:Out) (i:Id):Bool:=(dG all i.t i.n).isSome || !Nat.beq i.d out.length
theorem Qy {all:Loc} {i:Id} (h:WA all out i=true) (hd:i.d=out.length):∃ b,dG all i.t i.n=some b:=by
 unfold WA at h;rw [hd] at h;simp at h;exact iC.1 h
inductive KH (all:Loc) (out:Out):Env→Prop where
 | n:KH all out []
 | c {t:Nat} {v:A} {r:Env} (h:(v.ids.all (WA all out))=true) (k:KH all out r):KH all out ((t,v)::r)
 | r {t u j:Nat} {v:A} {d:Nat} {b:Blk} {r:Env} (hv:v.ids=[⟨d,u,j⟩]) (h:dG all u j=some b) (k:KH all out r):KH all out ((t,v)::r)
theorem KH.ok {all:Loc} {e:Env} (H:KH all out e):∀ i∈uG e,i.d=out.length→∃ b,dG all i.t i.n=some b:=by
 induction H with
 | n=>intro i hi;cases hi
 | c h k ih =>
  intro i hi hd;simp only [uG,aP] at hi;rcases hi with hi | hi
  ·exact Qy (aY.1 h i hi) hd
  ·exact ih i hi hd
 | r hv h k ih =>
  intro i hi hd;simp only [uG,aP] at hi;rcases hi with hi | hi
  ·rw [hv] at hi;cases hi with
   | head=>exact ⟨_,h⟩
   | tail _ hi=>cases hi
  ·exact ih i hi hd
inductive GL (all:Loc) (out:Out):Loc→Prop where
 | n:GL all out []
 | c {k:Nat×Nat} {b:Blk} {r:Loc} (h:(b.ids.all (WA all out))=true) (k':GL all out r):GL all out ((k,b)::r)
 | f {α:Type} {k:Nat×Nat} {sz:Nat} {g:α→List D} {xs:List α} {r:Loc} (k':GL all out r):GL all out ((k,qo sz g xs)::r)
 | e {α:Type} {k:Nat×Nat} {d sz:Nat} {sl:List (Slot α)} {xs:List α} {r:Loc} (h:∀ t∈Slot.keys sl,∃ (sz:Nat) (g:α→List D),rV all t=some (qo sz g xs)) (k':GL all out r):GL all out ((k, .nest sz (nM d sl xs))::r)
theorem GL.ok {all l:Loc} (H:GL all out l):∀ i∈ut l,i.d=out.length→∃ b,dG all i.t i.n=some b:=by
 induction H with
 | n=>intro i hi;cases hi
 | c h k ih =>
  intro i hi hd;simp only [ut,aP] at hi;rcases hi with hi | hi
  ·exact Qy (aY.1 h i hi) hd
  ·exact ih i hi hd
 | f k ih =>
  intro i hi hd;simp only [ut,aP] at hi;rcases hi with hi | hi
  ·simp only [qo,Blk.ids,Dk] at hi;cases hi
  ·exact ih i hi hd
 | e h k ih =>
  intro i hi hd;simp only [ut,aP] at hi;rcases hi with hi | hi
  ·obtain ⟨q1,q2,q3⟩:=wM hi;obtain ⟨sz,g,hk⟩:=h _ q3;exact ⟨_,lK hk (au q2)⟩
  ·exact ih i hi hd
theorem XO (h1:env'.map (fun p=>look env p.1)=env'.map (fun p=>some p.2)) (h2:loc'.map (YG loc)=loc'.map (fun b=>some b.2)) (he:KH loc' out env') (hl:GL loc' out loc'):Trim env ⟨loc,out,chg⟩ env' ⟨loc',out,chg⟩ :=
 ⟨fun t v hv=>⟨v,wL h1 (yM hv), .refl _⟩,zQ (fun _ he=>wL h2 he),rfl,rfl, .inr fun i hi hd=>by
  rcases hi with hi | hi
  ·exact he.ok i hi hd
  ·exact hl.ok i hi hd⟩
theorem TB (h1:env'.map (fun p=>look env p.1)=env'.map (fun p=>some p.2)) (h2:loc'.map (YG loc)=loc'.map (fun b=>some b.2)) (he:KH loc' out env') (hl:GL loc' out loc'):Le P env ⟨loc,out,chg⟩ env' ⟨loc',out,chg⟩ :=
 (XO h1 h2 he hl).le
def swp (d tf j:Nat) (k:Id) (i:Id):Id:=if i=⟨d,tf,j⟩ then k else i
theorem Le.gap {t n:Nat} {fs:Loc} (hn:dG loc t n=none) (hf:(fs.all fun e=>match e.2 with | .fam []=>true | _=>false)=true):Le P env ⟨loc,out,chg⟩ env ⟨((t,n), .gap)::(fs++loc),out,chg⟩:=by
 refine ⟨fun O a w T=>?_⟩;obtain ⟨V,μ,I,R,E,hdep,hsz,hdf⟩:=T;have hfree:S.get ⟨loc,out,chg⟩ ⟨out.length,t,n⟩=none:=by rw [jF];exact hn
 have hget:S.get ⟨((t,n), .gap)::(fs++loc),out,chg⟩=upd (S.get ⟨loc,out,chg⟩) ⟨out.length,t,n⟩ .gap:=by
  funext j
  by_cases e:j.d=out.length
  ·rw [qj _ j e,kN rfl,Pz hf];unfold upd;rw [qj _ j e];by_cases e1:j=⟨out.length,t,n⟩
   ·subst e1;simp
   ·rw [if_neg e1];by_cases e2:j.t=t
    ·by_cases e3:j.n=n
     ·exfalso;apply e1;cases j;simp only at e e2 e3;subst e e2 e3;rfl
     ·rw [if_pos e2,if_neg e3]
    ·rw [if_neg e2]
  ·rw [yH _ loc j e,upd_ne _ _ (fun q=>e (by rw [q]))]
 obtain ⟨I',E'⟩:=I.lay (w':=w) hfree .gap ⟨0,0,true,0⟩ (fun _ _=>rfl) rfl rfl rfl (aZ _) (fun q=>by cases q) rfl;exact ⟨V,_,by rw [hget];exact I',by rw [hget];exact fun u y hy=>E'.Bh (R u y hy),by rw [hget];exact E.trans E',hdep,hsz,hdf⟩
end
end Go.Lx
namespace Go.Lx
section
variable {P:Program} {env env':Env} {loc loc':Loc} {out:Out} {chg:List (Option Loc)}
theorem abu {s:S} {ex:Bool} {i:Id} {n n':Nat} (h:Nat.blt i.d s.dep=true) (h1:n=n'):Gv s ex (.nref i n) (.nref i n') []:=⟨by
 have:i.d < s.dep:=gp h;subst h1;simp [S.result,this]⟩
theorem Qw {α:Type} {xs:List α} {n:Int} {a:α} (h:at_ xs n=some a) {m:Nat} (hm:m=xs.length):0≤n∧n < m:=by
 obtain ⟨_,h2,h3⟩:=pF h;subst hm;exact ⟨h2,h3⟩
theorem LZ {α:Type} {d:Nat} {sl:List (Slot α)} {xs:List α} {n:Int} {a:α} (h:at_ xs n=some a):(nM d sl xs)[n.toNat]?=some (xW d sl n.toNat a):=by
 rw [sF,(pF h).1];rfl
theorem soE {t n:Nat} {b:Blk} {loc1:Loc} (h:CO loc t n b loc1) (e:loc1=loc'):JR ⟨loc,out,chg⟩ ⟨out.length,t,n⟩ b ⟨loc',out,chg⟩:=by subst e;exact so h
theorem suE {c0 cl cl1 cl':Loc} {t n:Nat} {b:Blk} (h:CO cl t n b cl1) (e:cl1=cl'):JR ⟨loc,[c0],[some cl]⟩ ⟨0,t,n⟩ b ⟨loc,[c0],[some cl']⟩:=by subst e;exact suR h
theorem XM {d tf j:Nat} {k:Id} (i:Id) (h:i.t≠tf):swp d tf j k i=i:=by
 unfold swp;rw [if_neg]
 rintro rfl
 exact h rfl
def aa9 (tf:Nat) (is:List Id):Bool:=is.all fun i=>!Nat.beq i.t tf
theorem YO {tf:Nat} {is:List Id} (h:aa9 tf is=true) {d j:Nat} {k:Id}:∀ i∈is,swp d tf j k i=i:=fun i hi=>XM i (fun e=>by
 have:=aY.1 h i hi;rw [e] at this;simp at this)
inductive GM (loc:Loc) (d tf j:Nat) (k:Id):Loc→Prop where
 | n:GM loc d tf j k []
 | c {a m:Nat} {b:Blk} {r:Loc} (h:dG loc a m=some b) (ho:b.one=true) (hf:aa9 tf b.ids=true) (ha:Nat.beq a tf=false) (q:GM loc d tf j k r):GM loc d tf j k (((a,m),b)::r)
 | g {α:Type} {a sz:Nat} {g:α→List D} {xs ys:List α} {r:Loc} (h:rV loc a=some (qo sz g ys)) (he:qo sz g xs=qo sz g ys) (ha:Nat.beq a tf=false) (q:GM loc d tf j k r):GM loc d tf j k (((a,0),qo sz g xs)::r)
 | e {a m sz:Nat} {xs ys:List (List A)} {r:Loc} (h:dG loc a m=some (.nest sz ys)) (he:xs.map (A.xO (swp d tf j k))=ys) (ha:Nat.beq a tf=false) (q:GM loc d tf j k r):GM loc d tf j k (((a,m), .nest sz xs)::r)
 | f {α:Type} {sz:Nat} {g:α→List D} {xs:List α} {r:Loc} (h:∀ (i:Nat) x,xs[i]?=some x→dG loc (swp d tf j k ⟨d,tf,i⟩).t (swp d tf j k ⟨d,tf,i⟩).n=some (.arr sz false (g x))) (q:GM loc d tf j k r):GM loc d tf j k (((tf,0),qo sz g xs)::r)
theorem GM.ok {d tf j:Nat} {k:Id} {l:Loc} (H:GM loc d tf j k l):∀ (i:Id) b,i.d=d→dG l i.t i.n=some b→dG loc (swp d tf j k i).t (swp d tf j k i).n=some (b.ren (swp d tf j k)):=by
 have ne:∀ {a:Nat},Nat.beq a tf=false→a≠tf:=fun h e=>by rw [e] at h;simp at h
 induction H with
 | n=>intro i b _ h;cases h
 | @c a m b0 r h ho hf ha q ih =>
  intro i b hd hb;rw [kN ho] at hb;split at hb
  ·rename_i e1
   split at hb
   ·rename_i e2
    cases hb;rw [XM i (by rw [e1];exact ne ha),e1,e2,h,Blk.Ce b0 (YO hf)]
   ·exact ih i b hd hb
  ·exact ih i b hd hb
 | @g α a sz g xs ys r h he ha q ih =>
  intro i b hd hb;by_cases e1:i.t=a
  ·rw [e1] at hb;rw [he] at hb;cases hv:(qo sz g ys).view 0 i.n with
   | some y =>
    rw [jf hv] at hb;cases hb;rw [XM i (by rw [e1];exact ne ha),e1];rw [rU] at hv;obtain ⟨x,hx,rfl⟩:=aJ.1 hv;exact lK h hx
   | none=>rw [iD hv] at hb;exact ih i b hd (by rw [e1];exact hb)
  ·rw [iY e1] at hb;exact ih i b hd hb
 | @e a m sz xs ys r h he ha q ih =>
  intro i b hd hb;rw [kN rfl] at hb;split at hb
  ·rename_i e1
   split at hb
   ·rename_i e2
    cases hb;rw [XM i (by rw [e1];exact ne ha),e1,e2,h];simp only [Blk.ren,he]
   ·exact ih i b hd hb
  ·exact ih i b hd hb
 | @f α sz g xs r h q ih =>
  intro i b hd hb;by_cases e1:i.t=tf
  ·cases hv:(qo sz g xs).view 0 i.n with
   | some y =>
    rw [e1,jf hv] at hb;cases hb;rw [rU] at hv;obtain ⟨x,hx,rfl⟩:=aJ.1 hv;have:=h i.n x hx;have ei:i=⟨d,tf,i.n⟩:=by cases i;simp only at hd e1 ⊢;subst hd e1;rfl
    rw [← ei] at this;exact this
   | none=>rw [e1,iD hv] at hb;exact ih i b hd (by rw [e1];exact hb)
  ·rw [iY e1] at hb;exact ih i b hd hb
theorem TM {α:Type} {xs ys v:List α} (h:app xs ys=some v):v=xs++ys:=by
 unfold app at h;split at h
 ·cases h;rfl
 ·cases h
theorem Qv {α:Type} {xs ys v:List α} (h:app xs ys=some v):xs.length+ys.length≤16777216:=by
 unfold app at h;split at h
 ·assumption
 ·cases h
theorem Wn {α:Type} {xs v:List α} {x:α} {m:Nat} (h:app xs [x]=some v) (hm:m=xs.length):m+1=v.length:=by
 rw [TM h,hm];simp
theorem kyN {α:Type} {Q:Nat→Prop}:∀ t∈Slot.keys ([]:List (Slot α)),Q t:=fun t h=>by cases h
theorem kyC {α:Type} {Q:Nat→Prop} {f:α→D} {r:List (Slot α)} (k:∀ t∈Slot.keys r,Q t):∀ t∈Slot.keys (.c f::r),Q t:=k
theorem kyH {α:Type} {Q:Nat→Prop} {t0 z:Nat} {len:α→Nat} {g:α→List D} {r:List (Slot α)} (q:Q t0) (k:∀ t∈Slot.keys r,Q t):∀ t∈Slot.keys (.h t0 z len g::r),Q t:=fun t h=>by
 rcases fJ.1 h with rfl | h
 ·exact q
 ·exact k t h
theorem Yi {α:Type} {s:S} {K:Id→Prop} {id:Id} {m sz d:Nat} {sl:List (Slot α)} {xs:List α} {enc:α→D} (hb:s.get id=some (.nest sz (nM d sl xs))) (hk:K id) (hm:m=xs.length)
  (henc:∀ x,(enc x).cells=sl.map (Slot.datum x))
  (hf:∀ (q:Nat) t z len g,sl[q]?=some (.h t z len g)→∀ (j:Nat) x,xs[j]?=some x→s.get ⟨d,t,j⟩=some (.arr z false (g x))∧K ⟨d,t,j⟩∧len x=(g x).length):RdA s K (.nref id m) (.sl (xs.map enc)):=by
 refine .nest hb hk (by rw [kY];exact hm) (by rw [kY];simp) (fun j e y he hy=>?_) (fun j e y k a dd he hy ha hd=>?_)
 ·rw [sF] at he;obtain ⟨x,hx,rfl⟩:=aJ.1 he;rw [bn,hx] at hy;cases hy;rw [henc,Uu,iq]
 ·rw [sF] at he;obtain ⟨x,hx,rfl⟩:=aJ.1 he;rw [bn,hx] at hy;cases hy;rw [henc,bn] at hd;unfold xW at ha;rw [bn] at ha;cases hs:sl[k]? with
  | none=>rw [hs] at ha;cases ha
  | some sl0 =>
   rw [hs] at ha hd;simp only [jA,Option.some.injEq] at ha hd;subst ha hd;cases sl0 with
   | c f=>exact .d _
   | h t z len g =>
    obtain ⟨h1,h2,h3⟩:=hf k t z len g hs j x hx;simp only [Slot.cell,Slot.datum];have:=RdA.ref (s:=s) (K:=K) (i:=⟨d,t,j⟩) (off:=0) (len:=len x) (full:=len x) h1 h2 h3 (by omega);rw [h3] at this ⊢;simpa using this
inductive KL {α:Type} (Q:Nat→Nat→(α→Nat)→(α→List D)→Prop):List (Slot α)→Prop where
 | n:KL Q []
 | c {f:α→D} {r:List (Slot α)} (k:KL Q r):KL Q (.c f::r)
 | h {t z:Nat} {len:α→Nat} {g:α→List D} {r:List (Slot α)} (q:Q t z len g) (k:KL Q r):KL Q (.h t z len g::r)
theorem KL.ok {α:Type} {Q:Nat→Nat→(α→Nat)→(α→List D)→Prop} {sl:List (Slot α)} (H:KL Q sl):∀ (k:Nat) t z len g,sl[k]?=some (.h t z len g)→Q t z len g:=by
 induction H with
 | n=>intro k t z len g h;simp at h
 | c k ih =>
  intro n t z len g h;cases n with
  | zero=>simp at h
  | succ n=>exact ih n t z len g (by simpa using h)
 | h q k ih =>
  intro n t z len g h;cases n with
  | zero=>simp at h;obtain ⟨rfl,rfl,rfl,rfl⟩:=h;exact q
  | succ n=>exact ih n t z len g (by simpa using h)
theorem rdN {α:Type} {loc1:Loc} {tn n m sz:Nat} {sl:List (Slot α)} {xs:List α} {enc:α→D} (hb:dG loc tn n=some (.nest sz (nM out.length sl xs))) (hm:m=xs.length) (henc:∀ x,(enc x).cells=sl.map (Slot.datum x))
  (h1:dG loc1 tn n=none) (hf:KL (fun t z len g=>rV loc t=some (qo z g xs)∧Vb loc1 t=true∧∀ x,len x=(g x).length) sl) :
  RdA ⟨loc,out,chg⟩ (fun i=>i.d=out.length∧dG loc1 i.t i.n=none) (.nref ⟨out.length,tn,n⟩ m) (.sl (xs.map enc)) :=
 Yi (by rw [jF];exact hb) ⟨rfl,h1⟩ hm henc (fun q t z len g hq j x hx=>by
  obtain ⟨k1,k2,k3⟩:=hf.ok q t z len g hq;exact ⟨by rw [jF];exact lK k1 hx,⟨rfl,EL k2 _⟩,k3 x⟩)
theorem abA {α:Type} {s:S} {id:Id} {m sz d:Nat} {sl:List (Slot α)} {xs:List α} {enc:α→D} (hb:zk s id (.nest sz (nM d sl xs))) (hm:m=xs.length) (henc:∀ x,(enc x).cells=sl.map (Slot.datum x))
  (hf:KL (fun t z len g=>(∀ (j:Nat) x,xs[j]?=some x→s.get ⟨d,t,j⟩=some (.arr z false (g x)))∧∀ x,len x=(g x).length) sl):RdA s (fun _=>True) (.nref id m) (.sl (xs.map enc)) :=
 Yi hb.h trivial hm henc (fun q t z len g hq j x hx=>by
  obtain ⟨k1,k3⟩:=hf.ok q t z len g hq;exact ⟨k1 j x hx,trivial,k3 x⟩)
theorem rfO {α:Type} {t z:Nat} {g:α→List D} {xs:List α} (h:rV loc t=some (qo z g xs)):∀ (j:Nat) x,xs[j]?=some x→S.get ⟨loc,out,chg⟩ ⟨out.length,t,j⟩=some (.arr z false (g x)):=fun j x hx=>by rw [jF];exact lK h hx
theorem rdR {α:Type} {s:S} {id:Id} {sz m:Nat} {l:Bool} {f:α→D} {xs:List α} (hm:m=xs.length) (hb:zk s id (.arr sz l (xs.map f))):RdA s (fun _=>True) (.ref id 0 m m) (.sl (xs.map f)):=by
 have:=RdA.ref (s:=s) (K:=fun _=>True) (off:=0) (len:=m) (full:=m) hb.h trivial (by simpa using hm) (by simp;omega);subst hm;simpa [gK] using this
inductive RdC (s:S):List A→List D→Prop where
 | n:RdC s [] []
 | c {a:A} {x:D} {r:List A} {q:List D} (h:RdA s (fun _=>True) a x) (k:RdC s r q):RdC s (a::r) (x::q)
theorem RdC.ok {s:S} {cs:List A} {ds:List D} (H:RdC s cs ds):ds.length=cs.length∧∀ (k:Nat) a d,cs[k]?=some a→ds[k]?=some d→RdA s (fun _=>True) a d:=by
 induction H with
 | n=>exact ⟨rfl,fun k a d h=>by simp at h⟩
 | c h k ih =>
  refine ⟨by simp [ih.1],fun n a d h1 h2=>?_⟩;cases n with
  | zero=>simp at h1 h2;subst h1 h2;exact h
  | succ n=>exact ih.2 n a d (by simpa using h1) (by simpa using h2)
inductive ZA (s:S) (K:Id→Prop):List A→List D→Prop where
 | n:ZA s K [] []
 | c {a:A} {x:D} {r:List A} {q:List D} (h:RdA s K a x) (k:ZA s K r q):ZA s K (a::r) (x::q)
theorem ZA.ok {s:S} {K:Id→Prop} {cs:List A} {ds:List D} (H:ZA s K cs ds):ds.length=cs.length∧∀ (k:Nat) a d,cs[k]?=some a→ds[k]?=some d→RdA s K a d:=by
 induction H with
 | n=>exact ⟨rfl,fun k a d h=>by simp at h⟩
 | c h k ih =>
  refine ⟨by simp [ih.1],fun n a d h1 h2=>?_⟩;cases n with
  | zero=>simp at h1 h2;subst h1 h2;exact h
  | succ n=>exact ih.2 n a d (by simpa using h1) (by simpa using h2)
theorem faN {s:S} {dst:Option Nat} {ty:TypeId} {pos:String} {af:Array Edge} {gd:Option (Nat×Bool)} {x:Operand} {t i ft off sz ix o n:Nat} {id:Id} (hf:Fld P t i ft off sz) (hx:aB (look env) x=some (.nptr id ix o n)) (hz:Nat.beq sz 0=false) :
  iL P env s ⟨dst, .fieldAddr t x i,ty,pos,af,gd⟩ (.nptr id ix (o+off) n) .same := .of (bc P) rfl fun _ _=>by
 have:¬ sz=0:=by rintro rfl;simp at hz
 simp [qm,hx,qi,bc,hf.h,this]
end
end Go.Lx
