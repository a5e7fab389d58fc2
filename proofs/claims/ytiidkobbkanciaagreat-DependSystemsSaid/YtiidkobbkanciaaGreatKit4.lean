/- Values of the language, told by plain data; contracts of functions and operations, and how they are shown: part 4. -/
import Derived.Test.YtiidkobbkanciaaGreatKit3
import Derived.Lib.Overlaps
import Derived.Shelf.SlIterI.Sorted
import Derived.Shelf.SortM.Plain
import Derived.Shelf.SortM.SortNone
import Derived.Laws.IdiomRangeMap
set_option linter.all false
namespace Go.Lx
section
variable {P:Program} {env:Env} {s s':S} {loc loc':Loc} {out:Out} {chg:List (Option Loc)} {dst:Option Nat} {d:Nat} {ty:TypeId} {pos:String} {af:Array Edge} {gd:Option (Nat×Bool)}
theorem iJ.sem {o:Oper} {v:A} {dl:Delta} (hr:eG env o.op=true)
  (h:∀ (V:View) (μ:Id→Pl) (w:World),Inv P V s.get μ w→∀ (a:Act),(∀ x,x∈o.op.operands→∀ u,ay (look env) x=some u→iI P V s.get μ u (a.eval x)) →
   ∃ m:Sem Value,execOp a.eval o=(do pure (.value (← m)))∧Done P V s μ w (dl.apply s) v (m.run P w)):iJ P env s o v dl:=by
 refine ⟨.inr ⟨hr,fun V μ w I a R K Q hK=>?_⟩⟩;obtain ⟨m,h1,h2⟩:=h V μ w I a R;exact zk (c:=bc P) h1 h2 (fun cv w' hl=>hK cv w' hl)
theorem pM.cons {V:View} {h:Id→Option Blk} {μ:Id→Pl} {tmps:Array Value} (R:pM P V h μ env tmps) {t0:Nat} {v:A} (H:iI P V h μ v (tmps.getD t0 undef)):pM P V h μ ((t0,v)::env) tmps:=by
 intro t u hu;simp only [look] at hu;split at hu
 ·rename_i e;subst e;cases hu;exact H
 ·exact R t u hu
theorem CWp.cap {code:Code} {Q:Ex→Env→S→Prop} {t0 n sz:Nat} {id:Id} {l:Bool} {xs:List D} (hv:look env t0=some (.ref id 0 n n)) (hn:n=xs.length) (hb:zH s id (.arr sz l xs))
  (h:∀ c:Nat,n≤c→CWp P code ((t0, .rcap id 0 n n c)::env) s Q):CWp P code env s Q:=by
 refine ⟨fun O a w hc T=>?_⟩;obtain ⟨V,μ,I,R,E,hdep,hn',hdf⟩:=T;have h2:=R t0 _ hv;generalize hq:a.tmps.getD t0 undef=cv at h2;cases h2 with
 | ref _ _ _ _ sz' l' xs' ad c hi hf hs =>
  have hb':=hb.h;rw [hi] at hb';cases hb';have hle:n≤c:=by
   obtain ⟨a',c',e1,hsv⟩:=hs hn;cases e1;rcases I.blk id _ hi with ⟨q1,q2,q3⟩ | ⟨q1,q2,_⟩
   ·subst q2;simp at hn;omega
   ·rcases hsv with ⟨z1,_⟩ | ⟨_,z2,z3,_⟩
    ·rw [q1] at z1;cases z1
    ·omega
  refine (h c hle).ok O a w hc ⟨V,μ,I,?_,E,hdep,hn',hdf⟩;refine R.cons ?_;rw [hq];exact .rcap _ _ _ _ _ sz l xs ad hi hf hs
theorem cap_ {x:Operand} {id:Id} {o n m c t e sz by_:Nat} {z:D} {ts:Array TypeId} (ht:Sli P t e sz by_ z) (hx:dR (look env) #[x].toList=some [.rcap id o n m c]) (hts:ts.toList=[t]) :
  iJ P env s ⟨some d, .call ⟨.builtin .cap,#[x],ts⟩,ty,pos,af,gd⟩ (.d (.int .i64 c)) .same:=by
 refine bi hx hts ?_;simp [jH,um,bc,ht.u]
def IC (sz:Nat):D := .agg (List.replicate sz .junk)
theorem O8 (sz:Nat):(IC sz).size=sz:=by simp [IC,D.size,D.cells]
theorem open_row {V:View} {sz n m cap:Nat} {xs:List D} {cells:Array Value} (h:CU P V sz xs cells) (hn:n=xs.length) (hc:n+m≤cap) (hs:cells.size=cap * sz):CU P V sz (xs++List.replicate m (IC sz)) cells:=by
 obtain ⟨hp,ev,h⟩:=h;refine ⟨hp,fun i=>if i < n then ev i else .agg (cells.extract (i * sz) (i * sz+sz)),fun i d hd=>?_⟩;by_cases e:i < n
 ·rw [cZ (by omega)] at hd;simp only [if_pos e];exact h i d hd
 ·rw [dY (by omega),List.getElem?_replicate] at hd;split at hd
  ·rename_i hlt
   cases hd;simp only [if_neg e];have h1:i * sz+sz≤cells.size:=by
    rw [hs]
    calc i * sz+sz=(i+1) * sz:=by rw [fD,kD]
     _≤cap * sz:=aX _ (by omega)
   have hsz:(cells.extract (i * sz) (i * sz+sz)).size=sz:=by simp;omega
   have hget:∀ (j:Nat) v,(cells.extract (i * sz) (i * sz+sz))[j]?=some v→cells[i * sz+j]?=some v:=by
    intro j v hv;have hj:=(aO.1 hv).1;rw [hsz] at hj;rw [Array.getElem?_extract] at hv;split at hv
    ·exact hv
    ·cases hv
   refine ⟨.agg _ _ (by simp [hsz]) (fun j d v hd hv=>?_) (fun j v hv=>hp _ _ (hget j v hv)),hsz,hget⟩;rw [List.getElem?_replicate] at hd;split at hd
   ·cases hd;exact .junk v (hp _ _ (hget j v hv))
   ·cases hd
  ·cases hd
theorem Le.open {t0 n m c sz:Nat} {id:Id} {xs:List D} (hv:look env t0=some (.rcap id 0 n n c)) (hn:n=xs.length) (hb:zH s id (.arr sz false xs)) (hm:0 < m) (hc:n+m≤c)
  (hl:KH s id (.arr sz false (xs++List.replicate m (IC sz))) s'):Le P env s ((t0, .ref id 0 n (n+m))::env) s':=by
 refine ⟨fun O a w T=>?_⟩;obtain ⟨V,μ,I,R,E,hdep,hn',hdf⟩:=T;obtain ⟨hget,hout⟩:=S.nH hb.h (.arr sz false (xs++List.replicate m (IC sz)));rw [hl.h] at hget hout;have h2:=R t0 _ hv;generalize hq:a.tmps.getD t0 undef=cv at h2;cases h2 with
 | rcap _ _ _ _ _ sz' l' xs' ad hi hf hs =>
  have hb':=hb.h;rw [hi] at hb';cases hb';obtain ⟨a',c',e1,hsv⟩:=hs hn;cases e1;have hμ:yG μ id (μ id)=μ:=by funext j;unfold yG;split<;>simp_all
  rcases hsv with ⟨z1,z2,z3,z4⟩ | ⟨z1,z2,z3,z4,z5⟩
  ·omega
  ·rcases I.blk id _ hi with ⟨q1,_⟩ | ⟨q1,q2,q3,q4,cells,elem,q5,q6,q7⟩
   ·rw [q1] at z1;cases z1
   ·obtain ⟨I2,E2⟩:=I.Rf (w':=w) hi (.arr sz false (xs++List.replicate m (IC sz))) (μ id) (fun h => .inl ⟨rfl,h⟩) (fun _ _ _=>rfl) (fun c v _ h=>I.cell _ _ _ h) (fun e c _ h=>I.map _ _ _ h) rfl rfl rfl (bu _)
     (.inr ⟨q1,by simp;omega,q3,fun cc v h=>absurd h (q3 rfl cc v),cells,elem,q5,q6,open_row q7 hn (cap:=(μ id).cap) (by omega) q6⟩) (by simp [qo]) (fun cs' q=>by cases q)
    rw [hμ] at I2 E2;refine ⟨V,μ,by rw [hget];exact I2,?_,by rw [hget];exact E.trans E2,hout.trans hdep,hn',hdf⟩;rw [hget];refine pM.cons (fun u y hy=>E2.zI (R u y hy)) ?_;rw [hq];refine .ref id 0 n (n+m) sz false _ ad c (upd_same _ _ _) (by simp;omega) (fun _=>⟨_,_,rfl, .inr ⟨z1,z2,z3,z4,z5⟩⟩)
section
variable {x:Operand} {t e sz by_ off len full:Nat} {z:D} {xs ys:List D} {o1:Operand} {lo hi:Int} {k1:IntKind} {id:Id} {l:Bool}
theorem KC (ht:Sli P t e sz by_ z) (hx:ay (look env) x=some (.ref id off len full)) (hf:full=xs.length) (hb:zH s id (.arr sz l xs)) (h1:ay (look env) o1=some (.d (.int k1 lo))) (hc:0≤lo∧lo≤len∧off+len≤full) :
  iJ P env s ⟨dst, .slice t x (some o1) none none,ty,pos,af,gd⟩ (.ref id (off+lo.toNat) (len - lo.toNat) full) .same := .of (bc P) rfl fun _ _=>by
 subst hf;obtain ⟨c1,c2,c3⟩:=hc;have hbd:kw len (some (.d (.int k1 lo))) none=some (lo.toNat,len):=by
  have:=yY (.is h1) (.no:Bd env (len:Int) none len none) c1 c2 (Int.le_refl _);simpa using this
 rw [Bd.run hx (.is h1:Bd env 0 (some o1) lo _) (.no:Bd env (len:Int) none len none)];simp [pq,bc,ht.u,ht.s,hb.h,NK,hbd,c3]
theorem Vd (ht:Sli P t e sz by_ z) (hx:ay (look env) x=some (.ref id off len full)) (hf:full=xs.length) (hb:zH s id (.arr sz l xs)) (h1:ay (look env) o1=some (.d (.int k1 hi))) (hc:0≤hi∧hi≤(full - off:Nat)∧off+len≤full) :
  iJ P env s ⟨dst, .slice t x none (some o1) none,ty,pos,af,gd⟩ (.ref id off hi.toNat full) .same := .of (bc P) rfl fun _ _=>by
 subst hf;obtain ⟨c1,c2,c3⟩:=hc;have hbd:kw (xs.length - off) none (some (.d (.int k1 hi)))=some ((0:Int).toNat,hi.toNat):=yY (.no:Bd env 0 none 0 none) (.is h1:Bd env ((xs.length - off:Nat):Int) (some o1) hi _) (Int.le_refl _) c1 c2;rw [Bd.run hx (.no:Bd env 0 none 0 none) (.is h1:Bd env ((xs.length - off:Nat):Int) (some o1) hi _)];simp [pq,bc,ht.u,ht.s,hb.h,NK,hbd,c3]
theorem VH {n c:Nat} (ht:Sli P t e sz by_ z) (hx:ay (look env) x=some (.rcap id 0 n n c)) (hm:wP env x=false) (h1:ay (look env) o1=some (.d (.int k1 hi))) (hc:0≤hi∧hi≤n∧n≤c) :
  iJ P env s ⟨dst, .slice t x none (some o1) none,ty,pos,af,gd⟩ (.rcap id 0 hi.toNat n c) .same:=by
 obtain ⟨c1,c2,c3⟩:=hc;refine iJ.sem (by simp [eG,hm]) fun V μ w I a R=>?_
 have Rx:=R x (by simp [Op.operands]) _ hx;have Ro:=R o1 (by simp [Op.operands]) _ h1;refine ⟨Instr.sliceAt t (a.eval x) none (some (a.eval o1)) none,by simp [execOp],?_⟩;generalize a.eval x=vx at Rx;generalize a.eval o1=vo at Ro;have hvo:=KY Ro;subst hvo;cases Rx with
 | rcap _ _ _ _ _ sz' l' xs' ad hi' hf hs =>
  have hbd:kw n none (some (.d (.int k1 hi)))=some ((0:Int).toNat,hi.toNat):=yY (.no:Bd env 0 none 0 none) (.is h1:Bd env ((n:Nat):Int) (some o1) hi _) (Int.le_refl _) c1 c2;obtain ⟨g1,g2,g3⟩:=vg (w:=w) (h:=s.get) (μ:=μ) (V:=V) (P:=P) (len:=n) (cap:=c) (lo':=none) (hi':=some (.int k1 hi)) hbd trivial Ro (fun q=>by cases q) c3;refine .pure I (rD ht.u ht.s g3) ?_;have e1:(if c=(0:Int).toNat then ad else ad.map (·.add ((0:Int).toNat * sz)))=ad:=by
   split
   ·rfl
   ·cases ad with
    | none=>rfl
    | some q=>simp [Addr.add]
  rw [e1];simp only [Int.toNat_zero,Nat.sub_zero];refine .rcap id 0 hi.toNat n c sz' l' xs' ad hi' hf (fun q=>?_);obtain ⟨a',c',e2,hsv⟩:=hs q;cases e2;refine ⟨_,_,rfl,?_⟩;rcases hsv with ⟨z1,z2,z3,z4⟩ | hsv
  ·exact .inl ⟨z1,z2,z3,z4⟩
  ·exact .inr hsv
theorem cpR {y:A} {args:Array Operand} {ts:Array TypeId} {ts':List TypeId} {t2:TypeId} (ht:Sli P t e sz by_ z) (ha:dR (look env) args.toList=some [.ref id off len full,y]) (hf:full=xs.length) (hts:ts.toList=t::t2::ts') (hy:Els s y ys) (hs:(ys.all fun y=>decide (y.size=sz))=true)
  (hb:zH s id (.arr sz false xs)) (hc:off+len≤full) (hl:KH s id (.arr sz false (splice xs off (ys.take len))) s') :
  iJ P env s ⟨dst, .call ⟨.builtin .copy,args,ts⟩,ty,pos,af,gd⟩ (.d (.int .i64 (min ys.length len:Nat))) (.set s'):=by
 subst hf;refine bi ha hts ?_;have h:=hl.h;simp only [jH,Jq,um,bc,ht.u,hy.h,ht.s,hb.h,hs,and_self,true_and,hc,aS,h]
theorem elG (hb:zH s id (.arr sz l xs)) (hf:full=xs.length) (hc:off+len≤full):Els s (.ref id off len full) ((xs.drop off).take len):=⟨by
 subst hf;simp [S.elems,hb.h,hc]⟩
end
theorem Ci {V:View} {w:World} {t t2 el:TypeId} {i:TypeInfo} {z:Value} {a:Option Addr} {k1:IntKind} {len cap n sz:Nat} {xs:List Value} (ty:TypeId)
  (hu:P.underlying t=some (.slice el)) (hu2:P.underlying t2=some (.int k1)) (hi:P.info? el=some i) (hz:i.zero=some z) (hsz:lQ P el=some sz) (hzs:z.cells.size=sz)
  (hr:room (len+n) i.bytes=true) (hb:0 < i.bytes) (hcap:cap < len+n)
  (hx:(Builtin.firstCells sz len (.slice a len cap)).run P w.drew = .ok xs.toArray w.drew) :
  ∃ k,(Builtin.append_ #[t,t2] ty #[.slice a len cap, .int .i64 n]).run P w =
   .ok (.slice (some ⟨w.heap.size,0,none⟩) (len+n) (len+n+k)) (nO w (.cells ((xs++(Builtin.zeroCells z.cells n).toList).toArray++Builtin.zeroCells z.cells k) el)):=by
 obtain ⟨h1,h2⟩:=room_le hr;have hnc:=Hg (len+n) cap hcap;have hbig:¬ (Builtin.nextslicecap (len+n) cap * i.bytes > 2 ^ 48):=by
  have:Builtin.nextslicecap (len+n) cap * i.bytes≤(2 * 16777216+768) * 1048576:=Nat.mul_le_mul (by omega) h2;omega
 refine ⟨w.tape w.drawn (.appendCap (len+n) cap el) % (2 ^ 63 - (len+n)),?_⟩;have hneed:¬ (len+n≤cap):=by omega
 have hz0:¬ (i.bytes=0):=by omega
 have hw:IntKind.i64.wrap (n:Int)=n:=wrap_small (by omega) (by omega);have hneg:¬ ((n:Int) < 0):=by omega
 have hbig3:¬ (281474976710656 < (n:Int) * (i.bytes:Int)):=by
  have:(n:Int) * (i.bytes:Int)≤16777216 * 1048576:=Int.mul_le_mul (by omega) (by omega) (by omega) (by omega);omega
 have hbig5:¬ (9223372036854775807 < ((len:Int)+(n:Int))):=by omega
 by_cases hz2:n * sz=0
 ·have hzero:Builtin.zeroCells z.cells n=#[]:=fQ (by rw [kN,hzs];exact hz2);simp [Builtin.append_,cO hu,cO hu2,iP hsz,hneed,hz0,hbig,hbig3,hbig5,hneg,hz2,hw,asInt,asIntOf,Question.forced,Question.cut,hx,zeroValue,hz,newRow,nO,typeInfo,hi,hzero]
 ·simp [Builtin.append_,cO hu,cO hu2,iP hsz,hneed,hz0,hbig,hbig3,hbig5,hneg,hz2,hw,asInt,asIntOf,Question.forced,Question.cut,hx,zeroValue,hz,newRow,nO,typeInfo,hi];refine congrArg _ (congrArg (fun c=>Obj.cells c el) ?_);rw [← Array.append_assoc]
  congr 1
  simp
theorem Vq {x:Operand} {y:Operand} {ts:Array TypeId} {t t2 e sz by_ n c i nn:Nat} {z:D} {k:Int} {k1:IntKind} {id:Id} {l:Bool} {xs:List D} (ht:Sli P t e sz by_ z) (ht2:P.underlying t2=some (.int k1)) (hts:ts.toList=[t,t2])
  (hx:ay (look env) x=some (.rcap id 0 i n c)) (hy:ay (look env) y=some (.d (.int .i64 k))) (hn:n=xs.length) (hb:zH ⟨loc,out,chg⟩ id (.arr sz l xs)) (hi:i≤n) (hk:0≤k∧(c:Int) < i+k∧i+k≤16777216) (hf:nU loc d=nn) :
  iJ P env ⟨loc,out,chg⟩ ⟨some d, .call ⟨.builtin .append,#[x,y],ts⟩,ty,pos,af,gd⟩ (.ref ⟨out.length,d,nn⟩ 0 (i+k.toNat) (i+k.toNat)) (.add [((d,nn), .arr sz false (xs.take i++List.replicate k.toNat z))]):=by
 obtain ⟨k0,k2,k3⟩:=hk;refine iJ.sem rfl fun V μ w I a R=>?_
 have Rx:=R x (by simp [Op.operands,Call.operands]) _ hx;have Ry:=R y (by simp [Op.operands,Call.operands]) _ hy;refine ⟨Builtin.append_ #[t,t2] ty #[a.eval x,a.eval y],by
  have:ts=#[t,t2]:=by rw [← hts]
  simp [execOp,resolve,invoke,builtin,this],?_⟩
 generalize a.eval x=vx at Rx;generalize a.eval y=vy at Ry;have hvy:=KY Ry;subst hvy;obtain ⟨m,rfl⟩:=Int.eq_ofNat_of_zero_le k0;obtain ⟨inf,hinf,hby⟩:=zS ht.b;obtain ⟨zv,hz,hzs,hzr⟩:=zV ht.z0 hinf;have hzc:zv.cells.size=sz:=by rw [hzs,ht.zs]
 cases Rx with
 | rcap _ _ _ _ _ sz' l' xs' ad hi' hf' hs =>
  have hb':=hb.h;rw [hi'] at hb';cases hb';obtain ⟨a',c',e2,hsv⟩:=hs hn;cases e2;have hxall:∃ xc:List Value,iw P V sz (xs.take i) xc∧(Builtin.firstCells sz i (.slice ad i c)).run P w.drew = .ok xc.toArray w.drew:=by
   rcases hsv with ⟨q1,q2,q3,_⟩ | ⟨q1,q2,q3,q4,q5⟩
   ·rcases I.blk id _ hi' with ⟨_,q,_⟩ | ⟨q,_⟩
    ·subst q q2;exact ⟨[],by simpa using iw.nil sz,by simp [Builtin.firstCells]⟩
    ·rw [q1] at q;cases q
   ·have ha:=q5 (.inr rfl);rw [Nat.zero_mul] at ha;subst ha;rcases I.blk id _ hi' with ⟨q,_⟩ | ⟨_,b2,b3,b4,cells,elem,b5,b6,b7⟩
    ·rw [q1] at q;cases q
    ·have hX:=(xC b7 (by rw [b6];exact aX _ b2)).take i;refine ⟨_,hX,?_⟩;simp only [Builtin.firstCells];have key:=run_loadCells_list (P:=P) (w:=w.drew) ⟨(μ id).blk,0,none⟩ ((cells.toList.take (xs.length * sz)).take (i * sz)) (fun j v hv=>by
      rw [mg,cell_of_row w.drew _ _ cells elem (0,0) b5];rw [dh] at hv;split at hv
      ·rw [dh] at hv;split at hv
       ·simpa using hv
       ·cases hv
      ·cases hv)
     rw [hX.1,jK,Nat.min_eq_left (by omega)] at key;exact key
  obtain ⟨xc,hxC,hxr⟩:=hxall;have hroom:room (i+m) inf.bytes=true:=by simp [room];have:=ht.r;omega
  obtain ⟨kk,hrun⟩:=Ci (V:=V) (w:=w) (n:=m) ty ht.u ht2 hinf hz ht.s hzc hroom (by have:=ht.p;omega) (by omega) hxr;have hC:=hxC.append (vT (hzr V) hzc m);obtain ⟨μ',I',E',R'⟩:=Dt I d (sz:=sz) (n:=i+m) (k:=kk) (rest:=Builtin.zeroCells zv.cells kk) (el:=e) hC (by simp;omega) (by rw [kN,hzc]) (xI hzr kk) (.inl rfl);subst hf;exact ⟨_,_,V,μ',hrun,R',I',E',rfl⟩
theorem Le.swap {t6 tt k N sz:Nat} {id:Id} {own:Loc} {l:Bool} {xs ys:List D} (hv:look env t6=some (.ref ⟨out.length,tt,k⟩ 0 N N)) (hN:N=ys.length) (ho:bV own tt k=some (.arr sz false ys)) (hd:Nat.blt id.d out.length=true)
  (hb:zH ⟨own,out,chg⟩ id (.arr sz l xs)) (hlt:xs.length < ys.length) (hl:KH ⟨[],out,chg⟩ id (.arr sz false ys) s'):Le P env ⟨own,out,chg⟩ [(t6, .ref id 0 N N)] s':=by
 refine ⟨fun O a w T=>?_⟩;obtain ⟨V,μ,I,R,E,hdep,hn',hdf⟩:=T;have hd':id.d < out.length:=dQ hd;generalize hs0:(⟨own,out,chg⟩:S)=s0 at *
 have hdp:s0.dep=out.length:=by subst hs0;rfl
 have hbase:Bo s0=⟨[],out,chg⟩:=by subst hs0;rfl
 have hso:s0.out=out:=by subst hs0;rfl
 have hown:s0.get ⟨out.length,tt,k⟩=some (.arr sz false ys):=by
  subst hs0;rw [dP];exact ho
 have hbid:(Bo s0).get id=some (.arr sz l xs):=by rw [qp,hdp,if_neg (by omega)];exact hb.h
 obtain ⟨hget,hout⟩:=S.nH hbid (.arr sz false ys);rw [hbase,hl.h,← hbase] at hget hout;have gne:∀ j,j≠id→s'.get j=if j.d=out.length then none else s0.get j:=by
  intro j hj;rw [hget,upd_ne _ _ hj,qp,hdp]
 have gid:s'.get id=some (.arr sz false ys):=by rw [hget,upd_same]
 let μ':Id→Pl:=yG μ id (μ ⟨out.length,tt,k⟩)
 have mid:μ' id=μ ⟨out.length,tt,k⟩:=fP _ _ _;have mne:∀ j,j≠id→μ' j=μ j:=fun j hj=>iW _ _ hj
 have hsub:∀ j b,j≠id→s'.get j=some b→s0.get j=some b∧j.d≠out.length:=by
  intro j b hj h;rw [gne j hj] at h;split at h
  ·cases h
  ·rename_i e;exact ⟨h,e⟩
 have hle:qo (.arr sz l xs) (μ id) (.arr sz false ys) (μ' id):=⟨rfl,by omega,fun q=>by omega⟩
 have K:∀ j,j.d≠out.length→∀ b,s0.get j=some b→∃ b',s'.get j=some b'∧qo b (μ j) b' (μ' j):=by
  intro j hj b hbj;by_cases e:j=id
  ·subst e;rw [hb.h] at hbj;cases hbj;exact ⟨_,gid,hle⟩
  ·exact ⟨b,by rw [gne j e,if_neg hj];exact hbj,by rw [mne j e];exact .refl _ _⟩
 have I':Inv P V s'.get μ' w:=by
  refine ⟨?_,?_,I.cell,I.map,?_⟩
  ·intro j b hj;by_cases e:j=id
   ·subst e;rw [gid] at hj;cases hj;rw [mid];exact I.blk _ _ hown
   ·obtain ⟨h1,h2⟩:=hsub j b e hj;have B:=I.blk j b h1;rw [mne j e];cases b with
    | box cs =>
     obtain ⟨b1,b3,cells,elem,b5,b6,b7⟩:=B;refine ⟨b1,b3,cells,elem,b5,b6,fun q v u hq hu=>⟨(b7 q v u hq hu).1.mono (.refl V) (fun i hi bb hbb=>K i ?_ bb hbb),(b7 q v u hq hu).2⟩⟩;have h3:=I.tidy j _ h1 i (qy hq hi);have h4:=S.uN h1;rw [hdp] at h4;omega
    | nest sz2 xs2 =>
     rcases B with B | ⟨b1,b2,b3,cells,elem,b5,b6,hpl,b7⟩
     ·exact .inl B
     ·refine .inr ⟨b1,b2,b3,cells,elem,b5,b6,hpl,fun q e2 he2=>⟨(b7 q e2 he2).1,fun q2 v u hq hu=>((b7 q e2 he2).2 q2 v u hq hu).mono (.refl V) (fun i hi bb hbb=>K i ?_ bb hbb)⟩⟩;have h3:=I.tidy j _ h1 i (BX he2 hq hi);have h4:=S.uN h1;rw [hdp] at h4;omega
    | arr _ _ _=>exact B
    | map _ _ _=>exact B
    | fam _=>exact B.elim
    | gap=>exact B
    | tail _ _ _=>exact B
  ·intro i j b b' hi hj hne n1 n2;by_cases e:i=id
   ·subst e;have e2:j≠i:=fun q=>hne q.symm
    obtain ⟨h1,h2⟩:=hsub j b' e2 hj;rw [mid] at n1 ⊢;rw [mne j e2] at n2 ⊢;exact I.apart _ _ _ _ hown h1 (fun q=>h2 (by rw [← q])) n1 n2
   ·obtain ⟨h1,h2⟩:=hsub i b e hi;rw [mne i e] at n1 ⊢;by_cases e2:j=id
    ·subst e2;rw [mid] at n2 ⊢;exact I.apart _ _ _ _ h1 hown (fun q=>h2 (by rw [q])) n1 n2
    ·obtain ⟨h3,h4⟩:=hsub j b' e2 hj;rw [mne j e2] at n2 ⊢;exact I.apart _ _ _ _ h1 h3 hne n1 n2
  ·intro i cs hi;by_cases e:i=id
   ·subst e;rw [gid] at hi;cases hi;intro j hj;cases hj
   ·exact I.tidy i cs (hsub i _ e hi).1
 have hlow:O.out.length=out.length:=by rw [← hdep,hso]
 have E':Evo O.V O.h O.μ O.w V s'.get μ' w:=by
  refine ⟨E.os,E.tape,E.output,E.size,E.rest,E.view,E.newc,E.newm,?_,?_⟩
  ·intro j b hj hnil;by_cases e:j=id
   ·subst e;rw [mid] at hnil ⊢;rcases E.place _ _ hown hnil with ⟨b0,h1,h2,h3⟩ | h1
    ·have:=O.low _ _ h1;simp only at this;omega
    ·exact .inr h1
   ·rw [mne j e] at hnil ⊢;exact E.place j b (hsub j b e hj).1 hnil
  ·intro j b0 hj;obtain ⟨b',h1,h2⟩:=E.keep j b0 hj;have:=O.low j b0 hj;obtain ⟨b2,h3,h4⟩:=K j (by omega) b' h1;exact ⟨b2,h3,h2.trans h4⟩
 refine ⟨V,μ',I',?_,E',by rw [hout];exact hdep,hn',hdf⟩;refine pM.cons (fun t u hu=>by cases hu) ?_;have h2:=R t6 _ hv;generalize a.tmps.getD t6 undef=cv at h2;cases h2 with
 | ref _ _ _ _ sz' l' xs' ad c hi hf hs =>
  rw [hown] at hi;cases hi;exact .ref id 0 N N sz false ys ad c gid hf (fun q=>by rw [mid];exact hs q)
theorem Cj {w:World} {tS tR e:TypeId} {sz:Nat} (ht:P.underlying tS=some (.slice e)) (hz:lQ P e=some sz) {a b:Addr} {la ca lb cb:Nat}
  (hne:sz≠0→a.block≠b.block) {tA tB:TypeId} {kA kB:Nat} (hsa:sz≠0→w.shape? a.block=some (tA,kA)) (hsb:w.shape? b.block=some (tB,kB)) (hkA:sz≠0→kA≠0)
  (hfb:∀ o,w.frozen? { block:=b.block,off:=o }=false) (hb:b.spot=none) :
  (Extern.SlicesOverlaps.overlaps #[tS,tS] #[tR] #[.slice (some a) la ca, .slice (some b) lb cb]).run P w = .ok (.bool false) w:=by
 change Sem.run P (α:=Value) (do
  let some t:=(#[tS,tS]:Array TypeId)[0]? | stuck "slices.overlaps: no parameter types"
  let .slice elem ← underlying t | stuck "slices.overlaps: slice type expected"
  let size ← sizeOf elem
  match (some a:Option Addr),(some b:Option Addr) with
  | some a,some b =>
   if la=0∨lb=0∨size=0 then pure (Value.bool false)
   else if a.block != b.block&&(← frozen a)&&(← frozen b) then unsupported .addressObserved
   else do
    if a.block != b.block then do
     noView a;noView b
     if ← mayBeOne a b then return Value.bool ((← choose (.extern "sameAddr.stringBytes" 2))==1)
    pure (Value.bool (a.block==b.block&&a.off < b.off+lb * size&&b.off < a.off+la * size))
  | _,_=>pure (Value.bool false)) w=_
 by_cases h0:la=0∨lb=0∨sz=0
 ·simp [cO ht,iP hz,h0]
 ·have hz0:sz≠0:=fun q=>h0 (.inr (.inr q))
  have hnb:(a.block != b.block)=true:=by simpa using hne hz0
  have hnb':(a.block==b.block)=false:=by simpa using hne hz0
  have hsa:=hsa hz0;have hkA:=hkA hz0;have hfb0:w.frozen? b=false:=by
   have:=hfb b.off;obtain ⟨bb,bo,bs⟩:=b;simp only at hb;subst hb;exact this
  have hfb1:=hfb kB;cases kA with
  | zero=>exact absurd rfl hkA
  | succ kA =>
   cases hfa:w.frozen? a<;>cases hfe:w.frozen? { block:=a.block,off:=kA+1 }<;>simp [cO ht,iP hz,h0,hnb,hnb',frozen,noView,viewAt,mayBeOne,stringish,shape,Sem.run,hsa,hsb,hfa,hfe,hfb0,hfb1]
theorem VB {g:FuncId} {fn:Func} {tS tR e sz by_ off len full:Nat} {z:D} {id:Id} {x y:Operand} {ts:Array TypeId} {xs vs:List D} (hf:P.funcs[g]?=some fn) (hname:(fn.name == "runtime.NumGoroutine")=false)
  (hb0:fn.body.isNone=true) (hn:Extern.findNext fn=none) (he:Extern.find fn=some (Extern.SlicesOverlaps.overlaps #[tS,tS] #[tR])) (ht:Sli P tS e sz by_ z) (hx:ay (look env) x=some (.d (.sl vs))) (hy:ay (look env) y=some (.ref id off len full))
  (hfu:full=xs.length) (hb:zH s id (.arr sz false xs)) (hv:vs≠[]) (hs:(vs.all fun y=>decide (y.size=sz))=true) (hl:0 < len∧off+len≤full) :
  iJ P env s ⟨some d, .call ⟨.value (.func g),#[x,y],ts⟩,ty,pos,af,gd⟩ (.d (.bool false)) .same:=by
 refine ⟨.inr ⟨rfl,fun V μ w I a R K Q hK=>?_⟩⟩;have Rx:=R x (by simp [Op.operands,Call.operands]) _ hx;have Ry:=R y (by simp [Op.operands,Call.operands]) _ hy;have hexec:execOp a.eval ⟨some d, .call ⟨.value (.func g),#[x,y],ts⟩,ty,pos,af,gd⟩=callFunc g #[a.eval x,a.eval y]:=by
  have hgv:a.eval (.func g) = .func (.func g) #[] #[]:=rfl;simp [execOp,resolve,invoke,hgv,Deferred.ofValue]
 refine Qj (c:=bc P) (cv := .bool false) ?_ (hK _ _ (Left.pure (c:=bc P) I (.d _ _ (.bool false))));rw [hexec]
 show (callFunc g #[a.eval x,a.eval y]).run P w=_
 rw [run_callFunc_extern hf hname hb0 hn he];generalize a.eval x=vx at Rx;generalize a.eval y=vy at Ry;have hbh:=hb.h;cases Ry with
 | ref _ _ _ _ sz' l' xs' ad c hi hf' hsv =>
  rw [hi] at hbh;cases hbh;obtain ⟨a',c',e1,hsv⟩:=hsv hfu;cases e1;rcases hsv with ⟨q1,q2,q3,q4⟩ | ⟨q1,q2,q3,q4,q5⟩
  ·rcases I.blk id _ hi with ⟨_,z2,_⟩ | ⟨z1,_⟩
   ·subst z2;simp at hfu;omega
   ·rw [q1] at z1;cases z1
  ·rcases I.blk id _ hi with ⟨z1,_⟩ | ⟨_,b2,b3,b4,cells,elem,b5,b6,b7⟩
   ·rw [q1] at z1;cases z1
   ·have ha:=q5 (.inl (by omega));subst ha;have hd:=Rx.dOf;cases hd with
    | sl _ av cv bv ov szv ev hcv hav hev hsz hat =>
     have hav:=hav.resolve_left hv;subst hav;obtain ⟨v0,vr,rfl⟩:∃ v0 vr,vs=v0::vr:=by cases vs with | nil=>exact absurd rfl hv | cons a b=>exact ⟨_,_,rfl⟩
     have h0:szv=sz:=by
      rw [← hsz 0 (by simp),(hev 0 v0 rfl).cells.1];have:=aW.1 hs v0 (.head _);simpa [D.size] using (of_decide_eq_true this)
     subst h0;have hcell:szv≠0→∃ v,V.cell bv ov v:=by
      intro hz;have h1:=hsz 0 (by simp);have h2:0 < (ev 0).cells.size:=by omega
      have:=hat 0 (by simp) 0 _ (bI h2);simp only [Nat.zero_mul,Nat.add_zero] at this;exact ⟨_,this⟩
     have hsh:szv≠0→∃ cs el fr,w.heap[bv]?=some (.cells cs el fr)∧cs.size≠0:=by
      intro hz;obtain ⟨v,hc⟩:=hcell hz;have:=I.cell _ _ _ hc;unfold World.cell? at this;simp only at this;split at this
      ·rename_i cs el fr hh
       simp at this;exact ⟨cs,el,fr,hh,fun q=>by have:=(aO.1 this).1;omega⟩
      ·cases this
     have hsz0:szv=0∨szv≠0:=lg szv |>.imp (fun q=>q) (fun h=>by omega)
     have hrun:(Extern.SlicesOverlaps.overlaps #[tS,tS] #[tR] #[.slice (some ⟨bv,ov,none⟩) (v0::vr).length cv, .slice (some ⟨(μ id).blk,off * szv,none⟩) len c]).run P w = .ok (.bool false) w:=by
      rcases hsz0 with hz | hz
      ·exact Cj (tA:=0) (tB:=elem) (kA:=0) (kB:=cells.size) ht.u ht.s (fun q=>absurd hz q) (fun q=>absurd hz q) (by simp [World.shape?,b5]) (fun q=>absurd hz q) (fun o=>by simp [World.frozen?,b5]) rfl
      ·obtain ⟨cs,el,fr,g1,g2⟩:=hsh hz;obtain ⟨v,hc⟩:=hcell hz;exact Cj (tA:=el) (tB:=elem) (kA:=cs.size) (kB:=cells.size) ht.u ht.s (fun _ q=>b3 rfl ov v (by rw [← (show bv=(μ id).blk from q)];exact hc)) (fun _=>by simp [World.shape?,g1]) (by simp [World.shape?,b5]) (fun _=>g2) (fun o=>by simp [World.frozen?,b5]) rfl
     rw [hrun];rfl
end
def Eo {α:Type} (xs:List α) (i:Int) (vs:List α):Option (List α) :=
 if 0≤i∧i≤xs.length∧xs.length+vs.length≤16777216 then some (xs.take i.toNat++vs++xs.drop i.toNat) else none
theorem Fv {α:Type} {xs vs r:List α} {i:Int} (h:Eo xs i vs=some r):∃ k:Nat,i=k∧k≤xs.length∧xs.length+vs.length≤16777216∧r=xs.take k++vs++xs.drop k:=by
 unfold Eo at h;split at h
 ·rename_i h1
  cases h;exact ⟨i.toNat,by omega,by omega,h1.2.2,rfl⟩
 ·cases h
section
variable {P:Program} {env:Env} {s:S} {dst:Option Nat} {t t':TypeId} {x y:Operand} {a b:Int} {ty:TypeId} {pos:String} {af:Array Edge} {gd:Option (Nat×Bool)}
theorem P9 {c:Int} (h0:0≤c) (h1:c≤67108864):w c=c:=by
 unfold w IntKind.wrap;simp [IntKind.bits,IntKind.signed];omega
theorem adS {c:Nat} (hx:ay (look env) x=some (.d (.int .i64 a))) (hy:ay (look env) y=some (.d (.int .i64 b))) (h:a+b=c∧c≤67108864):iJ P env s ⟨dst, .binOp .add t x y t',ty,pos,af,gd⟩ (.d (.int .i64 c)) .same:=by
 have:=add (P:=P) (s:=s) (dst:=dst) (t:=t) (t':=t') (ty:=ty) (pos:=pos) (af:=af) (gd:=gd) hx hy;rw [h.1,P9 (by omega) (by omega)] at this;exact this
theorem suS {c:Nat} (hx:ay (look env) x=some (.d (.int .i64 a))) (hy:ay (look env) y=some (.d (.int .i64 b))) (h:a - b=c∧c≤67108864):iJ P env s ⟨dst, .binOp .sub t x y t',ty,pos,af,gd⟩ (.d (.int .i64 c)) .same:=by
 have:=sub (P:=P) (s:=s) (dst:=dst) (t:=t) (t':=t') (ty:=ty) (pos:=pos) (af:=af) (gd:=gd) hx hy;rw [h.1,P9 (by omega) (by omega)] at this;exact this
end
theorem VP {X V:List D} {z:D} {i k a b:Nat} (hi:i≤X.length) (hk:k=X.length+V.length - i) (ha:V.length≤a) (hb:X.length - i≤b) :
  splice (splice (X.take i++List.replicate k z) i (V.take a)) (i+V.length) ((X.drop i).take b)=X.take i++V++X.drop i:=by
 subst hk;have e1:V.take a=V:=dS ha;have e2:(X.drop i).take b=X.drop i:=dS (by simpa using hb);rw [e1,e2];have hT:(X.take i).length=i:=by simp;omega
 have h1:splice (X.take i++List.replicate (X.length+V.length - i) z) i V=X.take i++V++List.replicate (X.length - i) z:=by
  unfold splice;rw [List.take_left' hT,List.drop_append,hT,List.drop_eq_nil_of_le (by omega),mf,List.drop_replicate]
  congr 2
  omega
 rw [h1];have h2:(X.take i++V++List.replicate (X.length - i) z).take (i+V.length)=X.take i++V:=List.take_left' (by rw [kZ,hT]);have h3:(X.take i++V++List.replicate (X.length - i) z).drop (i+V.length+(X.drop i).length)=[]:=List.drop_eq_nil_of_le (by simp only [kZ,hT,List.length_replicate,List.length_drop];omega);unfold splice;rw [h2,h3,lY]
theorem VQ {X V:List D} {z:D} {i a b c:Nat} (hi:i≤X.length) (ha:V.length≤a) (hb:b=X.length - i) (hc:X.length - i≤c) :
  splice (splice (X++List.replicate V.length z) (i+V.length) ((((X++List.replicate V.length z).drop i).take c).take b)) i (V.take a)=X.take i++V++X.drop i:=by
 subst hb;have h0:((((X++List.replicate V.length z).drop i).take c).take (X.length - i))=X.drop i:=by
  rw [List.take_take,Nat.min_eq_left hc,List.drop_append_of_le_length hi,List.take_left' (by simp)]
 rw [h0,dS ha];unfold splice;have h1:(X++List.replicate V.length z).drop (i+V.length+(X.drop i).length)=[]:=List.drop_eq_nil_of_le (by simp;omega);rw [h1,lY];have h2:(((X++List.replicate V.length z).take (i+V.length))++X.drop i).take i=X.take i:=by
  rw [List.take_append_of_le_length (by simp;omega),List.take_take,Nat.min_eq_left (by omega),List.take_append_of_le_length hi]
 have h3:(((X++List.replicate V.length z).take (i+V.length))++X.drop i).drop (i+V.length)=X.drop i:=by
  rw [List.drop_left' (by simp;omega)]
 rw [h2,h3]
theorem UB {X V:List D} {z:D} {i j k o1 o2 o3 l a b:Nat} {R:List D} (hi:i≤X.length) (hj:j=i) (hk:k=X.length+V.length - i) (h1:o1=i) (h2:o2=i+V.length) (h3:o3=i) (hl:X.length - i≤l) (ha:V.length≤a) (hb:X.length - i≤b)
  (hR:X.take i++V++X.drop i=R):splice (splice (X.take j++List.replicate k z) o1 (V.take a)) o2 (((X.drop o3).take l).take b)=R:=by
 subst hj h1 h2 h3;have e2:=dS (l:=X.drop _) (i:=l) (by simpa using hl);rw [e2,VP hi hk ha hb,hR]
theorem UC {X V:List D} {z:D} {i m o1 o2 o3 a b c:Nat} {R:List D} (hi:i≤X.length) (hm:m=V.length) (h1:o1=i) (h2:o2=i+V.length) (h3:o3=i) (ha:V.length≤a) (hb:b=X.length - i) (hc:X.length - i≤c)
  (hR:X.take i++V++X.drop i=R):splice (splice (X++List.replicate m z) o2 ((((X++List.replicate m z).drop o3).take c).take b)) o1 (V.take a)=R:=by
 subst hm h1 h2 h3;rw [VQ hi ha hb hc,hR]
theorem UO {s:S} {ex:Bool} {i:Id} {o n m n' m':Nat} (h:Nat.blt i.d s.dep=true) (h1:n=n') (h2:m=m'):Gv s ex (.ref i o n m) (.ref i o n' m') []:=by subst h1 h2;exact gro h
theorem Le.UL {P:Program} {env:Env} {s:S} {t0 o n m c:Nat} {id:Id} (hv:look env t0=some (.rcap id o n m c)):Le P env s ((t0, .ref id o n m)::env) s:=by
 refine ⟨fun O a w T=>?_⟩;obtain ⟨V,μ,I,R,E,hdep,hn',hdf⟩:=T;refine ⟨V,μ,I,R.cons ?_,E,hdep,hn',hdf⟩;have h2:=R t0 _ hv;generalize a.tmps.getD t0 undef=cv at h2;cases h2 with
 | rcap _ _ _ _ _ sz' l' xs' ad hi hf hs=>exact .ref _ _ _ _ sz' l' xs' ad c hi hf hs
theorem MH {α:Type} {f:α→D} {sz a b:Nat} {xs:List α} (h:Sz f sz):((((xs.map f).drop a).take b).all fun y=>decide (y.size=sz))=true:=by
 have:=Af h (xs:=xs);rw [aW] at this ⊢;exact fun y hy=>this y (List.mem_of_mem_drop (jU hy))
theorem MG {α:Type} {f:α→D} {sz a b m:Nat} {xs:List α} (h:Sz f sz):((((xs.map f++List.replicate m (IC sz)).drop a).take b).all fun y=>decide (y.size=sz))=true:=by
 have:=Af h (xs:=xs);rw [aW] at this ⊢;intro y hy;rcases aU.1 (List.mem_of_mem_drop (jU hy)) with q | q
 ·exact this y q
 ·rw [(List.mem_replicate.1 q).2,O8];simp
section
variable {P:Program} {env:Env} {s:S} {dst:Option Nat} {x y:Operand} {ty:TypeId} {pos:String} {af:Array Edge} {gd:Option (Nat×Bool)}
end
section
variable {P:Program} {env:Env} {s s1 s':S} {x y:Operand} {t off sz' sz2 m m2:Nat} {id id2:Id} {ty:TypeId} {pos:String} {af:Array Edge} {gd:Option (Nat×Bool)} {α β:Type} {f:α→D} {g:β→D} {xs:List α} {ys:List β} {n:Int} {a b:α}
end
section
variable {P:Program} {env:Env} {s s':S} {loc loc':Loc} {out:Out} {chg:List (Option Loc)} {dst:Option Nat} {d:Nat} {ty:TypeId} {pos:String} {af:Array Edge} {gd:Option (Nat×Bool)}
theorem Vt {x:Operand} {t e sz by_:Nat} {z:D} {ts:Array TypeId} (ht:Sli P t e sz by_ z) (hx:dR (look env) #[x].toList=some [.d .nilsl]) (hts:ts.toList=[t]) :
  iJ P env s ⟨some d, .call ⟨.builtin .cap,#[x],ts⟩,ty,pos,af,gd⟩ (.d (.int .i64 0)) .same:=by
 refine bi hx hts ?_;simp [jH,um,bc,ht.u]
theorem U0 {x:Operand} {y:Operand} {ts:Array TypeId} {t t2 e sz by_ nn:Nat} {z:D} {k:Int} {k1:IntKind} (ht:Sli P t e sz by_ z) (ht2:P.underlying t2=some (.int k1)) (hts:ts.toList=[t,t2])
  (hx:ay (look env) x=some (.d .nilsl)) (hy:ay (look env) y=some (.d (.int .i64 k))) (hk:0 < k∧k≤16777216) (hf:nU loc d=nn) :
  iJ P env ⟨loc,out,chg⟩ ⟨some d, .call ⟨.builtin .append,#[x,y],ts⟩,ty,pos,af,gd⟩ (.ref ⟨out.length,d,nn⟩ 0 k.toNat k.toNat) (.add [((d,nn), .arr sz false (List.replicate k.toNat z))]):=by
 obtain ⟨k2,k3⟩:=hk;refine iJ.sem rfl fun V μ w I a R=>?_
 have Rx:=R x (by simp [Op.operands,Call.operands]) _ hx;have Ry:=R y (by simp [Op.operands,Call.operands]) _ hy;refine ⟨Builtin.append_ #[t,t2] ty #[a.eval x,a.eval y],by
  have:ts=#[t,t2]:=by rw [← hts]
  simp [execOp,resolve,invoke,builtin,this],?_⟩
 generalize a.eval x=vx at Rx;generalize a.eval y=vy at Ry;have hvy:=KY Ry;subst hvy;obtain ⟨m,rfl⟩:=Int.eq_ofNat_of_zero_le (show 0≤k by omega);obtain ⟨inf,hinf,hby⟩:=zS ht.b;obtain ⟨zv,hz,hzs,hzr⟩:=zV ht.z0 hinf;have hzc:zv.cells.size=sz:=by rw [hzs,ht.zs]
 have Rd:=Rx.dOf;cases Rd;have hroom:room (0+m) inf.bytes=true:=by simp [room];have:=ht.r;omega
 obtain ⟨kk,hrun⟩:=Ci (V:=V) (w:=w) (n:=m) (len:=0) (cap:=0) (a:=none) (xs:=[]) ty ht.u ht2 hinf hz ht.s hzc hroom (by have:=ht.p;omega) (by omega) (by simp [Builtin.firstCells]);have hC:=vT (hzr V) hzc m;obtain ⟨μ',I',E',R'⟩:=Dt I d (sz:=sz) (n:=m) (k:=kk) (rest:=Builtin.zeroCells zv.cells kk) (el:=e) hC (by simp) (by rw [kN,hzc]) (xI hzr kk) (.inl rfl);subst hf;simp only [gW,mf] at hrun;exact ⟨_,_,V,μ',hrun,R',I',E',rfl⟩
theorem Le.RZ {t t' n sz:Nat} (hv:look env t=some (.d .nilsl)) (hn:nU loc t'=n):Le P env ⟨loc,out,chg⟩ ((t, .ref ⟨out.length,t',n⟩ 0 0 0)::env) ⟨((t',n), .arr sz false [])::loc,out,chg⟩:=by
 refine ⟨fun O a w T=>?_⟩;obtain ⟨V,μ,I,R,E,hdep,hn',hdf⟩:=T;obtain ⟨cv,w',V',μ',h1,h2,h3,h4,h5⟩:=Ar (w:=w) I t' sz;cases h1;subst hn;refine ⟨V',μ',h3,?_,E.trans h4,h5.trans hdep,hn',hdf⟩;refine pM.cons (fun u y hy=>h4.zI (R u y hy)) ?_;have hd:=(R t _ hv).dOf;generalize a.tmps.getD t undef=cv at hd;cases hd;exact h2
theorem Le.shrink {t6 tt k sz n:Nat} {own:Loc} {ys:List D} (hv:look env t6=some (.ref ⟨out.length,tt,k⟩ 0 0 n)) (hn:n=ys.length) (ho:bV own tt k=some (.arr sz false ys)) :
  Le P env ⟨own,out,chg⟩ [(t6, .ref ⟨out.length,tt,k⟩ 0 0 0)] ⟨[((tt,k), .arr sz false [])],out,chg⟩:=by
 refine ⟨fun O a w T=>?_⟩;obtain ⟨V,μ,I,R,E,hdep,hn',hdf⟩:=T;generalize hs0:(⟨own,out,chg⟩:S)=s0 at *
 have hdp:s0.dep=out.length:=by subst hs0;rfl
 have hbase:Bo s0=⟨[],out,chg⟩:=by subst hs0;rfl
 have hso:s0.out=out:=by subst hs0;rfl
 have hown:s0.get ⟨out.length,tt,k⟩=some (.arr sz false ys):=by
  subst hs0;rw [dP];exact ho
 have gown:S.get ⟨[((tt,k), .arr sz false [])],out,chg⟩ ⟨out.length,tt,k⟩=some (.arr sz false []):=by rw [dP,lq rfl];simp
 have gne:∀ j,j≠⟨out.length,tt,k⟩→S.get ⟨[((tt,k), .arr sz false [])],out,chg⟩ j=if j.d=out.length then none else s0.get j:=by
  intro j hj;have hb:=qp s0 j;rw [hbase,hdp] at hb;by_cases e:j.d=out.length
  ·rw [if_pos e];obtain ⟨jd,jt,jn⟩:=j;simp only at e;subst e;rw [dP];rw [lq rfl];by_cases e1:jt=tt
   ·subst e1;have:jn≠k:=fun q=>hj (by rw [q])
    simp [this,bV]
   ·simp [e1,bV]
  ·rw [if_neg e];have h1:S.get ⟨[((tt,k), .arr sz false [])],out,chg⟩ j=(Bo ⟨[((tt,k), .arr sz false [])],out,chg⟩).get j:=by
    rw [qp];have:S.dep ⟨[((tt,k), .arr sz false [])],out,chg⟩=out.length:=rfl;rw [this,if_neg e]
   rw [h1]
   show S.get ⟨[],out,chg⟩ j=_
   rw [hb,if_neg e]
 have hsub:∀ j b,j≠⟨out.length,tt,k⟩→S.get ⟨[((tt,k), .arr sz false [])],out,chg⟩ j=some b→s0.get j=some b∧j.d≠out.length:=by
  intro j b hj h;rw [gne j hj] at h;split at h
  ·cases h
  ·rename_i e;exact ⟨h,e⟩
 have K:∀ j,j.d≠out.length→∀ b,s0.get j=some b→S.get ⟨[((tt,k), .arr sz false [])],out,chg⟩ j=some b:=by
  intro j hj b hbj;rw [gne j (fun q=>hj (by rw [q])),if_neg hj];exact hbj
 have I':Inv P V (S.get ⟨[((tt,k), .arr sz false [])],out,chg⟩) μ w:=by
  refine ⟨?_,?_,I.cell,I.map,?_⟩
  ·intro j b hj;by_cases e:j=⟨out.length,tt,k⟩
   ·subst e;rw [gown] at hj;cases hj;rcases I.blk _ _ hown with ⟨b1,b2,b3⟩ | ⟨b1,b2,b3,b4,cells,elem,b5,b6,b7⟩
    ·exact .inl ⟨b1,rfl,b3⟩
    ·exact .inr ⟨b1,by simp,b3,fun c v h=>absurd h (b3 rfl c v),cells,elem,b5,b6,b7.1,b7.2.choose,fun i d hd=>by simp at hd⟩
   ·obtain ⟨h1,h2⟩:=hsub j b e hj;have B:=I.blk j b h1;cases b with
    | box cs =>
     obtain ⟨b1,b3,cells,elem,b5,b6,b7⟩:=B;refine ⟨b1,b3,cells,elem,b5,b6,fun q v u hq hu=>⟨(b7 q v u hq hu).1.mono (.refl V) (fun i hi bb hbb=>⟨bb,K i ?_ bb hbb, .refl _ _⟩),(b7 q v u hq hu).2⟩⟩;have h3:=I.tidy j _ h1 i (qy hq hi);have h4:=S.uN h1;rw [hdp] at h4;omega
    | nest sz2 xs2 =>
     rcases B with B | ⟨b1,b2,b3,cells,elem,b5,b6,hpl,b7⟩
     ·exact .inl B
     ·refine .inr ⟨b1,b2,b3,cells,elem,b5,b6,hpl,fun q e2 he2=>⟨(b7 q e2 he2).1,fun q2 v u hq hu=>((b7 q e2 he2).2 q2 v u hq hu).mono (.refl V) (fun i hi bb hbb=>⟨bb,K i ?_ bb hbb, .refl _ _⟩)⟩⟩;have h3:=I.tidy j _ h1 i (BX he2 hq hi);have h4:=S.uN h1;rw [hdp] at h4;omega
    | arr _ _ _=>exact B
    | map _ _ _=>exact B
    | fam _=>exact B.elim
    | gap=>exact B
    | tail _ _ _=>exact B
  ·intro i j b b' hi hj hne n1 n2;by_cases e:i=⟨out.length,tt,k⟩
   ·subst e;obtain ⟨h1,h2⟩:=hsub j b' (fun q=>hne q.symm) hj;exact I.apart _ _ _ _ hown h1 hne n1 n2
   ·obtain ⟨h1,h2⟩:=hsub i b e hi;by_cases e2:j=⟨out.length,tt,k⟩
    ·subst e2;exact I.apart _ _ _ _ h1 hown hne n1 n2
    ·exact I.apart _ _ _ _ h1 (hsub j b' e2 hj).1 hne n1 n2
  ·intro i cs hi;by_cases e:i=⟨out.length,tt,k⟩
   ·subst e;rw [gown] at hi;cases hi;intro j hj;cases hj
   ·exact I.tidy i cs (hsub i _ e hi).1
 have hlow:O.out.length=out.length:=by rw [← hdep,hso]
 have E':Evo O.V O.h O.μ O.w V (S.get ⟨[((tt,k), .arr sz false [])],out,chg⟩) μ w:=by
  refine ⟨E.os,E.tape,E.output,E.size,E.rest,E.view,E.newc,E.newm,?_,?_⟩
  ·intro j b hj hnil;by_cases e:j=⟨out.length,tt,k⟩
   ·subst e;exact E.place _ _ hown hnil
   ·exact E.place j b (hsub j b e hj).1 hnil
  ·intro j b0 hj;obtain ⟨b',h1,h2⟩:=E.keep j b0 hj;have:=O.low j b0 hj;exact ⟨b',K j (by omega) b' h1,h2⟩
 refine ⟨V,μ,I',?_,E',by rw [← hso];exact hdep,hn',hdf⟩;refine pM.cons (fun t u hu=>by cases hu) ?_;have h2:=R t6 _ hv;generalize a.tmps.getD t6 undef=cv at h2;cases h2 with
 | ref _ _ _ _ sz' l' xs' ad c hi hf hs =>
  rw [hown] at hi;cases hi;exact .ref _ 0 0 0 sz false [] ad c gown (bu _) (fun _=>hs hn)
end
theorem slN {P:Program} {env:Env} {s:S} {dst:Option Nat} {ty:TypeId} {pos:String} {af:Array Edge} {gd:Option (Nat×Bool)} {x o1:Operand} {t e sz by_:Nat} {z:D} {k:IntKind} (ht:Sli P t e sz by_ z) (hx:ay (look env) x=some (.d .nilsl)) (h1:ay (look env) o1=some (.d (.int k 0))) :
  iJ P env s ⟨dst, .slice t x none (some o1) none,ty,pos,af,gd⟩ (.d .nilsl) .same := .of (bc P) rfl fun _ _=>by
 rw [Bd.run hx (.no:Bd env 0 none 0 none) (.is h1:Bd env ((0:Nat):Int) (some o1) 0 _)];simp [pq,bc,ht.u,ht.s,kw,Kt,OD]
theorem CWp.QB {P:Program} {code:Code} {env:Env} {s:S} {Q:Ex→Env→S→Prop} (h:CWp P code env s (fun ex e s=>∃ e' s',Le P e s e' s'∧Q ex e' s')):CWp P code env s Q :=
 ⟨fun O a w hc T=>wp_mono (h.ok O a w hc T) fun _ _ _ ⟨ex,e,s,h1,h2,e',s',h3,h4⟩=>⟨ex,e',s',h1,h3.ok _ _ _ h2,h4⟩⟩
section
variable {P:Program} {env env':Env} {loc loc' c0:Loc} {out:Out} {chg:List (Option Loc)}
theorem Rk (h1:env'.map (fun p=>look env p.1)=env'.map (fun p=>some p.2)) (h2:loc'.map (Ul loc)=loc'.map (fun b=>some b.2)) (h3:((wo env'++vK loc').all fun i=>(bV loc' i.t i.n).isSome)=true) :
  Trim env ⟨loc,out,chg⟩ env' ⟨loc',out,chg⟩ :=
 ⟨fun t v hv=>⟨v,yx h1 (zO hv), .refl _⟩,BD (fun _ he=>yx h2 he),rfl,rfl, .inr fun i hi _=>by
  have:=aW.1 h3 i (aU.2 hi);exact gX.1 this⟩
theorem Rl (h1:env'.map (fun p=>look env p.1)=env'.map (fun p=>some p.2)) (h2:loc'.map (Ul loc)=loc'.map (fun b=>some b.2)) (h3:((wo env'++vK loc').all fun i=>Nat.beq i.d 0 || (bV loc' i.t i.n).isSome)=true) :
  Trim env ⟨loc,[c0],chg⟩ env' ⟨loc',[c0],chg⟩ :=
 ⟨fun t v hv=>⟨v,yx h1 (zO hv), .refl _⟩,BD (fun _ he=>yx h2 he),rfl,rfl, .inr fun i hi hd=>by
  have:=aW.1 h3 i (aU.2 hi);simp only [jl] at this;rcases this with q | q
  ·have:=bW q;have hd1:i.d=1:=hd;omega
  ·exact gX.1 q⟩
theorem Le.Di {t tt n:Nat} {e:D} {cs:List A} (hv:look env t=some (.bptr ⟨out.length,tt,n⟩ 0)) (hb:bV loc tt n=some (.box cs)) (hc:cs=e.cells.map A.d) (hn:bV loc' tt n=none) (h:Trim env ⟨loc,out,chg⟩ env' ⟨loc',out,chg⟩) :
  Le P env ⟨loc,out,chg⟩ ((t, .pimm e 0)::env') ⟨loc',out,chg⟩:=by
 refine ⟨fun O a w T=>?_⟩;obtain ⟨V,μ,I,R,E,hdep,hsz,hdf⟩:=T;generalize hs1:(⟨loc,out,chg⟩:S)=s at *
 generalize hs2:(⟨loc',out,chg⟩:S)=s' at *
 have hds:s.dep=out.length:=by subst hs1;rfl
 have hls:s.loc=loc:=by subst hs1;rfl
 have hls':s'.loc=loc':=by subst hs2;rfl
 have own:∀ i,i.d=s.dep→s.get i=bV s.loc i.t i.n:=fun i e=>by unfold S.get;rw [if_pos e]
 have hsub:∀ i b,s'.get i=some b→s.get i=some b:=by
  intro i b hb;rw [h.get] at hb;split at hb
  ·rename_i e;rw [own i e];exact h.loc _ _ _ hb
  ·exact hb
 have hgi:s.get ⟨out.length,tt,n⟩=some (.box cs):=by rw [own _ hds.symm,hls];exact hb
 have hgi':s'.get ⟨out.length,tt,n⟩=none:=by rw [h.get,if_pos hds.symm,hls'];exact hn
 have hkeep:∀ j,j∈wo env'∨j∈vK s'.loc→∀ b,s.get j=some b→s'.get j=some b:=by
  intro j hj b hb;rcases h.ids with hs | hids
  ·rw [hs];exact hb
  rw [h.get];split
  ·rename_i e
   obtain ⟨b',hb'⟩:=hids j hj e;have:=h.loc _ _ _ hb';rw [own j e,this] at hb;rw [hb',← hb]
  ·exact hb
 have hd:s'.dep=s.dep:=by unfold S.dep;rw [h.out]
 have hclosed:∀ i c,s'.get i=some c→∀ j∈c.ids,∀ b,s.get j=some b→s'.get j=some b:=by
  intro i cs hi j hj b hb;by_cases e1:i.d=s.dep
  ·rcases h.ids with hs | _
   ·rw [hs];exact hb
   have hi':bV s'.loc i.t i.n=some cs:=by rw [h.get,if_pos e1] at hi;exact hi
   exact hkeep j (.inr (E5 hi' hj)) b hb
  ·have hle:=I.tidy i cs (hsub i _ hi) j hj;have hlt:=S.uN (hsub i _ hi);rw [h.get,if_neg (by omega)];exact hb
 obtain ⟨b1,b3,cells,elem,b5,b6,b7⟩:=I.blk _ _ hgi
 let V':View:=⟨fun b c v=>V.cell b c v∨(b=(μ ⟨out.length,tt,n⟩).blk∧cells[c]?=some v),V.map⟩
 have hV:V.Le V':=⟨fun _ _ _ x => .inl x,fun _ _ _ x=>x⟩
 have hown:oq s.get μ (μ ⟨out.length,tt,n⟩).blk:=⟨_,_,hgi,b1,rfl⟩
 have sound:∀ b c v,V'.cell b c v→w.cell? ⟨b,c,none⟩=some v:=by
  rintro b c v (q | ⟨rfl,q⟩)
  ·exact I.cell b c v q
  ·rw [cell_of_row w _ c cells elem (0,0) b5];exact q
 have I1:Inv P V s'.get μ w:=I.sub hsub hclosed;have I2:Inv P V' s'.get μ w:=I1.frame (fun _ _=>rfl) hV (by
  rintro b c v (q | ⟨rfl,q⟩) ⟨j,x,hx,hnil,hblk⟩
  ·exact q
  ·have hne:j≠⟨out.length,tt,n⟩:=by rintro rfl;rw [hgi'] at hx;cases hx
   exact absurd hblk (I.apart j _ _ _ (hsub j x hx) hgi hne hnil b1)) (fun _ _ _ x _=>x) sound I.map
 have E1:Evo O.V O.h O.μ O.w V' s.get μ w:=E.trans ⟨rfl,rfl,rfl,bu _,fun _ _ _=>rfl,hV,by
  rintro b c v (q | ⟨rfl,q⟩)
  ·exact .inl q
  ·exact .inr (.inl hown),fun _ _ _ x => .inl x,fun j x hx hn => .inl ⟨x,hx,hn,rfl⟩,fun j b hb=>⟨b,hb, .refl _ _⟩⟩
 refine ⟨V',μ,I2,?_,E1.sub hsub ?_,h.out.trans hdep,hsz,hdf⟩
 ·refine pM.cons (fun u v hv=>?_) ?_
  ·obtain ⟨v0,h1,h2⟩:=h.env u v hv;have h3:=h2.ok _ _ _ _ _ (R u v0 h1);exact h3.mono hV (fun j hj b hb=>⟨b,hkeep j (.inl (IK hv j hj)) b hb, .refl _ _⟩)
  ·have h2:=R t _ hv;generalize a.tmps.getD t undef=cv at h2;cases h2 with
   | bptr _ _ cs' hi =>
    subst hc;have hrel:∀ (i:Nat) d v,e.cells[i]?=some d→cells[i]?=some v→jB P V' d v∧Plain v:=by
     intro i d v hd hv;obtain ⟨g1,g2⟩:=b7 i (.d d) v (by rw [eF,hd];rfl) hv;exact ⟨g1.dOf.mono hV,g2⟩
    have key:∃ ev,jB P V' e ev∧∀ (j:Nat) x,ev.cells[j]?=some x→cells[j]?=some x:=by
     by_cases ha:∃ ds,e = .agg ds
     ·obtain ⟨ds,rfl⟩:=ha;refine ⟨.agg cells, .agg ds cells (by simpa [D.cells] using b6) (fun i d v hd hv=>(hrel i d v hd hv).1) (fun i v hv=>?_),fun j x hx=>hx⟩;have hi:i < cells.size:=(aO.1 hv).1;have hl:i < ds.length:=by
       have:cells.size=ds.length:=by simpa [D.cells] using b6
       omega
      exact (hrel i _ v (ax hl) hv).2
     ·have he:e.cells=[e]:=by cases e<;>first | rfl | exact absurd ⟨_,rfl⟩ ha
      rw [he] at b6 hrel;have hs1:cells.size=1:=by simpa using b6
      have hc0:cells[0]?=some (cells[0]'(by omega)):=bI _;obtain ⟨g1,g2⟩:=hrel 0 e _ rfl hc0;refine ⟨_,g1,fun j x hx=>?_⟩;have hcl:(cells[0]'(by omega)).cells=#[cells[0]'(by omega)]:=by
       generalize (cells[0]'(by omega))=q at g2;cases q<;>first | rfl | exact g2.elim
      rw [hcl] at hx;cases j with
      | zero=>simp at hx;rw [hc0,hx]
      | succ j=>simp at hx
    obtain ⟨ev,k1,k2⟩:=key;exact .pimm e 0 ev _ 0 k1 (fun j x hx => .inr ⟨rfl,by simpa using k2 j x hx⟩)
 ·intro i b hb;have:=O.low i b hb;have hdl:s.dep=O.out.length:=congrArg List.length hdep;rw [h.get,if_neg (by omega)]
end
section
variable {P:Program} {F:Facts} {ops:List Oper} {b:List Nat} {rest:List (Nat×Oper)} {adds:List (Nat×Loc)} {env:Env} {s:S} {loc:Loc} {out:Out} {chg:List (Option Loc)} {M R:List Nat} {Q:Env→S→Prop} {i d:Nat} {op:Op} {ty:TypeId} {pos:String} {af:Array Edge} {v:A}
def isU:A→Bool | .undef=>true | _=>false
theorem UD {a:A} (h:isU a=false):a = .undef→False:=by rintro rfl;cases h
def Vf:Blk→Bool | .box cs=>cs.all fun a=>!isU a | _=>true
theorem Nu.full {cs cs':List A} (h:Nu cs cs') (hu:(cs.all fun a=>!isU a)=true):cs=cs':=by
 induction h with
 | n=>rfl
 | s k ih=>rw [List.all_cons,bF] at hu;rw [ih hu.2]
 | u k ih=>rw [List.all_cons] at hu;simp [isU] at hu
def QK:Blk→Bool | .gap=>true | _=>false
theorem OU {b:Blk} (h:QK b=false):¬ b = .gap:=by rintro rfl;cases h
theorem Be.at {id:Id} {bk:Blk} (h:Be s F) (k:Nat) (e:F[k]?=some (id,bk)) (hu:Vf bk=true:=by rfl) (hg:QK bk=false:=by rfl):zH s id bk:=⟨by
 obtain ⟨b,h1,h2⟩:=(h (id,bk) (dm e)).resolve_left (OU hg);rcases h2 with h2 | ⟨c1,c2,e1,e2,h2⟩
 ·simp only at h2;rw [h2];exact h1
 ·simp only at e1;subst e1;rw [h2.full hu];subst e2;exact h1⟩
structure UX (s:S) (id:Id) (off:Nat) (v:A):Prop where
 h:∃ cs,s.get id=some (.box cs)∧cs[off]?=some v
theorem Be.cell {id:Id} {cs:List A} (h:Be s F) (k off:Nat) {v:A} (e:F[k]?=some (id, .box cs)) (hv:cs[off]?=some v) (hu:isU v=false:=by rfl):UX s id off v:=⟨by
 obtain ⟨b,h1,h2⟩:=(h (id, .box cs) (dm e)).resolve_left (fun q=>by cases q);rcases h2 with h2 | ⟨c1,c2,e1,e2,h2⟩
 ·simp only at h2;subst h2;exact ⟨cs,h1,hv⟩
 ·simp only at e1;cases e1;subst e2;exact ⟨c2,h1,h2.get hv (UD hu)⟩⟩
theorem Be.plus (h:Be s F) {bs:Loc} (hd:(F.all fun p=>(bV bs p.1.t p.1.n).isNone)=true):Be (s.plus bs) F:=by
 intro p hp;rcases h p hp with hg | ⟨b,h1,h2⟩
 ·exact .inl hg
 refine .inr ⟨b,?_,h2⟩;rw [tY];have:=aW.1 hd p hp;simp only [Option.isNone_iff_eq_none] at this;rw [this];split<;>exact h1
def Qh (a b:Id):Bool:=Nat.beq a.d b.d&&Nat.beq a.t b.t&&Nat.beq a.n b.n
theorem OZ {a b:Id} (h:Qh a b=true):a=b:=by
 simp only [Qh,bF] at h;obtain ⟨⟨e1,e2⟩,e3⟩:=h;have h1:=bW e1;have h2:=bW e2;have h3:=bW e3;cases a;cases b;simp only at h1 h2 h3;subst h1 h2 h3;rfl
def D7 (p:Id×Blk) (j:Id):Bool:=!QK p.2&&(Qh p.1 j || (match p.2 with | .box cs=>(A.lT cs).any fun k=>Qh k j | _=>false))
theorem TK (h:∀ s,Be s F→iJ P env s ⟨some d,op,ty,pos,af,none⟩ v .same) (hv:(v.ids.all fun j=>F.any fun p=>D7 p j)=true) (hs:Be (s.plus (qE b i adds)) F) (k:DWp P F ops b rest adds ((d,v)::env) s M R Q) (ht:QR b F i=true:=by kernel_rfl) :
  DWp P F ops b ((i,⟨some d,op,ty,pos,af,none⟩)::rest) adds env s M R Q:=by
 refine .U7 rfl (h _ hs) ⟨rfl,h,fun j hj=>?_⟩ ht k;have:=aW.1 hv j hj;obtain ⟨p,hp,e⟩:=List.any_eq_true.1 this;simp only [D7,bF,jl] at e;obtain ⟨eg,e⟩:=e;refine ⟨p,hp,OU (by simpa using eg),?_⟩;rcases e with e | e
 ·exact .inl (OZ e)
 ·obtain ⟨pi,pb⟩:=p;cases pb with
  | box cs =>
   obtain ⟨k,hk,e2⟩:=List.any_eq_true.1 e;rw [OZ e2] at hk;exact .inr ⟨cs,rfl,hk⟩
  | _=>cases e
end
section
variable {P:Program} {F:Facts} {ops:Array Oper} {y:Code} {id:Nat} {env:Env} {s:S} {Q:Ex→Env→S→Prop}
theorem sdF (hF:Be s F) (hm:P.follows .mixedOrders=true) {b:List Nat} (hb:eQ ops.toList=b) (h:DWp P F ops.toList b (mM 0 ops.toList) [] env s [] [] (fun e s'=>CWp P y e s' Q)):CWp P (.seq (.region id ops true) y) env s Q:=by
 obtain ⟨e,s',m,r,h1,h2,h3⟩:=h.ex;subst hb;exact .seq (.draw hm hF h1 (by simpa using h2) h3)
theorem ldF (hF:Be s F) (hm:P.follows .mixedOrders=true) {b:List Nat} (hb:eQ ops.toList=b) (h:DWp P F ops.toList b (mM 0 ops.toList) [] env s [] [] (fun e s'=>Q .norm e s')):CWp P (.region id ops true) env s Q:=by
 obtain ⟨e,s',m,r,h1,h2,h3⟩:=h.ex;subst hb;exact .draw hm hF h1 (by simpa using h2) h3
end
def dN {α:Type} (f:α→D):List α→D
 | [] => .nilsl
 | x::xs => .sl ((x::xs).map f)
section
variable {P:Program} {env:Env} {s:S} {dst:Option Nat} {ty:TypeId} {pos:String} {af:Array Edge} {gd:Option (Nat×Bool)} {α:Type} {f:α→D} {xs ys:List α} {x:Operand} {t t' e:TypeId}
theorem rtN {t:Nat} {x:D} (h:look env t=some (.d x)) {c:List (Option Loc)} (hc:s.chg=c) {x':D} (hx:x=x'):Returns P [.tmp t] env s ⟨.d x',c⟩:=by
 subst hc hx;exact ⟨.inr (.inl ⟨t,x,rfl,h,rfl⟩)⟩
theorem neN (hx:ay (look env) x=some (.d (dN f xs))) (ht:P.underlying t=some (.slice e)):iJ P env s ⟨dst, .binOp .neq t x (.const (.slice none 0 0)) t',ty,pos,af,gd⟩ (.d (.bool (!xs.isEmpty))) .same :=
 .of (bc P) rfl fun _ _=>by
  have hy:ay (look env) (.const (.slice none 0 0))=some (.d .nilsl):=rfl;cases xs<;>simp [nT,hx,hy,dN,lW,La,bc,ht,Dj]
end
theorem leM {s s':S} {id:Id} {kt:TypeId} {es:List (D×D)} (hb:zH s id (.map kt false es)) (hl:KH s id (.map kt true es) s'):Ie s (.mref id) (.d (.mp kt es)) (some s'):=⟨by
 simp [S.yt,hb.h,hl.h]⟩
end Go.Lx
set_option linter.all false
namespace Go.Lx
open Go.RowKit Go.Proofs
def ins (x:Int):List Int→List Int
 | []=>[x]
 | y::ys=>if x≤y then x::y::ys else y::ins x ys
end Go.Lx
namespace Go.Proofs
open Go.RowKit Go.Maps Go.Sort Go.Shelf Go.Lx
variable {P:Program} {ρ:Ren}
end Go.Proofs
set_option linter.all false
namespace Go.Lx
open Go.RowKit Go.Proofs
end Go.Lx
set_option linter.all false
namespace Go.Lx
section
variable {P:Program}
theorem PT (w:World) (ty:TypeId) (bm r since c0:Nat) (seen:Array Nat) (es:Array MapEntry) (clock:Nat) (hr:w.heap[r]?=some (.mapIter (some bm) since seen c0)) (hb:w.heap[bm]?=some (.map es clock))
  (hold:∀ x∈es.toList,x.born < since) (hsc:since≤c0) :
  ((leftOf es seen).size=0∧(Instr.next (.pointer (some ⟨r,0,none⟩)) false ty).run P w = .ok (.tuple #[.bool false]) w) ∨
  ∃ e∈(leftOf es seen).toList,∃ w1:World,w1.heap=w.heap.setIfInBounds r (.mapIter (some bm) since (seen.push e.born) clock)∧w1.os=w.os∧w1.tape=w.tape∧w1.output=w.output ∧
   (Instr.next (.pointer (some ⟨r,0,none⟩)) false ty).run P w = .ok (.tuple #[.bool true,e.key,e.val]) w1:=by
 simp only [Instr.next,getObj,Sem.run_bind,Sem.run,hr,hb,Result.andThen,next_test_false seen es since c0 hold hsc,aN,aI];unfold leftOf;have hmem:∀ x∈(Array.filter (fun e=>!seen.contains e.born) es).toList,x.born < since:=fun x hx=>hold x (by simp at hx ⊢;exact hx.1)
 generalize Array.filter (fun e=>!seen.contains e.born) es=L at hmem ⊢;have e1:L.filter (fun x=>decide (x.born < since))=L:=Array.filter_eq_self.2 (fun x hx=>by simpa using hmem x (by simpa using hx));have e2:L.filter (fun x=>decide (x.born≥since))=#[]:=by
  rw [Array.filter_eq_empty_iff];intro x hx;have:=hmem x (by simpa using hx);simp;omega
 simp only [e1,e2,Array.append_empty];by_cases h0:L.size=0
 ·left;have:L=#[]:=fQ h0;subst this;refine ⟨rfl,?_⟩;simp [choose,Sem.run,Question.forced]
 ·right;have hne:L.isEmpty=false:=by simp [Array.isEmpty,h0]
  simp only [hne,aN,aI,Array.empty_append,Array.size_map];have hch:∃ (j:Nat) (w1:World),j < L.size∧(w1.heap=w.heap∧w1.os=w.os∧w1.tape=w.tape∧w1.output=w.output)∧(choose (Question.mapNext L.size)).run P w = .ok j w1:=by
   by_cases hf:L.size≤1
   ·exact ⟨0,w,by omega,⟨rfl,rfl,rfl,rfl⟩,by simp [choose,Sem.run,Question.forced,hf]⟩
   ·exact ⟨_,w.drew,Nat.mod_lt _ (by omega),⟨rfl,rfl,rfl,rfl⟩,by
     simp only [choose,Sem.run,Question.forced,iq,hf,aI,Question.cut];rfl⟩
  obtain ⟨j,w1,hj,⟨a1,a2,a3,a4⟩,hrun⟩:=hch;have hset:∀ (o':Obj),(setObj r o').run P w1 = .ok () { w1 with heap:=w1.heap.setIfInBounds r o' }:=fun o'=>by
   simp only [setObj,Sem.run];rw [a1,hr]
  refine ⟨L[j],by simp,{ w1 with heap:=w1.heap.setIfInBounds r (.mapIter (some bm) since (seen.push L[j].born) clock) },by simp only [a1],a2,a3,a4,?_⟩;simp only [hrun,Array.getElem?_map,bI hj,jT,Sem.run_bind,hset,Result.andThen];rfl
theorem N9 (w:World) (bm r since:Nat) (seen:Array Nat) (es:Array MapEntry) (clock:Nat) (e:MapEntry) (hr:w.heap[r]?=some (.mapIter (some bm) since (seen.push e.born) clock)) (hb:w.heap[bm]?=some (.map es clock)) (he:e∈es.toList) (hn:(es.toList.map (·.born)).Nodup) :
  (Instr.entry (.pointer (some ⟨r,0,none⟩))).run P w = .ok (.tuple #[e.key,e.val]) w:=by
 have hf:es.find? (·.born==e.born)=some e:=by rw [← Array.find?_toList];exact find_born e es.toList hn he
 simp only [Instr.entry,getObj,Sem.run_bind,Sem.run,hr,hb,Result.andThen,Array.back?_push,bne_self_eq_false,aN,aI,hf];rfl
theorem QM (s:S) (l:Loc):(⟨[],s.loc::s.cur,[some l]⟩:S).get=(⟨l,s.out,s.chg⟩:S).get:=by
 have h:=AZ (⟨l,s.out,s.chg⟩:S);rw [← h]
 funext i
 have c1:(⟨[],s.loc::s.cur,[some l]⟩:S).cur=l::s.cur:=by show jP _ _=_;simp [jP]
 have c2:(uz (l::s.cur)).cur=l::s.cur:=by show jP _ _=_;simp [jP,uz]
 show S.get ⟨[],s.loc::s.cur,[some l]⟩ i=S.get (uz (l::s.cur)) i
 unfold S.get;rw [c1,c2];rfl
theorem JR {V:View} {h:Id→Option Blk} {μ:Id→Pl} {w:World} (I:Inv P V h μ w) {r:Nat} (hr:∀ o,w.heap[r]?=some o→(∀ c e g,o ≠ .cells c e g)∧∀ e c,o ≠ .map e c):¬ oq h μ r:=by
 rintro ⟨i,x,hx,hnn,rfl⟩
 have B:=I.blk i x hx;cases x with
 | arr sz xJ xs =>
  rcases B with B | ⟨_,_,_,_,cells,elem,h5,_⟩
  ·rw [hnn] at B;cases B.1
  ·exact (hr _ h5).1 _ _ _ rfl
 | box cs=>obtain ⟨_,_,cells,elem,h5,_⟩:=B;exact (hr _ h5).1 _ _ _ rfl
 | map kt xJ es=>obtain ⟨_,_,en,h5,_⟩:=B;exact (hr _ h5).2 _ _ rfl
 | nest sz xs =>
  rcases B with B | ⟨_,_,_,cells,elem,h5,_⟩
  ·rw [hnn] at B;cases B.1
  ·exact (hr _ h5).1 _ _ _ rfl
 | fam _=>exact B.elim
 | gap=>exact absurd (hnn.symm.trans B) (by simp)
 | tail sz g xs =>
  rcases B with B | ⟨_,_,_,cells,elem,h5,_⟩
  ·rw [hnn] at B;cases B.1
  ·exact (hr _ h5).1 _ _ _ rfl
structure StV (P:Program) (O:nY) (V:View) (μ:Id→Pl) (env:Env) (s:S) (a:Act) (w:World):Prop where
 I:Inv P V s.get μ w
 R:pM P V s.get μ env a.tmps
 E:Evo O.V O.h O.μ O.w V s.get μ w
 out:s.out=O.out
 n:a.tmps.size=O.n
 df:a.defers=[]
theorem StV.st {O:nY} {V:View} {μ:Id→Pl} {env:Env} {s:S} {a:Act} {w:World} (T:StV P O V μ env s a w):St P O env s a w:=⟨V,μ,T.I,T.R,T.E,T.out,T.n,T.df⟩
theorem St.v {O:nY} {env:Env} {s:S} {a:Act} {w:World} (T:St P O env s a w):∃ V μ,StV P O V μ env s a w:=by
 obtain ⟨V,μ,I,R,E,h1,h2,h3⟩:=T;exact ⟨V,μ,I,R,E,h1,h2,h3⟩
theorem StV.down {O:nY} {V:View} {μ:Id→Pl} {env:Env} {s:S} {a:Act} {w:World} (T:StV P O V μ env s a w):∃ O':nY,O'.n=O.n∧St P O' env ⟨[],s.loc::s.cur,[]⟩ a w ∧
  ∀ (env':Env) (loc':Loc) (a':Act) (w':World),St P O' env' ⟨[],s.loc::s.cur,[some loc']⟩ a' w' →
   ∃ V' μ',StV P O V' μ' env' ⟨loc',s.out,s.chg⟩ a' w'∧V.Le V'∧(∀ b,b < w.heap.size→¬ oq s.get μ b→w'.heap[b]?=w.heap[b]?):=by
 have hg:(uz (s.loc::s.cur)).get=s.get:=AZ s;have low:∀ i b,s.get i=some b→i.d < (s.loc::s.cur).length:=by
  intro i b h;have:=S.uN h;have e:s.cur.length=s.out.length:=uj _ _
  show i.d < s.cur.length+1
  rw [e]
  show i.d < s.dep+1
  omega
 refine ⟨⟨V,s.get,μ,w,s.loc::s.cur,O.n,low⟩,rfl,⟨V,μ,by show Inv P V (uz (s.loc::s.cur)).get μ w;rw [hg];exact T.I,by show pM P V (uz (s.loc::s.cur)).get μ env a.tmps;rw [hg];exact T.R,?_,rfl,T.n,T.df⟩,?_⟩
 ·show Evo V s.get μ w V (uz (s.loc::s.cur)).get μ w
  rw [hg];exact .refl _ _ _ _
 ·intro env' loc' a' w' T';obtain ⟨V',μ',I',R',E',hdep',hn',hdf'⟩:=T';rw [QM] at I' R' E';exact ⟨V',μ',⟨I',R',T.E.trans E',T.out,hn',hdf'⟩,E'.view,E'.rest⟩
theorem StV.other {O:nY} {V:View} {μ:Id→Pl} {env:Env} {s:S} {a:Act} {w w':World} (T:StV P O V μ env s a w) {r:Nat} (hr:∀ o,w.heap[r]?=some o→(∀ c e g,o ≠ .cells c e g)∧∀ e c,o ≠ .map e c) (hO:O.w.heap.size≤r)
  (hh:∀ b,b≠r→b < w.heap.size→w'.heap[b]?=w.heap[b]?) (hsz:w.heap.size≤w'.heap.size) (hos:w'.os=w.os) (htp:w'.tape=w.tape) (hout:w'.output=w.output):StV P O V μ env s a w':=by
 have hno:=JR T.I hr;have cell:∀ b c v,V.cell b c v→w'.cell? ⟨b,c,none⟩=some v:=by
  intro b c v hv;have h1:=T.I.cell b c v hv;have h2:b < w.heap.size:=World.block_lt_of_cell? w _ h1;have h3:b≠r:=by
   intro e;subst e;unfold World.cell? at h1;cases hq:w.heap[b]? with
   | none=>simp [hq] at h1
   | some o =>
    simp only [hq] at h1;cases o with
    | cells cs e g=>exact (hr _ hq).1 _ _ _ rfl
    | _=>simp at h1
  rw [← h1];unfold World.cell?;simp only [hh b h3 h2]
 have map:∀ q e c,V.map q e c→w'.heap[q]?=some (.map e c):=by
  intro q e c hv;have h1:=T.I.map q e c hv;have h3:q≠r:=fun e'=>(hr _ (e' ▸ h1)).2 _ _ rfl
  rw [hh q h3 (aO.1 h1).1,h1]
 refine ⟨T.I.frame (fun b ho=>hh b (fun e=>hno (e ▸ ho)) (ho.lt T.I)) (.refl V) (fun _ _ _ h _=>h) (fun _ _ _ h _=>h) cell map,T.R,?_,T.out,T.n,T.df⟩;have E:=T.E;refine ⟨hos.trans E.os,htp.trans E.tape,hout.trans E.output,Nat.le_trans E.size hsz,fun b hb hnb=>?_,E.view,E.newc,E.newm,E.place,E.keep⟩;rw [hh b (by omega) (Nat.lt_of_lt_of_le hb E.size)];exact E.rest b hb hnb
theorem StV.sub {O:nY} {V:View} {μ:Id→Pl} {env env':Env} {s:S} {a:Act} {w:World} (T:StV P O V μ env s a w) (h:∀ t v,look env' t=some v→look env t=some v):StV P O V μ env' s a w :=
 ⟨T.I,fun t v hv=>T.R t v (h t v hv),T.E,T.out,T.n,T.df⟩
theorem StV.Si {O:nY} {V:View} {μ:Id→Pl} {env:Env} {s:S} {a:Act} {w:World} (T:StV P O V μ env s a w) {t:Nat} (cv:Value) (ht:look env t=none):StV P O V μ env s (a.put (some t) cv) w:=by
 refine ⟨T.I,fun q v hv=>?_,T.E,T.out,by rw [qQ];exact T.n,by rw [put_defers];exact T.df⟩;have hne:q≠t:=fun e=>by rw [e,ht] at hv;cases hv
 have:(a.put (some t) cv).tmps.getD q undef=a.tmps.getD q undef:=by simp [Act.put,iQ (fun e=>hne e.symm)]
 rw [this];exact T.R q v hv
theorem StV.Va {O:nY} {V:View} {μ:Id→Pl} {env:Env} {s:S} {a:Act} {w:World} (T:StV P O V μ env s a w) {t:Nat} {cv:Value} {v:A} (ht:t < O.n) (H:iI P V s.get μ v cv):StV P O V μ (yB (some t) v env) s (a.put (some t) cv) w :=
 ⟨T.I,T.R.put (fun d hd=>by cases hd;rw [T.n];exact ht) H,T.E,T.out,by rw [qQ];exact T.n,by rw [put_defers];exact T.df⟩
theorem yC {a:Act} {t:Nat} {cv:Value} (h:t < a.tmps.size):(a.put (some t) cv).eval (.tmp t)=cv:=by simp [Act.put,Act.eval,h]
theorem xA {a:Act} {t q:Nat} {cv:Value} (h:q≠t):(a.put (some t) cv).eval (.tmp q)=a.eval (.tmp q):=by simp [Act.put,Act.eval,iQ (fun e=>h e.symm)]
end
def vV {σ α:Type} (step:σ→α→Option σ):σ→List α→Option σ
 | x,[]=>some x
 | x,e::es=>match step x e with | some x'=>vV step x' es | none=>none
theorem Fa {σ α:Type} {step:σ→α→Option σ}:∀ (xs bs:List α) (x:σ),vV step x (xs++bs)=(vV step x xs).bind fun x'=>vV step x' bs
 | [],bs,x=>rfl
 | a::xs,bs,x=>by
  rw [List.cons_append,vV,vV];cases step x a with
  | none=>rfl
  | some x'=>exact Fa xs bs x'
def MV (w:World) (r n:Nat):Nat:=match w.heap[r]? with | some (.mapIter _ _ s _)=>n - s.size | _=>0
section
variable {P:Program} {σ:Type}
theorem wpo {ops:Array Oper} {Q:Exit→Act→World→Prop} {i:Nat} {rest:List Nat} {a:Act} {w:World} {o:Oper} (ho:ops[i]?=some o) (hg:o.guard=none) (h:o.wp P a w (wpOps P ops Q rest) Q):wpOps P ops Q (i::rest) a w:=by
 unfold wpOps;simp only [ho,Region.wanted,hg,aS];exact .inl h
theorem TI {d:Option Nat} {x:Operand} {ty:TypeId} {p:String} {af:Array Edge} {g:Option (Nat×Bool)} {a:Act} {w:World} {K:Act→World→Prop} {Q:Exit→Act→World→Prop} (h:K (a.put d (a.eval x)) w):(⟨d, .move x,ty,p,af,g⟩:Oper).wp P a w K Q :=
 Qj (c:=SQ P) (cv:=a.eval x) (by simp [execOp]) h
theorem Ko {d:Option Nat} {x:Operand} {ty:TypeId} {p:String} {af:Array Edge} {g:Option (Nat×Bool)} {a:Act} {w:World} {K:Act→World→Prop} {Q:Exit→Act→World→Prop} (h:K (a.put d (a.eval x)) w):(⟨d, .assign x,ty,p,af,g⟩:Oper).wp P a w K Q :=
 Qj (c:=SQ P) (cv:=a.eval x) (by simp [execOp]) h
theorem RD {d:Option Nat} {T:TypeId} {x:Operand} {ty:TypeId} {p:String} {af:Array Edge} {g:Option (Nat×Bool)} {a:Act} {w w':World} {cv v:Value} {K:Act→World→Prop} {Q:Exit→Act→World→Prop} (hx:a.eval x=v)
  (hr:(Instr.range T v).run P w = .ok cv w') (h:K (a.put d cv) w'):(⟨d, .range T x,ty,p,af,g⟩:Oper).wp P a w K Q :=
 Qk (c:=SQ P) (m:=Instr.range T v) (by simp only [execOp,hx]) hr h
theorem Qa {d:Option Nat} {x:Operand} {b:Bool} {ty:TypeId} {p:String} {af:Array Edge} {g:Option (Nat×Bool)} {a:Act} {w w':World} {cv v:Value} {K:Act→World→Prop} {Q:Exit→Act→World→Prop} (hx:a.eval x=v)
  (hr:(Instr.next v b ty).run P w = .ok cv w') (h:K (a.put d cv) w'):(⟨d, .next x b,ty,p,af,g⟩:Oper).wp P a w K Q :=
 Qk (c:=SQ P) (m:=Instr.next v b ty) (by simp only [execOp,hx]) hr h
theorem Rz {d:Option Nat} {x:Operand} {ty:TypeId} {p:String} {af:Array Edge} {g:Option (Nat×Bool)} {a:Act} {w w':World} {cv v:Value} {K:Act→World→Prop} {Q:Exit→Act→World→Prop} (hx:a.eval x=v)
  (hr:(Instr.entry v).run P w = .ok cv w') (h:K (a.put d cv) w'):(⟨d, .entry x,ty,p,af,g⟩:Oper).wp P a w K Q :=
 Qk (c:=SQ P) (m:=Instr.entry v) (by simp only [execOp,hx]) hr h
theorem zU {d:Option Nat} {x:Operand} {i:Nat} {ty:TypeId} {p:String} {af:Array Edge} {g:Option (Nat×Bool)} {a:Act} {w:World} {vs:Array Value} {v:Value} {K:Act→World→Prop} {Q:Exit→Act→World→Prop} (hx:a.eval x = .tuple vs)
  (hv:vs[i]?=some v) (h:K (a.put d v) w):(⟨d, .extract x i,ty,p,af,g⟩:Oper).wp P a w K Q :=
 Qk (c:=SQ P) (m:=Instr.extract (.tuple vs) i) (by simp only [execOp,hx]) (by simp [Instr.extract,hv]) h
theorem Ht {n:Nat} {is:List Nat} (h1:is.Nodup) (h2:∀ i,i∈is→i < n) (h3:∀ i,i < n→i∈is):is.Perm (List.range n):=by
 rw [List.perm_ext_iff_of_nodup h1 List.nodup_range];intro a;rw [kP];exact ⟨h2 a,h3 a⟩
theorem JX {α:Type} (es:List α):(List.range es.length).filterMap (fun i=>es[i]?)=es:=by
 have:∀ (n:Nat),n≤es.length→(List.range n).filterMap (fun i=>es[i]?)=es.take n:=by
  intro n
  induction n with
  | zero=>intro _;simp
  | succ n ih =>
   intro h;have e1:es[n]?=some es[n]:=by simp [show n < es.length by omega]
   rw [List.range_succ,List.filterMap_append,ih (by omega),List.filterMap_cons,e1,List.filterMap_nil,List.take_succ,e1];rfl
 rw [this _ (bu _),List.take_length]
theorem CWp.Tq {T kT eT ta ti tn tb te tk0 tv0 tk tv tm r1 r2 r3 bid b1:Nat} {y0 y1 y2 y3 y4 y5 y6 y7 y8:TypeId} {p0 p1 p2 p3 p4 p5 p6 p7 p8:String} {f0 f1 f2 f3 f4 f5 f6 f7 f8:Array Edge} {B:Code}
  {out:Out} {chg:List (Option Loc)} {env:Env} {s:S} {Q:Ex→Env→S→Prop} (kt:TypeId) (es:List (D×D)) (E:σ→Env) (L:σ→Loc) (step:σ→D×D→Option σ) {x0 y:σ}
  (hT:P.underlying T=some (.map kT eT)) (hm0:ay (look env) (.tmp tm)=some (.d (.mp kt es)))
  (hs:s=⟨L x0,out,chg⟩) (hE0:∀ t v,look (E x0) t=some v→look env t=some v)
  (hfold:∀ es':List (D×D),es'.Perm es→vV step x0 es'=some y)
  (fresh:∀ x t,t∈[ta,ti,tn,tb,te,tk0,tv0,tk,tv]→look (E x) t=none) (hne:[ta,ti,tn,tb,te,tk0,tv0,tk,tv].Nodup)
  (body:∀ (r:Nat) (x:σ) (kv:D×D) (x':σ),kv∈es→step x kv=some x' →
   CWp P B (yB (some tv) (.d kv.2) (yB (some tk) (.d kv.1) (yB (some ti) (.iter r) (E x)))) ⟨[],L x::jP out chg,[]⟩ (fun ex e' s'=>ex = .norm∧s'=⟨[],L x::jP out chg,[some (L x')]⟩ ∧
    ∀ t v,look (yB (some ti) (.iter r) (E x')) t=some v→look e' t=some v))
  (fin:Q .norm (E y) ⟨L y,out,chg⟩) :
  CWp P (.seq (.region r1 #[⟨some ta, .move (.tmp tm),y0,p0,f0,none⟩,⟨some ti, .range T (.tmp ta),y1,p1,f1,none⟩] false) (.block bid (.loop
   (.seq (.region r2 #[⟨some tn, .next (.tmp ti) false,y2,p2,f2,none⟩,⟨some tb, .extract (.tmp tn) 0,y3,p3,f3,none⟩] false) (.seq (.cond (.tmp tb) .skip (.exit bid)) (.block b1
    (.seq (.region r3 #[⟨some te, .entry (.tmp ti),y4,p4,f4,none⟩,⟨some tk0, .extract (.tmp te) 0,y5,p5,f5,none⟩,⟨some tv0, .extract (.tmp te) 1,y6,p6,f6,none⟩,⟨some tk, .assign (.tmp tk0),y7,p7,f7,none⟩,⟨some tv, .assign (.tmp tv0),y8,p8,f8,none⟩] false) B)))))))
   env s Q:=by
 refine ⟨fun O a w hc T0=>wp_seq ?_⟩;simp only [codeOk,xh,bF,List.all_cons,List.all_nil,iq,Bool.and_true] at hc;obtain ⟨⟨hca,hci⟩,⟨hcn,hcb⟩,⟨_,_⟩,⟨hce,hck0,hcv0,hck,hcv⟩,hcB⟩:=hc;simp only [List.nodup_cons,iM,List.not_mem_nil,or_false,not_or,List.nodup_nil,and_true,bQ] at hne;obtain ⟨Vo,μo,T1⟩:=T0.v;have hmv:=(T1.R.operand (.tmp tm) _ hm0).dOf;generalize hvm:a.eval (.tmp tm)=vm at hmv;cases hmv with
 | mp _ _ rm en clock hm hn hk hv ho hcl hbn =>
 have hheap:=T1.I.map _ _ _ hm;have fr:∀ x t,t∈[ta,ti,tn,tb,te,tk0,tv0,tk,tv]→look (E x) t=none:=fresh
 have hsz:a.tmps.size=O.n:=T1.n;have hst:∀ {a:Act} {w:World} {V:View} {μ:Id→Pl} {env:Env} {s:S},StV P O V μ env s a w→a.tmps.size=O.n:=fun T=>T.n
 obtain ⟨r,hrw⟩:∃ r,w.heap.size=r:=⟨_,rfl⟩
 refine wp_region ?_;refine wpo (o:=⟨some ta, .move (.tmp tm),y0,p0,f0,none⟩) rfl rfl (TI ?_);rw [hvm];have ev1:(a.put (some ta) (.map (some rm))).eval (.tmp ta) = .map (some rm):=yC (by rw [hsz];exact hca);have hrange:=run_range_map (P:=P) w T kT eT rm en clock hT hheap;refine wpo (o:=⟨some ti, .range T (.tmp ta),y1,p1,f1,none⟩) rfl rfl (RD ev1 hrange ?_);rw [hrw];have hnew:∀ o,w.heap[r]?=some o→(∀ c e g,o ≠ .cells c e g)∧∀ e c,o ≠ .map e c:=by
  intro o ho;rw [← hrw] at ho;simp at ho
 have hOr:O.w.heap.size≤r:=by rw [← hrw];exact T1.E.size
 have T2:=(T1.sub hE0).Si (t:=ta) (.map (some rm)) (fr x0 ta (by simp));have T3:=T2.other (w':=w.alloc (.mapIter (some rm) clock #[] clock)) hnew hOr (fun b _ hb=>RowKit.Below.heap_alloc w _ b hb) (by simp) rfl rfl rfl;have T4:=T3.Va (t:=ti) (cv := .pointer (some ⟨r,0,none⟩)) hci (.iter r);subst hs;have hit0:(w.alloc (.mapIter (some rm) clock #[] clock)).heap[r]?=some (.mapIter (some rm) clock #[] clock):=by rw [← hrw];exact heap_alloc_new w _
 have hlen:en.toList.length=es.length:=by simpa using hn
 have hold:∀ m∈en.toList,m.born < clock:=by
  intro m hmm;obtain ⟨i,hi,rfl⟩:=List.getElem_of_mem hmm;have:=hbn i en[i] (by simp at hi;simp [hi]);simp only [Array.getElem_toList];rw [this,hcl];omega
 have hbd:(en.toList.map (·.born)).Nodup:=by
  have:en.toList.map (·.born)=List.range en.size:=by
   apply List.ext_getElem
   ·simp
   ·intro i h1 h2;simp at h1;simp only [List.getElem_map,Array.getElem_toList,List.getElem_range];exact hbn i en[i] (by simp [h1])
  rw [this];exact List.nodup_range
 show Code.wp P _ _ _ _
 refine wp_block (wp_loop (fun a w=>∃ (V:View) (μ:Id→Pl) (x:σ) (is:List Nat) (seen:Array Nat) (c0:Nat),StV P O V μ (yB (some ti) (.iter r) (E x)) ⟨L x,out,chg⟩ a w∧Vo.Le V∧w.heap[r]?=some (.mapIter (some rm) clock seen c0)∧clock≤c0 ∧
  seen.toList=is∧is.Nodup∧(∀ i∈is,i < es.length)∧vV step x0 (is.filterMap fun i=>es[i]?)=some x) (fun _ w=>MV w r es.length) ⟨Vo,μo,x0,[],#[],clock,T4, .refl _,hit0,bu _,rfl, .nil,by simp,rfl⟩ ?_)
 clear T4 T3 T2 T1 T0 hit0 hnew hrange ev1 hheap hsz
 rintro a w ⟨V,μ,x,is,seen,c0,T,hle,hit,hc0,hseen,hnd,hlt,hfo⟩
 have hheap:=T.I.map _ _ _ (hle.map _ _ _ hm);have hsz:a.tmps.size=O.n:=T.n;have evi:a.eval (.tmp ti) = .pointer (some ⟨r,0,none⟩):=by
  have h:=T.R ti (.iter r) (by simp [yB,look]);generalize hq:a.tmps.getD ti undef=q at h;cases h;exact hq
 have hnr:∀ o,w.heap[r]?=some o→(∀ c e g,o ≠ .cells c e g)∧∀ e c,o ≠ .map e c:=by
  intro o ho;rw [hit] at ho;cases ho;exact ⟨fun _ _ _ h=>(by cases h),fun _ _ h=>(by cases h)⟩
 have lk:∀ t,t∈[tn,tb,te,tk0,tv0,tk,tv]→t≠ti→look (yB (some ti) (.iter r) (E x)) t=none:=by
  intro t ht hti;simp only [yB,look,if_neg hti];exact fr x t (List.mem_cons_of_mem _ (List.mem_cons_of_mem _ ht))
 refine wp_seq <|wp_region ?_;rcases PT (P:=P) w y2 rm r clock c0 seen en clock hit hheap hold hc0 with ⟨hl0,hrun⟩ | ⟨e,he,w1,hh1,ho1,ht1,hu1,hrun⟩
 ·
  refine wpo (o:=⟨some tn, .next (.tmp ti) false,y2,p2,f2,none⟩) rfl rfl (Qa evi hrun ?_);refine wpo (o:=⟨some tb, .extract (.tmp tn) 0,y3,p3,f3,none⟩) rfl rfl (zU (vs:=#[.bool false]) (v := .bool false) (yC (by rw [hsz];exact hcn)) rfl ?_);have T5:=(T.Si (t:=tn) (.tuple #[.bool false]) (lk tn (by simp) (by intro e;simp [e] at hne))).Si (t:=tb) (.bool false) (lk tb (by simp) (by intro e;simp [e] at hne));have hall:∀ i,i < es.length→i∈is:=by
   intro i hi;have hie:i < en.size:=by rw [hn];exact hi
   have h1:¬ en[i]∈leftOf en seen:=by
    intro h;have:=Array.size_pos_of_mem h;omega
   unfold leftOf at h1;rw [Array.mem_filter] at h1;have h2:seen.contains en[i].born=true:=by
    rcases Bool.eq_false_or_eq_true (seen.contains en[i].born) with q | q
    ·exact q
    ·exact absurd ⟨Array.getElem_mem hie,by simpa using q⟩ h1
   rw [hbn i en[i] (by simp [hie])] at h2;rw [← hseen];simpa using h2
  have hx:x=y:=by
   have p:=(Ht hnd hlt hall).filterMap (fun i=>es[i]?);rw [JX] at p;have:=hfold _ p;rw [hfo] at this;exact jo this
  subst hx
  show Code.wp P _ _ _ _
  refine wp_seq (wp_cond_false (yC (by rw [qQ,hsz];exact hcb)) (wp_exit ?_));simp only [Exit.then,Exit.inBlock,aS];refine ⟨.norm,E x,⟨L x,out,chg⟩,rfl,(T5.sub fun t v hv=>?_).st,fin⟩;have:t≠ti:=fun e=>by rw [e,fr x ti (by simp)] at hv;cases hv
  simp only [yB,look,if_neg this,hv]
 ·
  obtain ⟨hemem,hnot⟩:e∈en∧¬ seen.contains e.born=true:=by
   have:e∈leftOf en seen:=by simpa using he
   unfold leftOf at this;rw [Array.mem_filter] at this;exact ⟨this.1,by simpa using this.2⟩
  obtain ⟨i,hie,hei⟩:=Array.getElem_of_mem hemem;have hil:i < es.length:=by rw [← hn];exact hie
  have hborn:e.born=i:=by rw [← hei];exact hbn i en[i] (by simp [hie])
  have hiis:¬ i∈is:=by
   intro h;apply hnot;rw [hborn];rw [← hseen] at h;simpa using h
  obtain ⟨rest,hperm⟩:∃ rest:List Nat,(is++i::rest).Perm (List.range es.length):=by
   refine ⟨(List.range es.length).filter fun j=>!(i::is).contains j,Ht ?_ ?_ ?_⟩
   ·rw [List.nodup_append];refine ⟨hnd,List.nodup_cons.2 ⟨by simp,List.nodup_range.filter _⟩,?_⟩;intro q hq p hp e;subst e;rcases iM.1 hp with rfl | hp
    ·exact hiis hq
    ·rw [List.mem_filter] at hp;have:=hp.2;simp [hq] at this
   ·intro q hq;rcases aU.1 hq with hq | hq
    ·exact hlt q hq
    ·rcases iM.1 hq with rfl | hq
     ·exact hil
     ·exact kP.1 (List.mem_filter.1 hq).1
   ·intro q hq;by_cases h1:q∈is
    ·exact aU.2 (.inl h1)
    ·by_cases h2:q=i
     ·subst h2;exact aU.2 (.inr (.head _))
     ·exact aU.2 (.inr (.tail _ (List.mem_filter.2 ⟨kP.2 hq,by simp [h1,h2]⟩)))
  have hcnt:is.length+(rest.length+1)=es.length:=by simpa using hperm.length_eq
  obtain ⟨x',hx'⟩:∃ x',step x es[i]=some x':=by
   have p:=hperm.filterMap (fun i=>es[i]?);rw [JX,List.filterMap_append,List.filterMap_cons] at p;have e1:es[i]?=some es[i]:=by simp [hil]
   rw [e1] at p;have:=hfold _ p;rw [Fa,hfo] at this;simp only [ag,vV] at this;cases hq:step x es[i] with
   | none=>rw [hq] at this;cases this
   | some x'=>exact ⟨x',rfl⟩
  have hrlt:r < w.heap.size:=(aO.1 hit).1;have T1:=T.other (w':=w1) hnr hOr (fun b hb _=>by rw [hh1];exact iQ (fun e=>hb e.symm)) (by rw [hh1];simp) ho1 ht1 hu1;have hit1:w1.heap[r]?=some (.mapIter (some rm) clock (seen.push e.born) clock):=by rw [hh1];exact Array.getElem?_setIfInBounds_self_of_lt hrlt
  have hheap1:=T1.I.map _ _ _ (hle.map _ _ _ hm);refine wpo (o:=⟨some tn, .next (.tmp ti) false,y2,p2,f2,none⟩) rfl rfl (Qa evi hrun ?_);refine wpo (o:=⟨some tb, .extract (.tmp tn) 0,y3,p3,f3,none⟩) rfl rfl (zU (vs:=#[.bool true,e.key,e.val]) (v := .bool true) (yC (by rw [hsz];exact hcn)) rfl ?_);have T5:=(T1.Si (t:=tn) (.tuple #[.bool true,e.key,e.val]) (lk tn (by simp) (by intro e;simp [e] at hne))).Si (t:=tb) (.bool true) (lk tb (by simp) (by intro e;simp [e] at hne))
  show Code.wp P _ _ _ _
  refine wp_seq (wp_cond_true (yC (by rw [qQ,hsz];exact hcb)) (wp_skip ?_))
  show Code.wp P _ _ _ _
  refine wp_block (wp_seq (wp_region ?_));have hs5:=T5.n;have evi5:((a.put (some tn) (.tuple #[.bool true,e.key,e.val])).put (some tb) (.bool true)).eval (.tmp ti) = .pointer (some ⟨r,0,none⟩):=by
   rw [xA (by intro e;simp [e] at hne),xA (by intro e;simp [e] at hne),evi]
  generalize (a.put (some tn) (.tuple #[.bool true,e.key,e.val])).put (some tb) (.bool true)=a5 at T5 hs5 evi5 ⊢;have hent:=N9 (P:=P) w1 rm r clock seen en clock e hit1 hheap1 (by simpa using hemem) hbd;refine wpo (o:=⟨some te, .entry (.tmp ti),y4,p4,f4,none⟩) rfl rfl (Rz evi5 hent ?_);refine wpo (o:=⟨some tk0, .extract (.tmp te) 0,y5,p5,f5,none⟩) rfl rfl (zU (vs:=#[e.key,e.val]) (v:=e.key) (yC (by rw [hs5];exact hce)) rfl ?_);refine wpo (o:=⟨some tv0, .extract (.tmp te) 1,y6,p6,f6,none⟩) rfl rfl (zU (vs:=#[e.key,e.val]) (v:=e.val) (by rw [xA (by intro e;simp [e] at hne)];exact yC (by rw [hs5];exact hce)) rfl ?_);refine wpo (o:=⟨some tk, .assign (.tmp tk0),y7,p7,f7,none⟩) rfl rfl (Ko ?_);refine wpo (o:=⟨some tv, .assign (.tmp tv0),y8,p8,f8,none⟩) rfl rfl (Ko ?_);have hkv:=hk i es[i] e (by simp [hil]) (by simp [hie,hei]);have hvv:=hv i es[i] e (by simp [hil]) (by simp [hie,hei]);have v1:(((a5.put (some te) (.tuple #[e.key,e.val])).put (some tk0) e.key).put (some tv0) e.val).eval (.tmp tk0)=e.key:=by
   rw [xA (by intro e;simp [e] at hne)];exact yC (by rw [qQ,hs5];exact hck0)
  have v2:((((a5.put (some te) (.tuple #[e.key,e.val])).put (some tk0) e.key).put (some tv0) e.val).put (some tk) e.key).eval (.tmp tv0)=e.val:=by
   rw [xA (by intro e;simp [e] at hne)];exact yC (by rw [qQ,qQ,hs5];exact hcv0)
  rw [v1,v2];have T6:=((T5.Si (t:=te) (.tuple #[e.key,e.val]) (lk te (by simp) (by intro e;simp [e] at hne))).Si (t:=tk0) e.key (lk tk0 (by simp) (by intro e;simp [e] at hne))).Si (t:=tv0) e.val (lk tv0 (by simp) (by intro e;simp [e] at hne));have T7:=(T6.Va (t:=tk) (cv:=e.key) hck (.d _ _ (hkv.mono hle))).Va (t:=tv) (cv:=e.val) hcv (.d _ _ (hvv.mono hle));obtain ⟨O',hn',TO,back⟩:=T7.down
  show Code.wp P _ _ _ _
  refine Code.wp_mono ?_ ((body r x es[i] x' (dM hil) hx').ok O' _ w1 (by rw [hn'];exact hcB) TO)
  rintro e1 a1 w2 ⟨ex,e',s',rfl,TS,rfl,rfl,hsub⟩
  obtain ⟨V',μ',T8,hle',hrest⟩:=back _ _ _ _ TS;have hnr1:∀ o,w1.heap[r]?=some o→(∀ c e g,o ≠ .cells c e g)∧∀ e c,o ≠ .map e c:=by
   intro o ho;rw [hit1] at ho;cases ho;exact ⟨fun _ _ _ h=>(by cases h),fun _ _ h=>(by cases h)⟩
  have hit2:w2.heap[r]?=some (.mapIter (some rm) clock (seen.push e.born) clock):=by
   rw [hrest r (aO.1 hit1).1 (JR T7.I hnr1)];exact hit1
  have hsl:seen.size=is.length:=by rw [← hseen];simp
  refine ⟨⟨V',μ',x',is++[i],seen.push e.born,clock,T8.sub hsub,hle.trans hle',hit2,bu _,by simp [hseen,hborn],?_,?_,?_⟩,?_⟩
  ·rw [List.nodup_append];exact ⟨hnd,by simp,by intro q hq p hp e;simp at hp;subst hp;subst e;exact hiis hq⟩
  ·intro q hq;rcases aU.1 hq with hq | hq
   ·exact hlt q hq
   ·simp at hq;subst hq;exact hil
  ·rw [List.filterMap_append,Fa,hfo];have e1:es[i]?=some es[i]:=by simp [hil]
   simp only [ag,List.filterMap_cons,e1,List.filterMap_nil,vV,hx']
  ·show MV w2 r es.length < MV w r es.length
   unfold MV;rw [hit2,hit];simp only [Array.size_push];omega
end
end Go.Lx
set_option linter.all false
namespace Go.Lx
def toI:D→Option Int
 | .int .i64 k=>some k
 | _=>none
theorem Ey {d:D} {k:Int} (h:toI d=some k):d = .int .i64 k:=by
 unfold toI at h;split at h
 ·cases h;rfl
 ·cases h
def pF (m:Nat) (x:List Int) (kv:D×D):Option (List Int) :=
 if x.length=m then (toI kv.1).bind fun k=>(toI kv.2).bind fun v=>if 0≤k∧k < (m:Int) then some (x.set k.toNat v) else none else none
theorem FN {m:Nat} {x x':List Int} {kv:D×D} (h:pF m x kv=some x'):x.length=m∧x'.length=m∧∃ k v,kv=(.int .i64 k, .int .i64 v)∧0≤k∧k < (m:Int)∧x'=x.set k.toNat v:=by
 unfold pF at h;split at h
 ·rename_i hl
  obtain ⟨k,hk,h⟩:=dE.1 h;obtain ⟨v,hv,h⟩:=dE.1 h;split at h
  ·rename_i hr
   cases h;obtain ⟨a,b⟩:=kv;exact ⟨hl,by simpa using hl,k,v,by rw [← Ey hk,← Ey hv],hr.1,hr.2,rfl⟩
  ·cases h
 ·cases h
theorem JW {m:Nat} {x:List Int} {a b:D×D} (hne:a.1≠b.1):((pF m x a).bind fun x=>pF m x b)=((pF m x b).bind fun x=>pF m x a):=by
 unfold pF;by_cases hl:x.length=m
 ·simp only [hl,aS];cases ha:toI a.1 with
  | none=>simp
  | some k =>
   cases hb:toI b.1 with
   | none=>simp
   | some k' =>
    have hk:k≠k':=fun e=>hne (by rw [Ey ha,Ey hb,e])
    cases ha2:toI a.2 with
    | none=>cases hb2:toI b.2<;>simp
    | some v =>
     cases hb2:toI b.2 with
     | none=>simp
     | some v' =>
      simp only [ag];by_cases h1:0≤k∧k < (m:Int)
      ·by_cases h2:0≤k'∧k' < (m:Int)
       ·simp only [h1,h2,and_self,aS,ag,az,hl];rw [List.set_comm _ _ (by omega)]
       ·simp [h1,h2,hl]
      ·by_cases h2:0≤k'∧k' < (m:Int)
       ·simp [h1,h2,hl]
       ·simp [h1,h2]
 ·simp [hl]
theorem qZ {σ α:Type} {step:σ→α→Option σ} (x:σ) (e:α) (es:List α):vV step x (e::es)=(step x e).bind fun x'=>vV step x' es:=by
 rw [vV];cases step x e<;>rfl
theorem OQ {m:Nat} {es es':List (D×D)} (h:es.Perm es'):(es.map (·.1)).Nodup→∀ x,vV (pF m) x es=vV (pF m) x es':=by
 induction h with
 | nil=>intro _ x;rfl
 | cons e _ ih =>
  intro hn x;rw [iL,List.nodup_cons] at hn;rw [qZ,qZ];cases pF m x e with
  | none=>rfl
  | some x'=>exact ih hn.2 x'
 | swap a b l =>
  intro hn x;simp only [iL,List.nodup_cons,iM,not_or] at hn;rw [qZ,qZ];have:∀ (y:List Int) (c:D×D),vV (pF m) y (c::l)=(pF m y c).bind fun x'=>vV (pF m) x' l:=fun y c=>qZ y c l
  simp only [this];rw [← Option.bind_assoc,← Option.bind_assoc,JW hn.1.1]
 | trans h1 _ i1 i2 =>
  intro hn x;rw [i1 hn x];exact i2 ((h1.map (·.1)).nodup_iff.1 hn) x
def G8 (xs:List Int) (es:List (Int×Int)):Option (List Int) :=
 if (es.map (·.1)).Nodup then vV (fun x e=>if x.length=xs.length then (if 0≤e.1∧e.1 < (xs.length:Int) then some (x.set e.1.toNat e.2) else none) else none) xs es else none
theorem JJ {xs ys:List Int} {es:List (Int×Int)} (h:G8 xs es=some ys):∀ es',es'.Perm (es.map (pE dI dI))→vV (pF xs.length) xs es'=some ys:=by
 unfold G8 at h;split at h
 ·rename_i hn
  intro es' hp;have hk:((es.map (pE dI dI)).map (·.1)).Nodup:=by
   rw [List.map_map];have:((fun p:D×D=>p.1) ∘ pE dI dI)=dI ∘ (fun e:Int×Int=>e.1):=rfl;rw [this,← List.map_map];unfold List.Nodup at hn ⊢;rw [List.pairwise_map];exact hn.imp (fun hne e=>hne (by cases e;rfl))
  rw [← OQ hp.symm hk];have:∀ (es:List (Int×Int)) (x:List Int),vV (pF xs.length) x (es.map (pE dI dI))=vV (fun x e=>if x.length=xs.length then (if 0≤e.1∧e.1 < (xs.length:Int) then some (x.set e.1.toNat e.2) else none) else none) x es:=by
   intro es
   induction es with
   | nil=>intro x;rfl
   | cons e es ih =>
    intro x;rw [iL,qZ,qZ];have e1:pF xs.length x (pE dI dI e)=(if x.length=xs.length then (if 0≤e.1∧e.1 < (xs.length:Int) then some (x.set e.1.toNat e.2) else none) else none):=rfl;rw [e1]
    congr 1
    funext x'
    exact ih x'
  rw [this];exact h
 ·cases h
section
variable {P:Program}
theorem Jv (l:Loc) (c0:Loc) (o:Out) (i:Id) (hi:i.d=o.length):S.get ⟨[],c0::o,[some l]⟩ i=bV l i.t i.n:=by
 unfold S.get;have e1:(⟨[],c0::o,[some l]⟩:S).dep=o.length+1:=rfl;have e2:(⟨[],c0::o,[some l]⟩:S).cur=l::o:=by show jP _ _=_;simp [jP]
 rw [e1,e2,if_neg (by omega),if_pos (by omega),show o.length+1 - 1 - i.d=0 by omega];rfl
theorem UJ (c0:Loc) (o:Out) {env:Env}:Le P env ⟨[],c0::o,[]⟩ env ⟨[],c0::o,[some c0]⟩:=by
 refine ⟨fun O a w T=>?_⟩;obtain ⟨V,μ,I,R,E,hdep,hn,hdf⟩:=T;have hg:S.get ⟨[],c0::o,[]⟩=S.get ⟨[],c0::o,[some c0]⟩:=by
  funext i
  have c1:(⟨[],c0::o,[some c0]⟩:S).cur=c0::o:=by show jP _ _=_;simp [jP]
  have c2:(⟨[],c0::o,[]⟩:S).cur=c0::o:=by show jP _ _=_;simp [jP]
  unfold S.get;rw [c1,c2];rfl
 exact ⟨V,μ,by rw [← hg];exact I,by rw [← hg];exact R,by rw [← hg];exact E,hdep,hn,hdf⟩
theorem CB:∀ (l:Loc) (t n:Nat) (b:Blk),bV l t n=some b→setB l t n b=l
 | [],t,n,b,h=>by cases h
 | ((a,m),x)::l,t,n,b,h=>by
  by_cases e1:t=a
  ·subst e1;cases hv:x.view m n with
   | some z=>rw [ji hv] at h;cases h;rw [yF hv,JA hv]
   | none=>rw [iG hv] at h;rw [xG hv,CB l t n b h]
  ·rw [jD e1] at h;rw [DI e1,CB l t n b h]
theorem suG (l c0:Loc) (o:Out) (t n:Nat) (b b0:Blk) (hb:bV l t n=some b0):KH ⟨[],c0::o,[some l]⟩ ⟨o.length,t,n⟩ b ⟨[],c0::o,[some (setB l t n b)]⟩:=by
 have e1:(⟨[],c0::o,[some l]⟩:S).dep=o.length+1:=rfl;have e2:(⟨[],c0::o,[some l]⟩:S).cur=l::o:=by show jP _ _=_;simp [jP]
 constructor
 ·unfold S.set;rw [e1,e2,if_neg (by show ¬ o.length=o.length+1;omega),show o.length+1 - 1 - (⟨o.length,t,n⟩:Id).d=0 by show o.length+1 - 1 - o.length=0;omega];rfl
 ·intro h;rw [Jv l c0 o ⟨o.length,t,n⟩ rfl] at h;rw [CB l t n b h]
theorem PW (l:Loc) (t n:Nat) (b b':Blk) (hb:b.one=true:=by rfl):setB (setB l t n b) t n b'=setB l t n b':=Rh l t n b b' hb
theorem QH (l:Loc) (t n:Nat) (b b0:Blk) (h:bV l t n=some b0) (hb:b.one=true:=by rfl):bV (setB l t n b) t n=some b:=OM h hb
theorem ni {l:List Nat} (h:l.Nodup) {i j a b:Nat} (hij:i≠j) (hi:l[i]?=some a) (hj:l[j]?=some b):a≠b:=by
 intro e;subst e;have h1:=(aC.1 hi)
 have h2:=(aC.1 hj)
 obtain ⟨i1,e1⟩:=h1;obtain ⟨j1,e2⟩:=h2;exact hij ((List.getElem_inj h).1 (e1.trans e2.symm))
theorem Q8 {T kT eT TL TE by_ ta ti tn tb te tk0 tv0 tk tv tm tl u0 u1 u2 u3 r1 r2 r3 r4 bid b1:Nat} {z:D} {y0 y1 y2 y3 y4 y5 y6 y7 y8 z0 z1 z2 z3 z4:TypeId} {p0 p1 p2 p3 p4 p5 p6 p7 p8 q0 q1 q2 q3 q4:String} {f0 f1 f2 f3 f4 f5 f6 f7 f8 g0 g1 g2 g3 g4:Array Edge}
  {loc:Loc} {out:Out} {chg:List (Option Loc)} {env E0:Env} {Q:Ex→Env→S→Prop} {kt:TypeId} {es:List (Int×Int)} {xs ys:List Int} {m t n:Nat}
  (hT:P.underlying T=some (.map kT eT)) (hL:Sli P TL TE 1 by_ z) (hS:Eh P TE) (h:G8 xs es=some ys) (hmx:m=xs.length) (hm0:look env tm=some (.d (.mp kt (es.map (pE dI dI)))))
  (hE0:∀ t v,look E0 t=some v→look env t=some v) (hb:bV loc t n=some (.arr 1 false (xs.map dI))) (hl:look E0 tl=some (.ref ⟨out.length,t,n⟩ 0 m m))
  (fresh:∀ q,q∈[ta,ti,tn,tb,te,tk0,tv0,tk,tv,u0,u1,u2,u3]→look E0 q=none) (hne:[ta,ti,tn,tb,te,tk0,tv0,tk,tv,u0,u1,u2,u3,tl].Nodup)
  (fin:Q .norm E0 ⟨setB loc t n (.arr 1 false (ys.map dI)),out,chg⟩) :
  CWp P (.seq (.region r1 #[⟨some ta, .move (.tmp tm),y0,p0,f0,none⟩,⟨some ti, .range T (.tmp ta),y1,p1,f1,none⟩] false) (.block bid (.loop
   (.seq (.region r2 #[⟨some tn, .next (.tmp ti) false,y2,p2,f2,none⟩,⟨some tb, .extract (.tmp tn) 0,y3,p3,f3,none⟩] false) (.seq (.cond (.tmp tb) .skip (.exit bid)) (.block b1
    (.seq (.region r3 #[⟨some te, .entry (.tmp ti),y4,p4,f4,none⟩,⟨some tk0, .extract (.tmp te) 0,y5,p5,f5,none⟩,⟨some tv0, .extract (.tmp te) 1,y6,p6,f6,none⟩,⟨some tk, .assign (.tmp tk0),y7,p7,f7,none⟩,⟨some tv, .assign (.tmp tv0),y8,p8,f8,none⟩] false)
     (.region r4 #[⟨some u0, .move (.tmp tl),z0,q0,g0,none⟩,⟨some u1, .move (.tmp tk),z1,q1,g1,none⟩,⟨some u2, .move (.tmp tv),z2,q2,g2,none⟩,⟨some u3, .indexAddr TL (.tmp u0) (.tmp u1),z3,q3,g3,none⟩,⟨none, .store TE (.tmp u3) (.tmp u2),z4,q4,g4,none⟩] false))))))))
   env ⟨loc,out,chg⟩ Q:=by
 subst hmx;refine CWp.Tq (out:=out) (chg:=chg) kt (es.map (pE dI dI)) (fun _:List Int=>E0) (fun x=>setB loc t n (.arr 1 false (x.map dI))) (pF xs.length) (x0:=xs) (y:=ys) hT hm0 (by rw [CB _ _ _ _ hb]) hE0 (JJ h)
  (fun _ q hq=>fresh q (List.mem_append_left [u0,u1,u2,u3] hq)) ?_ ?_ fin
 ·have:[ta,ti,tn,tb,te,tk0,tv0,tk,tv].Sublist [ta,ti,tn,tb,te,tk0,tv0,tk,tv,u0,u1,u2,u3,tl]:=List.sublist_append_left [ta,ti,tn,tb,te,tk0,tv0,tk,tv] [u0,u1,u2,u3,tl];exact hne.sublist this
 ·intro r x kv x' _ hst;obtain ⟨hxl,hxl',k,v,rfl,hk0,hk1,rfl⟩:=FN hst;have hol:(jP out chg).length=out.length:=uj _ _;obtain ⟨o,ho⟩:∃ o,jP out chg=o:=⟨_,rfl⟩
  rw [ho] at hol ⊢;have fb:bV (setB loc t n (.arr 1 false (x.map dI))) t n=some (.arr 1 false (x.map dI)):=QH _ _ _ _ _ hb;refine CWp.trim (UJ _ _) ?_;have l1:look ((tv,A.d (.int .i64 v))::(tk, .d (.int .i64 k))::(ti, .iter r)::E0) tl=some (.ref ⟨o.length,t,n⟩ 0 xs.length xs.length):=by
   simp only [look];rw [if_neg (ni hne (i:=13) (j:=8) (by decide) rfl rfl),if_neg (ni hne (i:=13) (j:=7) (by decide) rfl rfl),if_neg (ni hne (i:=13) (j:=1) (by decide) rfl rfl),hl,hol]
  refine lr <|ts (mv l1) ?_;refine ts (mv (v := .d (.int .i64 k)) (by simp only [ay,yB,look,if_neg (ni hne (i:=7) (j:=9) (by decide) rfl rfl),if_neg (ni hne (i:=7) (j:=8) (by decide) rfl rfl),aS])) ?_;refine ts (mv (v := .d (.int .i64 v)) (by simp only [ay,yB,look,if_neg (ni hne (i:=8) (j:=10) (by decide) rfl rfl),if_neg (ni hne (i:=8) (j:=9) (by decide) rfl rfl),aS])) ?_;have hat:at_ x k=some x[k.toNat]!:=by
   unfold at_;rw [if_pos hk0];have:k.toNat < x.length:=by rw [hxl];exact (Int.toNat_lt hk0).2 hk1
   simp [this]
  have see:zH ⟨[],setB loc t n (.arr 1 false (x.map dI))::o,[some (setB loc t n (.arr 1 false (x.map dI)))]⟩ ⟨o.length,t,n⟩ (.arr 1 false (x.map dI)):=⟨by rw [Jv _ _ _ _ rfl];exact fb⟩
  refine ts (ixR (k := .i64) (f:=dI) (xs:=x) hL (by simp only [ay,yB,look,if_neg (ni hne (i:=9) (j:=11) (by decide) rfl rfl),if_neg (ni hne (i:=9) (j:=10) (by decide) rfl rfl),aS]) hxl.symm (by simp only [ay,yB,look,if_neg (ni hne (i:=10) (j:=11) (by decide) rfl rfl),aS]) see hat) ?_;refine tt0 (VI (f:=dI) (b:=v) (w := .int .i64 v) (xs:=x) (n:=k) (off:=0) (m:=xs.length) (id:=⟨o.length,t,n⟩) hS (by simp only [ay,yB,look,aS]) hxl.symm (by simp only [ay,yB,look,if_neg (ni hne (i:=11) (j:=12) (by decide) rfl rfl),aS]) rfl see hat rfl rfl (suG _ _ _ _ _ _ _ fb)) ?_;refine rn ?_;refine ⟨rfl,by rw [PW _ _ _ (.arr _ _ _)],?_⟩;intro q w hq;simp only [yB,look] at hq ⊢;have this:∀ u,look E0 u=none→u≠ti→q≠u:=by
   intro u hu hui e;subst e;rw [if_neg hui,hu] at hq;cases hq
  rw [if_neg (this u3 (fresh u3 (by simp)) (ni hne (i:=12) (j:=1) (by decide) rfl rfl)),if_neg (this u2 (fresh u2 (by simp)) (ni hne (i:=11) (j:=1) (by decide) rfl rfl)),if_neg (this u1 (fresh u1 (by simp)) (ni hne (i:=10) (j:=1) (by decide) rfl rfl)),if_neg (this u0 (fresh u0 (by simp)) (ni hne (i:=9) (j:=1) (by decide) rfl rfl)),if_neg (this tv (fresh tv (by simp)) (ni hne (i:=8) (j:=1) (by decide) rfl rfl)),if_neg (this tk (fresh tk (by simp)) (ni hne (i:=7) (j:=1) (by decide) rfl rfl))];exact hq
theorem PL {loc':Loc} {T kT eT TL TE by_ ta ti tn tb te tk0 tv0 tk tv tm tl u0 u1 u2 u3 r1 r2 r3 r4 bid b1:Nat} {z:D} {y0 y1 y2 y3 y4 y5 y6 y7 y8 z0 z1 z2 z3 z4:TypeId} {p0 p1 p2 p3 p4 p5 p6 p7 p8 q0 q1 q2 q3 q4:String} {f0 f1 f2 f3 f4 f5 f6 f7 f8 g0 g1 g2 g3 g4:Array Edge}
  {loc:Loc} {out:Out} {chg:List (Option Loc)} {env E0:Env} {Q:Ex→Env→S→Prop} {kt:TypeId} {es:List (Int×Int)} {xs ys:List Int} {m t n:Nat}
  (hT:P.underlying T=some (.map kT eT)) (hL:Sli P TL TE 1 by_ z) (hS:Eh P TE) (h:G8 xs es=some ys) (hmx:m=xs.length) (hm0:look env tm=some (.d (.mp kt (es.map (pE dI dI)))))
  (hE0:E0.map (fun p=>look env p.1)=E0.map (fun p=>some p.2)) (hb:bV loc t n=some (.arr 1 false (xs.map dI))) (hl:look E0 tl=some (.ref ⟨out.length,t,n⟩ 0 m m))
  (fresh:([ta,ti,tn,tb,te,tk0,tv0,tk,tv,u0,u1,u2,u3].all fun q=>(look E0 q).isNone)=true) (hne:[ta,ti,tn,tb,te,tk0,tv0,tk,tv,u0,u1,u2,u3,tl].Nodup)
  (hs:Ei loc t n (.arr 1 false (ys.map dI)) loc') (fin:Q .norm E0 ⟨loc',out,chg⟩) :
  CWp P (.seq (.region r1 #[⟨some ta, .move (.tmp tm),y0,p0,f0,none⟩,⟨some ti, .range T (.tmp ta),y1,p1,f1,none⟩] false) (.block bid (.loop
   (.seq (.region r2 #[⟨some tn, .next (.tmp ti) false,y2,p2,f2,none⟩,⟨some tb, .extract (.tmp tn) 0,y3,p3,f3,none⟩] false) (.seq (.cond (.tmp tb) .skip (.exit bid)) (.block b1
    (.seq (.region r3 #[⟨some te, .entry (.tmp ti),y4,p4,f4,none⟩,⟨some tk0, .extract (.tmp te) 0,y5,p5,f5,none⟩,⟨some tv0, .extract (.tmp te) 1,y6,p6,f6,none⟩,⟨some tk, .assign (.tmp tk0),y7,p7,f7,none⟩,⟨some tv, .assign (.tmp tv0),y8,p8,f8,none⟩] false)
     (.region r4 #[⟨some u0, .move (.tmp tl),z0,q0,g0,none⟩,⟨some u1, .move (.tmp tk),z1,q1,g1,none⟩,⟨some u2, .move (.tmp tv),z2,q2,g2,none⟩,⟨some u3, .indexAddr TL (.tmp u0) (.tmp u1),z3,q3,g3,none⟩,⟨none, .store TE (.tmp u3) (.tmp u2),z4,q4,g4,none⟩] false))))))))
   env ⟨loc,out,chg⟩ Q :=
 Q8 hT hL hS h hmx hm0 (fun t v hv=>yx hE0 (zO hv)) hb hl (fun q hq=>Option.isNone_iff_eq_none.1 (aW.1 fresh q hq)) hne (by rw [hs.eq];exact fin)
theorem NS {xs ys:List Int} {es:List (Int×Int)} (h:G8 xs es=some ys):ys.length=xs.length:=by
 have key:∀ (es:List (D×D)) (x y:List Int),x.length=xs.length→vV (pF xs.length) x es=some y→y.length=xs.length:=by
  intro es
  induction es with
  | nil=>intro x y hx hf;cases hf;exact hx
  | cons e es ih =>
   intro x y hx hf;rw [qZ] at hf;obtain ⟨x',h1,h2⟩:=dE.1 hf;exact ih x' y (FN h1).2.1 h2
 exact key _ _ _ rfl (JJ h _ (.refl _))
end
end Go.Lx
namespace Go.Lx
inductive RdA (s:S) (K:Id→Prop):A→D→Prop where
 | d (x:D):RdA s K (.d x) x
 | tight (xs:List D):RdA s K (.tight xs) (.sl xs)
 | pimm (e:D):RdA s K (.pimm e 0) (.pbox e)
 | ref {i:Id} {off len full sz:Nat} {l:Bool} {xs:List D} (hi:s.get i=some (.arr sz l xs)) (hk:K i) (hf:full=xs.length) (hl:off+len≤xs.length):RdA s K (.ref i off len full) (.sl ((xs.drop off).take len))
 | agg {cs:List A} {ds:List D} (hn:ds.length=cs.length) (h:∀ (k:Nat) a d,cs[k]?=some a→ds[k]?=some d→RdA s K a d):RdA s K (.agg cs) (.agg ds)
 | box {i:Id} {cs:List A} {y:D} (hi:s.get i=some (.box cs)) (hk:K i) (hn:y.cells.length=cs.length) (h:∀ (k:Nat) a d,cs[k]?=some a→y.cells[k]?=some d→RdA s K a d):RdA s K (.bptr i 0) (.pbox y)
 | nest {i:Id} {m sz:Nat} {xs:List (List A)} {ys:List D} (hi:s.get i=some (.nest sz xs)) (hk:K i) (hm:m=xs.length) (hn:ys.length=xs.length)
   (hs:∀ (j:Nat) e y,xs[j]?=some e→ys[j]?=some y→y.cells.length=e.length)
   (h:∀ (j:Nat) e y (k:Nat) a d,xs[j]?=some e→ys[j]?=some y→e[k]?=some a→y.cells[k]?=some d→RdA s K a d):RdA s K (.nref i m) (.sl ys)
 | map {i:Id} {kt:TypeId} {l:Bool} {es:List (D×D)} (hi:s.get i=some (.map kt l es)) (hk:K i):RdA s K (.mref i) (.mp kt es)
def Vu (y:D) (vs:Array Value):Value :=
 match y with
 | .agg _ => .agg vs
 | _=>vs.getD 0 undef
theorem ML {P:Program} {V:View} {y:D} {vs:Array Value} (hn:vs.size=y.cells.length) (h:∀ (k:Nat) d v,y.cells[k]?=some d→vs[k]?=some v→jB P V d v∧Plain v):jB P V y (Vu y vs)∧(Vu y vs).cells=vs:=by
 have one:∀ y:D,y.cells=[y]→vs.size=y.cells.length→(∀ (k:Nat) d v,y.cells[k]?=some d→vs[k]?=some v→jB P V d v∧Plain v)→jB P V y (vs.getD 0 undef)∧(vs.getD 0 undef).cells=vs:=by
  intro y e hn h;rw [e] at hn h;have hl:0 < vs.size:=by rw [hn];simp
  have h0:vs[0]?=some (vs.getD 0 undef):=by simp [Array.getD,hl]
  obtain ⟨h1,h2⟩:=h 0 y _ rfl h0;refine ⟨h1,?_⟩;have hc:(vs.getD 0 undef).cells=#[vs.getD 0 undef]:=by
   generalize vs.getD 0 undef=q at h2;cases q<;>first | rfl | exact h2.elim
  rw [hc];apply Array.ext
  ·rw [hn];rfl
  ·intro i h3 h4;have:i=0:=by simp at h3;exact h3
   subst this;have:=bI h4;rw [h0] at this;simpa using jo this
 cases y with
 | agg cs=>exact ⟨.agg cs vs hn (fun i d v h1 h2=>(h i d v h1 h2).1) (fun i v hv=>by
   have hl:=(aO.1 hv).1;exact (h i _ v (ax (by rw [← hn];exact hl)) hv).2),rfl⟩
 | _=>exact one _ rfl hn h
section
variable {P:Program} {V V':View} {μ:Id→Pl} {w:World} {s:S} {K:Id→Prop}
theorem RdA.rel {a:A} {x:D} (H:RdA s K a x) (I:Inv P V s.get μ w) (hV:V.Le V')
  (hc:∀ i b,s.get i=some b→K i→(μ i).nil=false→∀ c v,w.cell? ⟨(μ i).blk,c,none⟩=some v→V'.cell (μ i).blk c v)
  (hm:∀ i kt l es,s.get i=some (.map kt l es)→K i→∀ en cl,w.heap[(μ i).blk]?=some (.map en cl)→V'.map (μ i).blk en cl):∀ v,iI P V s.get μ a v→jB P V' x v:=by
 induction H with
 | d x=>intro v R;exact R.dOf.mono hV
 | tight xs=>intro v R;cases R with | tight _ a hd=>exact hd.mono hV
 | pimm e=>intro v R;cases R with | pimm _ _ ev b o hd hv=>exact .pbox e ev b o (hd.mono hV) (fun j x hx=>hV.cell _ _ _ (hv j x hx))
 | @ref i off len full sz l xs hi hk hf hl =>
  intro v R;cases R with
  | ref _ _ _ _ sz' l' xs' a c hi' hf' hv =>
   rw [hi] at hi';cases hi';have B:=I.blk i _ hi;refine uy (hv hf) hl (fun q=>?_) (fun q=>?_) (fun k d hd=>?_)
   ·rcases B with ⟨b1,_⟩ | ⟨_,b2,_⟩
    ·rw [q] at b1;cases b1
    ·exact b2
   ·rcases B with ⟨_,b2,_⟩ | ⟨b1,_⟩
    ·exact b2
    ·rw [q] at b1;cases b1
   ·rcases B with ⟨_,b2,_⟩ | ⟨b1,b2,b3,b4,cells,elem,b5,b6,hpl,ev,b7⟩
    ·subst b2;simp at hd
    ·obtain ⟨c1,c2,c3⟩:=b7 k d hd;refine ⟨ev k,c1.mono hV,c2,fun j v hv=>?_⟩;refine hc i _ hi hk b1 _ _ ?_;rw [cell_of_row w _ _ cells elem (0,0) b5];exact c3 j v hv
 | @agg cs ds hn h ih =>
  intro v R;cases R with
  | agg _ vs hn' hc' hp =>
   refine .agg ds vs (by omega) (fun k d v h1 h2=>?_) hp;have hk:k < cs.length:=by have:=(aC.1 h1).1;omega
   exact ih k _ d (ax hk) h1 v (hc' k _ v (ax hk) h2)
 | @box i cs y hi hk hn h ih =>
  intro v R;cases R with
  | bptr _ _ cs' hi' =>
   obtain ⟨b1,b3,cells,elem,b5,b6,b7⟩:=I.blk i _ hi;obtain ⟨e1,e2⟩:=ML (P:=P) (V:=V') (y:=y) (vs:=cells) (by omega) (fun k d v h1 h2=>by
    have hk:k < cs.length:=by have:=(aC.1 h1).1;omega
    obtain ⟨q1,q2⟩:=b7 k _ v (ax hk) h2;exact ⟨ih k _ d (ax hk) h1 v q1,q2⟩)
   refine .pbox y _ _ 0 e1 (fun j v hv=>?_);rw [e2] at hv;refine hc i _ hi hk b1 _ _ ?_;rw [cell_of_row w _ _ cells elem (0,0) b5,gW];exact hv
 | @nest i m sz xs ys hi hk hm hn hs h ih =>
  intro v R;cases R with
  | nref _ _ sz' xs' a c hi' hf' hv =>
   rw [hi] at hi';cases hi';have B:=I.blk i _ hi;have hlen:ys=(ys.drop 0).take m:=by rw [List.drop_zero,dS (by omega)]
   rw [hlen];refine uy (sz:=sz) (hv hm) (by omega) (fun q=>?_) (fun q=>?_) (fun k d hd=>?_)
   ·rcases B with ⟨b1,_⟩ | ⟨_,b2,_⟩
    ·rw [q] at b1;cases b1
    ·omega
   ·rcases B with ⟨_,b2,_⟩ | ⟨b1,_⟩
    ·subst b2;exact fC hn
    ·rw [q] at b1;cases b1
   ·rcases B with ⟨_,b2,_⟩ | ⟨b1,b2,b3,cells,elem,b5,b6,hpl,b7⟩
    ·subst b2;rw [fC hn] at hd;simp at hd
    ·have hkl:k < xs.length:=by have:=(aC.1 hd).1;omega
     have hxe:=ax hkl;obtain ⟨c1,c2⟩:=b7 k _ hxe;have hsz:=hs k _ d hxe hd
     let vs:Array Value:=cells.extract (k * sz) (k * sz+sz)
     have hle:k * sz+sz≤cells.size:=by
      rw [b6]
      calc k * sz+sz=(k+1) * sz:=by rw [fD,kD]
       _≤(μ i).cap * sz:=aX _ (by omega)
     have hvs:vs.size=sz:=by simp only [vs,Array.size_extract];omega
     have hget:∀ j v,vs[j]?=some v→cells[k * sz+j]?=some v∧j < sz:=by
      intro j v hj;have hjl:j < vs.size:=(aO.1 hj).1;have:vs[j]?=cells[k * sz+j]?:=by
       simp only [vs];rw [Array.getElem?_extract];rw [if_pos (by omega)]
      exact ⟨by rw [← this];exact hj,by omega⟩
     obtain ⟨e1,e2⟩:=ML (P:=P) (V:=V') (y:=d) (vs:=vs) (by omega) (fun q dd v h1 h2=>by
      obtain ⟨g1,g2⟩:=hget q v h2;have hq:q < (xs[k]).length:=by rw [c1];exact g2
      have ha:=ax hq;exact ⟨ih k _ d q _ dd hxe hd ha h1 v (c2 q _ v ha g1),hpl _ v g1⟩)
     refine ⟨_,e1,by rw [e2];exact hvs,fun j v hv=>?_⟩;rw [e2] at hv;refine hc i _ hi hk b1 _ _ ?_;rw [cell_of_row w _ _ cells elem (0,0) b5];exact (hget j v hv).1
 | @map i kt l es hi hk =>
  intro v R;cases R with
  | mref _ kt' l' es' hi' =>
   obtain ⟨b1,b3,en,b5,b6,b7,b8⟩:=I.blk i _ hi;refine .mp kt es _ en es.length (hm i kt l es hi hk _ _ b5) b6 (fun k e m he hm=>(b7 k e m he hm).1.mono hV) (fun k e m he hm=>(b7 k e m he hm).2.1.mono hV) b8 rfl (fun k m hm=>?_);have hk:k < es.length:=by rw [← b6];exact (aO.1 hm).1
   exact (b7 k es[k] m (by simp [hk]) hm).2.2
end
inductive RdL (s:S):List A→List D→Prop where
 | n:RdL s [] []
 | c {a:A} {x:D} {avs:List A} {xs:List D} (h:RdA s (fun _=>True) a x) (k:RdL s avs xs):RdL s (a::avs) (x::xs)
section
variable {P:Program} {env:Env} {s:S} {dst:Option Nat} {ty:TypeId} {pos:String} {af:Array Edge} {gd:Option (Nat×Bool)}
theorem RdL.rel {V V':View} {μ:Id→Pl} {w:World} {avs:List A} {ds:List D} (H:RdL s avs ds) (I:Inv P V s.get μ w) (hV:V.Le V')
  (hc:∀ i b,s.get i=some b→(μ i).nil=false→∀ c v,w.cell? ⟨(μ i).blk,c,none⟩=some v→V'.cell (μ i).blk c v)
  (hm:∀ i kt l es,s.get i=some (.map kt l es)→∀ en cl,w.heap[(μ i).blk]?=some (.map en cl)→V'.map (μ i).blk en cl) {h:Id→Option Blk} {μ':Id→Pl} :
  ∀ {vs:List Value},iy P V s.get μ avs vs→iy P V' h μ' (ds.map .d) vs:=by
 induction H with
 | n=>intro vs R;cases R;exact .nil
 | c h k ih =>
  intro vs R;cases R with
  | cons _ v _ _ r1 r2=>exact .cons _ _ _ _ (.d _ _ (h.rel I hV (fun i b q _=>hc i b q) (fun i kt l es q _=>hm i kt l es q) v r1)) (ih r2)
end
end Go.Lx
namespace Go.Lx
mutual
theorem A.zB {σ:Id→Id}:∀ (a:A),(∀ i∈a.ids,σ i=i)→a.ren σ=a
 | .agg cs,h=>by simp only [A.ren];rw [A.zQ cs h]
 | .tup cs,h=>by simp only [A.ren];rw [A.zQ cs h]
 | .clo _ cs,h=>by simp only [A.ren];rw [A.zQ cs h]
 | .ref i _ _ _,h=>by simp only [A.ren];rw [h i (by simp [A.ids])]
 | .rcap i _ _ _ _,h=>by simp only [A.ren];rw [h i (by simp [A.ids])]
 | .bptr i _,h=>by simp only [A.ren];rw [h i (by simp [A.ids])]
 | .bref i _,h=>by simp only [A.ren];rw [h i (by simp [A.ids])]
 | .nref i _,h=>by simp only [A.ren];rw [h i (by simp [A.ids])]
 | .nptr i _ _ _,h=>by simp only [A.ren];rw [h i (by simp [A.ids])]
 | .tref i _ _,h=>by simp only [A.ren];rw [h i (by simp [A.ids])]
 | .tptr i _ _,h=>by simp only [A.ren];rw [h i (by simp [A.ids])]
 | .eptr i _ _ _,h=>by simp only [A.ren];rw [h i (by simp [A.ids])]
 | .mref i,h=>by simp only [A.ren];rw [h i (by simp [A.ids])]
 | .iter _,_=>rfl
 | .undef,_=>rfl
 | .unk,_=>rfl
 | .d _,_=>rfl
 | .tight _,_=>rfl
 | .own _ _,_=>rfl
 | .pimm _ _,_=>rfl
theorem A.zQ {σ:Id→Id}:∀ (cs:List A),(∀ i∈A.lT cs,σ i=i)→A.uJ σ cs=cs
 | [],_=>rfl
 | a::cs,h=>by
  simp only [A.uJ];rw [A.zB a (fun i hi=>h i (by simp only [A.lT,aU];exact .inl hi)),A.zQ cs (fun i hi=>h i (by simp only [A.lT,aU];exact .inr hi))]
end
theorem PQ {σ:Id→Id} (xs:List (List A)) (h:∀ i∈A.lT xs.flatten,σ i=i):xs.map (A.uJ σ)=xs:=by
 induction xs with
 | nil=>rfl
 | cons x xs ih =>
  simp only [List.flatten_cons,sW] at h;simp only [iL];rw [A.zQ x (fun i hi=>h i (aU.2 (.inl hi))),ih (fun i hi=>h i (aU.2 (.inr hi)))]
mutual
theorem Blk.zB {σ:Id→Id}:∀ (b:Blk),(∀ i∈b.ids,σ i=i)→b.ren σ=b
 | .box cs,h=>by simp only [Blk.ren];rw [A.zQ cs h]
 | .nest sz xs,h=>by simp only [Blk.ren];rw [PQ xs h]
 | .fam rows,h=>by simp only [Blk.ren];rw [Blk.Np rows h]
 | .arr _ _ _,_=>rfl
 | .map _ _ _,_=>rfl
 | .gap,_=>rfl
 | .tail _ _ _,_=>rfl
theorem Blk.Np {σ:Id→Id}:∀ (rows:List Blk),(∀ i∈Blk.lT rows,σ i=i)→Blk.Sj σ rows=rows
 | [],_=>rfl
 | b::r,h=>by
  simp only [Blk.Sj];rw [Blk.zB b (fun i hi=>h i (by simp only [Blk.lT,aU];exact .inl hi)),Blk.Np r (fun i hi=>h i (by simp only [Blk.lT,aU];exact .inr hi))]
end
section
variable {P:Program} {env env':Env} {loc loc':Loc} {out:Out} {chg:List (Option Loc)}
theorem OV (l l':Loc) (i:Id) (h:i.d≠out.length):S.get ⟨l,out,chg⟩ i=S.get ⟨l',out,chg⟩ i:=by
 unfold S.get S.cur S.dep;rw [if_neg h,if_neg h]
theorem En (l:Loc) (i:Id) (h:i.d=out.length):S.get ⟨l,out,chg⟩ i=bV l i.t i.n:=by
 unfold S.get S.dep;rw [if_pos h]
theorem Le.move (σ:Id→Id) (hout:∀ i,i.d≠out.length→σ i=i) (hin:∀ i,i.d=out.length→(σ i).d=out.length)
  (inj:∀ i j b b',i.d=out.length→j.d=out.length→bV loc' i.t i.n=some b→bV loc' j.t j.n=some b'→σ i=σ j→i=j)
  (henv:∀ t v,look env' t=some v→look env t=some (v.ren σ)) (hloc:∀ i b,i.d=out.length→bV loc' i.t i.n=some b→bV loc (σ i).t (σ i).n=some (b.ren σ))
  (hids:∀ i,i∈wo env'∨i∈vK loc'→i.d=out.length→∃ b,bV loc' i.t i.n=some b):Le P env ⟨loc,out,chg⟩ env' ⟨loc',out,chg⟩:=by
 refine ⟨fun O a w T=>?_⟩;obtain ⟨V,μ,I,R,E,hdep,hsz,hdf⟩:=T;have hd:∀ i,(σ i).d=i.d:=by
  intro i;by_cases e:i.d=out.length
  ·rw [hin i e,e]
  ·rw [hout i e]
 generalize hs:(⟨loc,out,chg⟩:S)=s at *
 generalize hs':(⟨loc',out,chg⟩:S)=s' at *
 have hdp:s.dep=out.length:=by subst hs;rfl
 have far:∀ i,i.d≠out.length→s'.get i=s.get i:=by intro i h;subst hs hs';exact OV _ _ i h
 have own:∀ i,i.d=out.length→s.get i=bV loc i.t i.n:=by intro i h;subst hs;exact En _ i h
 have own':∀ i,i.d=out.length→s'.get i=bV loc' i.t i.n:=by intro i h;subst hs';exact En _ i h
 have outer:∀ i b,i.d≠out.length→s.get i=some b→b.ren σ=b:=by
  intro i b h hb;refine Blk.zB b fun j hj=>hout j ?_
  have h1:=I.tidy i b hb j hj;have h2:=S.uN hb;omega
 have H:∀ i b,s'.get i=some b→s.get (σ i)=some (b.ren σ):=by
  intro i b hb;by_cases e:i.d=out.length
  ·rw [own' i e] at hb;rw [own (σ i) (by rw [hd];exact e)];exact hloc i b e hb
  ·rw [far i e] at hb;rw [hout i e,outer i b e hb];exact hb
 have known:∀ i,(i.d=out.length→∃ b,bV loc' i.t i.n=some b)→(∃ b,s.get (σ i)=some b)→∃ b,s'.get i=some b:=by
  intro i h1 h2;by_cases e:i.d=out.length
  ·obtain ⟨b,hb⟩:=h1 e;exact ⟨b,by rw [own' i e];exact hb⟩
  ·obtain ⟨b,hb⟩:=h2;rw [hout i e] at hb;exact ⟨b,by rw [far i e];exact hb⟩
 have closed:∀ i b,s'.get i=some b→∀ j∈b.ids,∃ c,s'.get j=some c:=by
  intro i b hb j hj;refine known j (fun e=>?_) ?_
  ·by_cases e1:i.d=out.length
   ·rw [own' i e1] at hb;exact hids j (.inr (E5 hb hj)) e
   ·rw [far i e1] at hb;have h1:=I.tidy i b hb j hj;have h2:=S.uN hb;omega
  ·exact I.closed _ _ (H i b hb) (σ j) (by rw [Blk.yg];exact kX.2 ⟨j,hj,rfl⟩)
 have kn:∀ x,(∃ c,s'.get x=some c)→∃ c,s'.get x=some c∧s.get (σ x)=some (c.ren σ):=fun x ⟨c,hc⟩=>⟨c,hc,H x c hc⟩
 have injA:∀ i j b b',s'.get i=some b→s'.get j=some b'→σ i=σ j→i=j:=by
  intro i j b b' hi hj e;have e0:i.d=j.d:=by rw [← hd i,← hd j,e]
  by_cases e1:i.d=out.length
  ·exact inj i j b b' e1 (e0 ▸ e1) (by rw [← own' i e1];exact hi) (by rw [← own' j (e0 ▸ e1)];exact hj) e
  ·rw [hout i e1,hout j (by rw [← e0];exact e1)] at e;exact e
 have I':Inv P V s'.get (fun i=>μ (σ i)) w:=by
  refine ⟨fun i b hi=>?_,fun i j b b' hi hj hne n1 n2=>?_,I.cell,I.map,fun i b hi j hj=>?_⟩
  ·have B:=I.blk _ _ (H i b hi);cases b with
   | arr sz l xs=>exact B
   | map kt l es=>exact B
   | box cs =>
    obtain ⟨b1,b3,cells,elem,b5,b6,b7⟩:=B;rw [qA] at b6;exact ⟨b1,b3,cells,elem,b5,b6,fun k a v ha hv=>⟨(b7 k (a.ren σ) v (by rw [oK,ha];rfl) hv).1.down rfl (fun x hx=>kn x (closed i _ hi x (qy ha hx))),(b7 k (a.ren σ) v (by rw [oK,ha];rfl) hv).2⟩⟩
   | nest sz xs =>
    rcases B with ⟨b1,b2,b3⟩ | ⟨b1,b2,b3,cells,elem,b5,b6,hpl,b7⟩
    ·exact .inl ⟨b1,by simpa using b2,b3⟩
    ·refine .inr ⟨b1,by simpa using b2,b3,cells,elem,b5,b6,hpl,fun k e he=>?_⟩;have h2:(xs.map (A.uJ σ))[k]?=some (A.uJ σ e):=by rw [eF,he];rfl
     obtain ⟨q1,q2⟩:=b7 k _ h2;refine ⟨by rw [qA] at q1;exact q1,fun q a v ha hv=>?_⟩;exact (q2 q (a.ren σ) v (by rw [oK,ha];rfl) hv).down rfl (fun x hx=>kn x (closed i _ hi x (BX he ha hx)))
   | fam _=>exact B.elim
   | gap=>exact B
   | tail _ _ _=>exact B
  ·exact I.apart _ _ _ _ (H i b hi) (H j b' hj) (fun e=>hne (injA i j b b' hi hj e)) n1 n2
  ·have:=I.tidy _ _ (H i b hi) (σ j) (by rw [Blk.yg];exact kX.2 ⟨j,hj,rfl⟩);rw [hd,hd] at this;exact this
 refine ⟨V,fun i=>μ (σ i),I',?_,?_,?_,hsz,hdf⟩
 ·intro t v hv;have h1:=R t _ (henv t v hv);refine h1.down rfl (fun x hx=>kn x (known x (fun e=>hids x (.inl (IK hv x hx)) e) ?_));exact uO h1 (σ x) (by rw [A.yg];exact kX.2 ⟨x,hx,rfl⟩)
 ·refine ⟨E.os,E.tape,E.output,E.size,E.rest,E.view,E.newc,E.newm,fun i b hi n1=>?_,fun i b hi=>?_⟩
  ·have hp:=E.place (σ i) _ (H i b hi) n1;rcases hp with ⟨b0,q1,q2,q3⟩ | q
   ·left;have hl:=O.low (σ i) b0 q1;rw [hd] at hl;have hO:O.out.length=out.length:=by rw [← hdep];subst hs;rfl
    have e:σ i=i:=hout i (by omega);rw [e] at q1 q2 q3;refine ⟨b0,q1,q2,?_⟩
    show _=(μ (σ i)).blk
    rw [e];exact q3
   ·exact .inr q
  ·obtain ⟨b',h1,h2⟩:=E.keep i b hi;have hl:=O.low i b hi;have hO:O.out.length=out.length:=by rw [← hdep];subst hs;rfl
   have e:i.d≠out.length:=by omega
   refine ⟨b',by rw [far i e];exact h1,?_⟩
   show qo b (O.μ i) b' (μ (σ i))
   rw [hout i e];exact h2
 ·rw [← hdep];subst hs hs';rfl
end
end Go.Lx
namespace Go.Lx
inductive Slot (α:Type) where
 | c (f:α→D)
 | h (t sz:Nat) (len:α→Nat) (g:α→List D)
def Slot.cell {α:Type} (d j:Nat) (x:α):Slot α→A
 | .c f => .d (f x)
 | .h t _ len _ => .ref ⟨d,t,j⟩ 0 (len x) (len x)
def NF {α:Type} (d:Nat) (sl:List (Slot α)) (j:Nat) (x:α):List A:=sl.map (Slot.cell d j x)
def Es {α:Type} (d:Nat) (sl:List (Slot α)):Nat→List α→List (List A)
 | _,[]=>[]
 | j,x::xs=>NF d sl j x::Es d sl (j+1) xs
def Gu {α:Type} (d:Nat) (sl:List (Slot α)) (xs:List α):List (List A):=Es d sl 0 xs
def xZ {α:Type} (sz:Nat) (g:α→List D) (xs:List α):Blk := .fam (xs.map fun x => .arr sz false (g x))
section
variable {α:Type} {d:Nat} {sl:List (Slot α)}
theorem DX:∀ (xs:List α) (j i:Nat),(Es d sl j xs)[i]?=(xs[i]?).map (NF d sl (j+i))
 | [],_,_=>rfl
 | x::xs,j,0=>rfl
 | x::xs,j,i+1=>by simp only [Es,List.getElem?_cons_succ];rw [DX xs (j+1) i,show j+1+i=j+(i+1) by omega]
theorem Pq (xs:List α) (i:Nat):(Gu d sl xs)[i]?=(xs[i]?).map (NF d sl i):=by
 unfold Gu;rw [DX,gW]
theorem uo {sz:Nat} {g:α→List D} (xs:List α) (m n:Nat):(xZ sz g xs).view m n=(xs[n]?).map fun x => .arr sz false (g x):=by
 simp [xZ,Blk.view]
def Slot.keys:List (Slot α)→List Nat
 | []=>[]
 | .c _::r=>Slot.keys r
 | .h t _ _ _::r=>t::Slot.keys r
theorem OC {j:Nat} {x:α} {i:Id} (h:i∈A.lT (NF d sl j x)):i.d=d∧i.n=j∧i.t∈Slot.keys sl:=by
 induction sl with
 | nil=>cases h
 | cons s r ih =>
  cases s with
  | c f =>
   simp only [NF,iL,Slot.cell,A.lT,A.ids,mf] at h;exact ih h
  | h t sz len g =>
   simp only [NF,iL,Slot.cell,A.lT,A.ids,aU,List.mem_singleton] at h;rcases h with h | h
   ·subst h;exact ⟨rfl,rfl, .head _⟩
   ·obtain ⟨h1,h2,h3⟩:=ih h;exact ⟨h1,h2, .tail _ h3⟩
theorem xy {xs:List α} {i:Id} (h:i∈A.lT (Gu d sl xs).flatten):i.d=d∧i.n < xs.length∧i.t∈Slot.keys sl:=by
 obtain ⟨k,a,h1,h2⟩:=BP h;obtain ⟨e,q1,q2⟩:=List.mem_flatten.1 (dm h1);obtain ⟨n,hn⟩:=jm.1 q1;rw [Pq] at hn;obtain ⟨x,hx,rfl⟩:=aQ.1 hn;obtain ⟨r1,r2,r3⟩:=OC (JM q2 h2);exact ⟨r1,by rw [r2];exact (aC.1 hx).1,r3⟩
end
section
variable {α:Type} {loc loc':Loc} {out:Out} {chg:List (Option Loc)} {sz:Nat} {g:α→List D} {xs:List α} {t m:Nat}
theorem SI {xs:List α} {n:Int} {a:α} (h:at_ xs n=some a):xs[n.toNat]?=some a∧0≤n∧n < xs.length:=by
 unfold at_ at h;split at h
 ·rename_i h0
  have:=(aC.1 h).1;exact ⟨h,h0,by omega⟩
 ·cases h
theorem yE {j:Nat} {a:α} (hl:xm loc t=some (xZ sz g xs)) (ha:xs[j]?=some a):bV loc t j=some (.arr sz false (g a)):=by
 refine E8 (rows:=xs.map fun x => .arr sz false (g x)) hl ?_;rw [eF,ha];rfl
theorem Ei.row {n:Int} {a b:α} (ha:at_ xs n=some a) {ys:List D} (hy:g b=ys):Ei (((t,m),xZ sz g xs)::loc) t n.toNat (.arr sz false ys) (((t,m),xZ sz g (xs.set n.toNat b))::loc):=by
 subst hy;have h:=Ei.r (t:=t) (y := .arr sz false (g b)) (l:=loc) (show (xZ sz g xs).view m n.toNat=some (.arr sz false (g a)) by rw [uo,(SI ha).1];rfl);have e:(xZ sz g xs).into n.toNat (.arr sz false (g b))=xZ sz g (xs.set n.toNat b):=by
  simp only [xZ,Blk.into,List.map_set]
 rw [e] at h;exact h
theorem Ei.then {l0 l1 l2:Loc} {t n u k:Nat} {b c:Blk} (h:Ei l0 t n b l1) (k1:Ei l1 u k c l2) (hc:bV l1 u k=some c):setB l0 t n b=l2:=by
 rw [h.eq];exact k1.same hc
end
section
variable {P:Program} {env:Env} {loc:Loc} {out:Out} {chg:List (Option Loc)} {d:Nat} {ty:TypeId} {pos:String} {af:Array Edge} {gd:Option (Nat×Bool)} {α:Type}
end
end Go.Lx
namespace Go.Lx
section
variable {P:Program} {env:Env} {s s':S} {loc loc':Loc} {out:Out} {chg:List (Option Loc)} {dst:Option Nat} {d:Nat} {ty:TypeId} {pos:String} {af:Array Edge} {gd:Option (Nat×Bool)}
theorem Lm {fs l:Loc} (h:(fs.all fun e=>match e.2 with | .fam []=>true | _=>false)=true) (t n:Nat):bV (fs++l) t n=bV l t n:=by
 induction fs with
 | nil=>rfl
 | cons x fs ih =>
  obtain ⟨⟨a,b⟩,y⟩:=x;simp only [List.all_cons,bF] at h;obtain ⟨h1,h2⟩:=h;rw [List.cons_append];by_cases e:t=a
  ·subst e;rw [iG (by
    cases y with
    | fam rows=>cases rows with | nil=>rfl | cons _ _=>simp at h1
    | _=>simp at h1),ih h2]
  ·rw [jD e,ih h2]
end
end Go.Lx
namespace Go.Lx
def Oi (P:Program) (V:View) (h:Id→Option Blk) (μ:Id→Pl) (sz:Nat) (xs:List (List A)) (cs:List Value):Prop :=
 cs.length=xs.length * sz∧(∀ v∈cs,Plain v)∧∀ (i:Nat) e,xs[i]?=some e→e.length=sz∧∀ (k:Nat) a v,e[k]?=some a→cs[i * sz+k]?=some v→iI P V h μ a v
section
variable {P:Program} {V:View} {h:Id→Option Blk} {μ:Id→Pl} {w:World}
theorem Oi.mono {h':Id→Option Blk} {μ':Id→Pl} {sz:Nat} {xs:List (List A)} {cs:List Value} (H:Oi P V h μ sz xs cs) (K:∀ i b,h i=some b→∃ b',h' i=some b'∧qo b (μ i) b' (μ' i)):Oi P V h' μ' sz xs cs :=
 ⟨H.1,H.2.1,fun i e he=>⟨(H.2.2 i e he).1,fun k a v ha hv=>((H.2.2 i e he).2 k a v ha hv).mono (.refl V) (fun i _ b hb=>K i b hb)⟩⟩
end
section
variable {P:Program} {env:Env} {s s':S} {loc loc':Loc} {out:Out} {chg:List (Option Loc)} {dst:Option Nat} {d:Nat} {ty:TypeId} {pos:String} {af:Array Edge} {gd:Option (Nat×Bool)}
end
end Go.Lx
namespace Go.Lx
def Ql (h:Id→Option Blk) (i:Id) (b:Blk):Prop:=∀ n,(b.one=true→n=0)→h ⟨i.d,i.t,n+i.n⟩=b.view 0 n
def cov (i:Id) (b:Blk) (j:Id):Prop:=j.d=i.d∧j.t=i.t∧(b.one=true→j.n=i.n)
def apartB (i:Id) (b:Blk):List Id→List Blk→Bool
 | j::ids,c::bs=>(!Nat.beq i.t j.t || (b.one&&c.one&&!Nat.beq i.n j.n) || !Nat.beq i.d j.d)&&apartB i b ids bs
 | _,_=>true
theorem EF {i:Id} {b:Blk}:∀ {ids:List Id} {bs:List Blk},apartB i b ids bs=true→∀ (k:Nat) j c,ids[k]?=some j→bs[k]?=some c→i.d=j.d→i.t=j.t→b.one=true∧c.one=true∧i.n≠j.n
 | [],_,_,k,j,c,h1,_,_,_=>by simp at h1
 | j0::ids,[],_,k,j,c,_,h2,_,_=>by simp at h2
 | j0::ids,c0::bs,h,k,j,c,h1,h2,h3,h4=>by
  simp only [apartB,bF] at h;cases k with
  | zero =>
   simp at h1 h2;subst h1 h2;have:=h.1;rw [h3,h4] at this;simp at this;exact ⟨this.1.1,this.1.2,fun e=>by simp [e] at this⟩
  | succ k=>exact EF h.2 k j c (by simpa using h1) (by simpa using h2) h3 h4
inductive FrF (h:Id→Option Blk):List Id→List Blk→Prop where
 | n:FrF h [] []
 | c {i:Id} {b:Blk} {ids:List Id} {bs:List Blk} (e:Ql h i b) (k:FrF h ids bs):FrF h (i::ids) (b::bs)
theorem FrF.at {h:Id→Option Blk} {ids:List Id} {bs:List Blk} (F:FrF h ids bs):∀ (k:Nat) i b,ids[k]?=some i→bs[k]?=some b→Ql h i b:=by
 induction F with
 | n=>intro k i b h;simp at h
 | c e k ih =>
  intro j i b h1 h2;cases j with
  | zero=>simp at h1 h2;subst h1 h2;exact e
  | succ j=>exact ih j i b (by simpa using h1) (by simpa using h2)
theorem FrF.len {h:Id→Option Blk} {ids:List Id} {bs:List Blk} (F:FrF h ids bs):bs.length=ids.length:=by
 induction F with
 | n=>rfl
 | c _ _ ih=>simp [ih]
theorem FrF.mono {h h':Id→Option Blk} {ids:List Id} {bs:List Blk} (F:FrF h ids bs) (hh:∀ (k:Nat) i b,ids[k]?=some i→bs[k]?=some b→∀ n,(b.one=true→n=0)→h' ⟨i.d,i.t,n+i.n⟩=h ⟨i.d,i.t,n+i.n⟩):FrF h' ids bs:=by
 induction F with
 | n=>exact .n
 | c e k ih=>exact .c (fun n hn=>by rw [hh 0 _ _ rfl rfl n hn];exact e n hn) (ih (fun k i b h1 h2=>hh (k+1) i b (by simpa using h1) (by simpa using h2)))
structure yH (out:Out) (chg:List (Option Loc)) (ids:List Id) (bs:List Blk):Prop where
 hit:FrF (⟨[],out,chg⟩:S).get ids bs
 miss:∀ j,(∀ (k:Nat) i b,ids[k]?=some i→bs[k]?=some b→¬ cov i b j)→(⟨[],out,chg⟩:S).get j=(uz out).get j
section
variable {P:Program} {out:Out} {loc loc0 cl c0:Loc} {chg chg':List (Option Loc)} {ids:List Id} {bs:List Blk} {i:Id} {b b0:Blk}
theorem yH.nil:yH out [] [] []:=⟨.n,fun i _=>rfl⟩
theorem yH.one:yH (loc::out) [some loc] [] []:=⟨.n,fun i _=>After.one.miss i (by simp)⟩
theorem yH.full:yH [loc,cl] [some loc,some cl] [] []:=⟨.n,fun i _=>After.full.miss i (by simp)⟩
theorem yH.keep (A:yH out chg ids bs) (h:Ql (uz out).get i b) (hap:apartB i b ids bs=true):yH out chg (i::ids) (b::bs):=by
 refine ⟨.c (fun n hn=>?_) A.hit,fun j hj=>A.miss j (fun k i' b' h1 h2=>hj (k+1) i' b' (by simpa using h1) (by simpa using h2))⟩;rw [A.miss _ (fun k j c h1 h2 hc=>?_)]
 ·exact h n hn
 ·obtain ⟨q1,q2,q3⟩:=hc;simp only at q1 q2 q3;obtain ⟨r1,r2,r3⟩:=EF hap k j c h1 h2 q1 q2;have:=q3 r2;have:=hn r1;omega
structure SA (h:Id→Option Blk) (i:Id) (b:Blk) (h':Id→Option Blk):Prop where
 hit:Ql h' i b
 miss:∀ j,¬ cov i b j→h' j=h j
theorem yH.set (A:yH out chg ids bs) (hp:SA (⟨[],out,chg⟩:S).get i b (⟨[],out,chg'⟩:S).get) (hap:apartB i b ids bs=true):yH out chg' (i::ids) (b::bs):=by
 refine ⟨.c hp.hit (A.hit.mono (fun k j c h1 h2 n hn=>?_)),fun j hj=>?_⟩
 ·refine hp.miss _ ?_
  rintro ⟨q1,q2,q3⟩
  simp only at q1 q2 q3;obtain ⟨r1,r2,r3⟩:=EF hap k j c h1 h2 q1.symm q2.symm;have:=q3 r1;have:=hn r2;omega
 ·rw [hp.miss j (hj 0 i b rfl rfl)];exact A.miss j (fun k i' b' h1 h2=>hj (k+1) i' b' (by simpa using h1) (by simpa using h2))
theorem SA.one (hg:(⟨[],out,chg⟩:S).get i=some b0) (hs:(⟨[],out,chg⟩:S).set i b=⟨[],out,chg'⟩) (hone:b.one=true:=by rfl):SA (⟨[],out,chg⟩:S).get i b (⟨[],out,chg'⟩:S).get:=by
 have hu:=(S.nH hg b hone).1;rw [hs] at hu;refine ⟨fun n hn=>?_,fun j hj=>?_⟩
 ·have:=hn hone;subst this;rw [gW,hu,rZ hone,if_pos rfl];exact upd_same _ _ _
 ·rw [hu,upd_ne]
  rintro rfl
  exact hj ⟨rfl,rfl,fun _=>rfl⟩
def Ve (l:Loc) (t:Nat):Bool:=(match xm l t with | some (.fam _)=>true | _=>false)&&Nat.beq (l.filter fun e=>Nat.beq e.1.1 t).length 1
end
theorem BJ {α:Type} (sz:Nat) (g:α→List D):∀ (xs:List α),Blk.lT (xs.map fun x=>Blk.arr sz false (g x))=[]
 | []=>rfl
 | x::xs=>by simp [Blk.lT,Blk.ids,BJ sz g xs]
inductive Ib (cbs:List Blk):List Blk→Prop where
 | n:Ib cbs []
 | c {b:Blk} {r:List Blk} (h:(b.ids.all fun i=>(jL cbs i).isSome)=true) (k:Ib cbs r):Ib cbs (b::r)
 | f {α:Type} {sz:Nat} {g:α→List D} {xs:List α} {r:List Blk} (k:Ib cbs r):Ib cbs (xZ sz g xs::r)
 | e {α:Type} {sz:Nat} {sl:List (Slot α)} {xs:List α} {r:List Blk} (h:∀ t∈Slot.keys sl,∃ (sz:Nat) (g:α→List D),cbs[t]?=some (xZ sz g xs)) (k:Ib cbs r):Ib cbs (.nest sz (Gu 0 sl xs)::r)
theorem Ib.ok {cbs r:List Blk} (H:Ib cbs r):∀ b∈r,∀ i∈b.ids,∃ c,jL cbs i=some c:=by
 induction H with
 | n=>intro b hb;cases hb
 | c h k ih =>
  intro b hb i hi;rcases iM.1 hb with rfl | hb
  ·exact gX.1 (aW.1 h i hi)
  ·exact ih b hb i hi
 | f k ih =>
  intro b hb i hi;rcases iM.1 hb with rfl | hb
  ·simp only [xZ,Blk.ids,BJ] at hi;cases hi
  ·exact ih b hb i hi
 | e h k ih =>
  intro b hb i hi;rcases iM.1 hb with rfl | hb
  ·obtain ⟨q1,q2,q3⟩:=xy hi;obtain ⟨sz,g,hk⟩:=h _ q3;unfold jL;rw [if_pos q1,hk,ag,uo,ax q2];exact ⟨_,rfl⟩
  ·exact ih b hb i hi
inductive H9 (ids:List Id):List Id→List Blk→Prop where
 | n:H9 ids [] []
 | c {j:Id} {b:Blk} {is:List Id} {r:List Blk} (h:(b.ids.all fun i=>Nat.ble (rho ids i).d j.d)=true) (k:H9 ids is r):H9 ids (j::is) (b::r)
 | f {α:Type} {sz:Nat} {g:α→List D} {xs:List α} {j:Id} {is:List Id} {r:List Blk} (k:H9 ids is r):H9 ids (j::is) (xZ sz g xs::r)
 | e {α:Type} {sz:Nat} {sl:List (Slot α)} {xs:List α} {j:Id} {is:List Id} {r:List Blk} (h:∀ t∈Slot.keys sl,∃ i,ids[t]?=some i∧i.d=j.d) (k:H9 ids is r):H9 ids (j::is) (.nest sz (Gu 0 sl xs)::r)
theorem H9.ok {ids is:List Id} {r:List Blk} (H:H9 ids is r):∀ (k:Nat) j b,is[k]?=some j→r[k]?=some b→∀ i∈b.ids,(rho ids i).d≤j.d:=by
 induction H with
 | n=>intro k j b h;simp at h
 | c h k ih =>
  intro n j b h1 h2 i hi;cases n with
  | zero=>simp at h1 h2;subst h1 h2;exact dQ (aW.1 h i hi)
  | succ n=>exact ih n j b (by simpa using h1) (by simpa using h2) i hi
 | f k ih =>
  intro n j b h1 h2 i hi;cases n with
  | zero=>simp at h1 h2;subst h1 h2;simp only [xZ,Blk.ids,BJ] at hi;cases hi
  | succ n=>exact ih n j b (by simpa using h1) (by simpa using h2) i hi
 | e h k ih =>
  intro n j b h1 h2 i hi;cases n with
  | zero =>
   simp at h1 h2;subst h1 h2;obtain ⟨q1,q2,q3⟩:=xy hi;obtain ⟨x,hx,hd⟩:=h _ q3;unfold rho;rw [if_pos q1,hx];exact Nat.le_of_eq hd
  | succ n=>exact ih n j b (by simpa using h1) (by simpa using h2) i hi
inductive Ud (ρ:Id→Id):List Blk→List Blk→Prop where
 | n:Ud ρ [] []
 | c {b b':Blk} {r r':List Blk} (h:b.ren ρ=b') (k:Ud ρ r r'):Ud ρ (b::r) (b'::r')
theorem Ud.eq {ρ:Id→Id} {r r':List Blk} (h:Ud ρ r r'):r.map (Blk.ren ρ)=r':=by
 induction h with
 | n=>rfl
 | c h k ih=>simp [h,ih]
section
variable {P:Program} {env env':Env} {loc loc':Loc} {out:Out} {chg:List (Option Loc)}
def Qx (all:Loc) (out:Out) (i:Id):Bool:=(bV all i.t i.n).isSome || !Nat.beq i.d out.length
theorem MI {all:Loc} {i:Id} (h:Qx all out i=true) (hd:i.d=out.length):∃ b,bV all i.t i.n=some b:=by
 unfold Qx at h;rw [hd] at h;simp at h;exact gX.1 h
inductive KD (all:Loc) (out:Out):Env→Prop where
 | n:KD all out []
 | c {t:Nat} {v:A} {r:Env} (h:(v.ids.all (Qx all out))=true) (k:KD all out r):KD all out ((t,v)::r)
 | r {t u j:Nat} {v:A} {d:Nat} {b:Blk} {r:Env} (hv:v.ids=[⟨d,u,j⟩]) (h:bV all u j=some b) (k:KD all out r):KD all out ((t,v)::r)
theorem KD.ok {all:Loc} {e:Env} (H:KD all out e):∀ i∈wo e,i.d=out.length→∃ b,bV all i.t i.n=some b:=by
 induction H with
 | n=>intro i hi;cases hi
 | c h k ih =>
  intro i hi hd;simp only [wo,aU] at hi;rcases hi with hi | hi
  ·exact MI (aW.1 h i hi) hd
  ·exact ih i hi hd
 | r hv h k ih =>
  intro i hi hd;simp only [wo,aU] at hi;rcases hi with hi | hi
  ·rw [hv] at hi;cases hi with
   | head=>exact ⟨_,h⟩
   | tail _ hi=>cases hi
  ·exact ih i hi hd
inductive Ig (all:Loc) (out:Out):Loc→Prop where
 | n:Ig all out []
 | c {k:Nat×Nat} {b:Blk} {r:Loc} (h:(b.ids.all (Qx all out))=true) (k':Ig all out r):Ig all out ((k,b)::r)
 | f {α:Type} {k:Nat×Nat} {sz:Nat} {g:α→List D} {xs:List α} {r:Loc} (k':Ig all out r):Ig all out ((k,xZ sz g xs)::r)
 | e {α:Type} {k:Nat×Nat} {d sz:Nat} {sl:List (Slot α)} {xs:List α} {r:Loc} (h:∀ t∈Slot.keys sl,∃ (sz:Nat) (g:α→List D),xm all t=some (xZ sz g xs)) (k':Ig all out r):Ig all out ((k, .nest sz (Gu d sl xs))::r)
theorem Ig.ok {all l:Loc} (H:Ig all out l):∀ i∈vK l,i.d=out.length→∃ b,bV all i.t i.n=some b:=by
 induction H with
 | n=>intro i hi;cases hi
 | c h k ih =>
  intro i hi hd;simp only [vK,aU] at hi;rcases hi with hi | hi
  ·exact MI (aW.1 h i hi) hd
  ·exact ih i hi hd
 | f k ih =>
  intro i hi hd;simp only [vK,aU] at hi;rcases hi with hi | hi
  ·simp only [xZ,Blk.ids,BJ] at hi;cases hi
  ·exact ih i hi hd
 | e h k ih =>
  intro i hi hd;simp only [vK,aU] at hi;rcases hi with hi | hi
  ·obtain ⟨q1,q2,q3⟩:=xy hi;obtain ⟨sz,g,hk⟩:=h _ q3;exact ⟨_,yE hk (ax q2)⟩
  ·exact ih i hi hd
def swp (d tf j:Nat) (k:Id) (i:Id):Id:=if i=⟨d,tf,j⟩ then k else i
theorem Le.gap {t n:Nat} {fs:Loc} (hn:bV loc t n=none) (hf:(fs.all fun e=>match e.2 with | .fam []=>true | _=>false)=true):Le P env ⟨loc,out,chg⟩ env ⟨((t,n), .gap)::(fs++loc),out,chg⟩:=by
 refine ⟨fun O a w T=>?_⟩;obtain ⟨V,μ,I,R,E,hdep,hsz,hdf⟩:=T;have hfree:S.get ⟨loc,out,chg⟩ ⟨out.length,t,n⟩=none:=by rw [dP];exact hn
 have hget:S.get ⟨((t,n), .gap)::(fs++loc),out,chg⟩=upd (S.get ⟨loc,out,chg⟩) ⟨out.length,t,n⟩ .gap:=by
  funext j
  by_cases e:j.d=out.length
  ·rw [En _ j e,lq rfl,Lm hf];unfold upd;rw [En _ j e];by_cases e1:j=⟨out.length,t,n⟩
   ·subst e1;simp
   ·rw [if_neg e1];by_cases e2:j.t=t
    ·by_cases e3:j.n=n
     ·exfalso;apply e1;cases j;simp only at e e2 e3;subst e e2 e3;rfl
     ·rw [if_pos e2,if_neg e3]
    ·rw [if_neg e2]
  ·rw [OV _ loc j e,upd_ne _ _ (fun q=>e (by rw [q]))]
 obtain ⟨I',E'⟩:=I.lay (w':=w) hfree .gap ⟨0,0,true,0⟩ (fun _ _=>rfl) rfl rfl rfl (bu _) (fun q=>by cases q) rfl;exact ⟨V,_,by rw [hget];exact I',by rw [hget];exact fun u y hy=>E'.zI (R u y hy),by rw [hget];exact E.trans E',hdep,hsz,hdf⟩
end
end Go.Lx
namespace Go.Lx
section
variable {P:Program} {env env':Env} {loc loc':Loc} {out:Out} {chg:List (Option Loc)}
theorem Rj {d tf j:Nat} {k:Id} (i:Id) (h:i.t≠tf):swp d tf j k i=i:=by
 unfold swp;rw [if_neg]
 rintro rfl
 exact h rfl
def Vw (tf:Nat) (is:List Id):Bool:=is.all fun i=>!Nat.beq i.t tf
theorem Tc {tf:Nat} {is:List Id} (h:Vw tf is=true) {d j:Nat} {k:Id}:∀ i∈is,swp d tf j k i=i:=fun i hi=>Rj i (fun e=>by
 have:=aW.1 h i hi;rw [e] at this;simp at this)
inductive ED (loc:Loc) (d tf j:Nat) (k:Id):Loc→Prop where
 | n:ED loc d tf j k []
 | c {a m:Nat} {b:Blk} {r:Loc} (h:bV loc a m=some b) (ho:b.one=true) (hf:Vw tf b.ids=true) (ha:Nat.beq a tf=false) (q:ED loc d tf j k r):ED loc d tf j k (((a,m),b)::r)
 | g {α:Type} {a sz:Nat} {g:α→List D} {xs ys:List α} {r:Loc} (h:xm loc a=some (xZ sz g ys)) (he:xZ sz g xs=xZ sz g ys) (ha:Nat.beq a tf=false) (q:ED loc d tf j k r):ED loc d tf j k (((a,0),xZ sz g xs)::r)
 | e {a m sz:Nat} {xs ys:List (List A)} {r:Loc} (h:bV loc a m=some (.nest sz ys)) (he:xs.map (A.uJ (swp d tf j k))=ys) (ha:Nat.beq a tf=false) (q:ED loc d tf j k r):ED loc d tf j k (((a,m), .nest sz xs)::r)
 | f {α:Type} {sz:Nat} {g:α→List D} {xs:List α} {r:Loc} (h:∀ (i:Nat) x,xs[i]?=some x→bV loc (swp d tf j k ⟨d,tf,i⟩).t (swp d tf j k ⟨d,tf,i⟩).n=some (.arr sz false (g x))) (q:ED loc d tf j k r):ED loc d tf j k (((tf,0),xZ sz g xs)::r)
theorem ED.ok {d tf j:Nat} {k:Id} {l:Loc} (H:ED loc d tf j k l):∀ (i:Id) b,i.d=d→bV l i.t i.n=some b→bV loc (swp d tf j k i).t (swp d tf j k i).n=some (b.ren (swp d tf j k)):=by
 have ne:∀ {a:Nat},Nat.beq a tf=false→a≠tf:=fun h e=>by rw [e] at h;simp at h
 induction H with
 | n=>intro i b _ h;cases h
 | @c a m b0 r h ho hf ha q ih =>
  intro i b hd hb;rw [lq ho] at hb;split at hb
  ·rename_i e1
   split at hb
   ·rename_i e2
    cases hb;rw [Rj i (by rw [e1];exact ne ha),e1,e2,h,Blk.zB b0 (Tc hf)]
   ·exact ih i b hd hb
  ·exact ih i b hd hb
 | @g α a sz g xs ys r h he ha q ih =>
  intro i b hd hb;by_cases e1:i.t=a
  ·rw [e1] at hb;rw [he] at hb;cases hv:(xZ sz g ys).view 0 i.n with
   | some y =>
    rw [ji hv] at hb;cases hb;rw [Rj i (by rw [e1];exact ne ha),e1];rw [uo] at hv;obtain ⟨x,hx,rfl⟩:=aQ.1 hv;exact yE h hx
   | none=>rw [iG hv] at hb;exact ih i b hd (by rw [e1];exact hb)
  ·rw [jD e1] at hb;exact ih i b hd hb
 | @e a m sz xs ys r h he ha q ih =>
  intro i b hd hb;rw [lq rfl] at hb;split at hb
  ·rename_i e1
   split at hb
   ·rename_i e2
    cases hb;rw [Rj i (by rw [e1];exact ne ha),e1,e2,h];simp only [Blk.ren,he]
   ·exact ih i b hd hb
  ·exact ih i b hd hb
 | @f α sz g xs r h q ih =>
  intro i b hd hb;by_cases e1:i.t=tf
  ·cases hv:(xZ sz g xs).view 0 i.n with
   | some y =>
    rw [e1,ji hv] at hb;cases hb;rw [uo] at hv;obtain ⟨x,hx,rfl⟩:=aQ.1 hv;have:=h i.n x hx;have ei:i=⟨d,tf,i.n⟩:=by cases i;simp only at hd e1 ⊢;subst hd e1;rfl
    rw [← ei] at this;exact this
   | none=>rw [e1,iG hv] at hb;exact ih i b hd (by rw [e1];exact hb)
  ·rw [jD e1] at hb;exact ih i b hd hb
inductive KF {α:Type} (Q:Nat→Nat→(α→Nat)→(α→List D)→Prop):List (Slot α)→Prop where
 | n:KF Q []
 | c {f:α→D} {r:List (Slot α)} (k:KF Q r):KF Q (.c f::r)
 | h {t z:Nat} {len:α→Nat} {g:α→List D} {r:List (Slot α)} (q:Q t z len g) (k:KF Q r):KF Q (.h t z len g::r)
theorem KF.ok {α:Type} {Q:Nat→Nat→(α→Nat)→(α→List D)→Prop} {sl:List (Slot α)} (H:KF Q sl):∀ (k:Nat) t z len g,sl[k]?=some (.h t z len g)→Q t z len g:=by
 induction H with
 | n=>intro k t z len g h;simp at h
 | c k ih =>
  intro n t z len g h;cases n with
  | zero=>simp at h
  | succ n=>exact ih n t z len g (by simpa using h)
 | h q k ih =>
  intro n t z len g h;cases n with
  | zero=>simp at h;obtain ⟨rfl,rfl,rfl,rfl⟩:=h;exact q
  | succ n=>exact ih n t z len g (by simpa using h)
inductive RdC (s:S):List A→List D→Prop where
 | n:RdC s [] []
 | c {a:A} {x:D} {r:List A} {q:List D} (h:RdA s (fun _=>True) a x) (k:RdC s r q):RdC s (a::r) (x::q)
theorem RdC.ok {s:S} {cs:List A} {ds:List D} (H:RdC s cs ds):ds.length=cs.length∧∀ (k:Nat) a d,cs[k]?=some a→ds[k]?=some d→RdA s (fun _=>True) a d:=by
 induction H with
 | n=>exact ⟨rfl,fun k a d h=>by simp at h⟩
 | c h k ih =>
  refine ⟨by simp [ih.1],fun n a d h1 h2=>?_⟩;cases n with
  | zero=>simp at h1 h2;subst h1 h2;exact h
  | succ n=>exact ih.2 n a d (by simpa using h1) (by simpa using h2)
inductive Uc (s:S) (K:Id→Prop):List A→List D→Prop where
 | n:Uc s K [] []
 | c {a:A} {x:D} {r:List A} {q:List D} (h:RdA s K a x) (k:Uc s K r q):Uc s K (a::r) (x::q)
theorem Uc.ok {s:S} {K:Id→Prop} {cs:List A} {ds:List D} (H:Uc s K cs ds):ds.length=cs.length∧∀ (k:Nat) a d,cs[k]?=some a→ds[k]?=some d→RdA s K a d:=by
 induction H with
 | n=>exact ⟨rfl,fun k a d h=>by simp at h⟩
 | c h k ih =>
  refine ⟨by simp [ih.1],fun n a d h1 h2=>?_⟩;cases n with
  | zero=>simp at h1 h2;subst h1 h2;exact h
  | succ n=>exact ih.2 n a d (by simpa using h1) (by simpa using h2)
end
end Go.Lx
