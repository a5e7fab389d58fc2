/- Values of the language, told by plain data; contracts of functions and operations, and how they are shown: part 5. -/
import Derived.Test.YtiidkobbkanciaaGreatKit4
set_option linter.all false
namespace Go.Lx
section
variable {P:Program} {env env':Env}
variable {loc loc' cl cl' c0:Loc}
theorem U5 (l c:Loc) (i:Id):S.get ⟨l,[c0],[some c]⟩ i=if i.d=1 then bV l i.t i.n else if i.d=0 then bV c i.t i.n else none:=by
 obtain ⟨d,t,n⟩:=i
 match d with
 | 0=>rfl
 | 1=>rfl
 | d+2 =>
  unfold S.get S.dep;simp
def TT (k j:Nat) (t2 n2:Nat) (i:Id):Id:=if i=⟨0,k,j⟩ then ⟨1,t2,n2⟩ else i
theorem P8 {k j t2 n2:Nat} (i:Id) (h:i.d≠0∨i.t≠k∨i.n≠j):TT k j t2 n2 i=i:=by
 unfold TT;rw [if_neg]
 rintro rfl
 simp at h
def U3 (k:Nat) (is:List Id):Bool:=is.all fun i=>!Nat.beq i.t k || !Nat.beq i.d 0
theorem OJ {k:Nat} {is:List Id} (h:U3 k is=true) {j t2 n2:Nat}:∀ i∈is,TT k j t2 n2 i=i:=fun i hi=>P8 i (by
 have:=aW.1 h i hi;by_cases e:i.t=k
 ·rw [e] at this;simp at this;left;intro q;rw [q] at this;simp at this
 ·exact .inr (.inl e))
inductive Qo (loc:Loc) (k:Nat):Loc→Prop where
 | n:Qo loc k []
 | c {a m:Nat} {b:Blk} {r:Loc} (h:bV loc a m=some b) (ho:b.one=true) (hf:U3 k b.ids=true) (q:Qo loc k r):Qo loc k (((a,m),b)::r)
 | g {α:Type} {a sz:Nat} {g:α→List D} {xs:List α} {r:Loc} (h:xm loc a=some (xZ sz g xs)) (q:Qo loc k r):Qo loc k (((a,0),xZ sz g xs)::r)
 | e {α:Type} {a m sz:Nat} {sl:List (Slot α)} {xs:List α} {r:Loc} (h:bV loc a m=some (.nest sz (Gu 1 sl xs))) (q:Qo loc k r):Qo loc k (((a,m), .nest sz (Gu 1 sl xs))::r)
theorem Qo.ok {k j t2 n2:Nat} {l:Loc} (H:Qo loc k l):∀ (t n:Nat) b,bV l t n=some b→bV loc t n=some b∧b.ren (TT k j t2 n2)=b:=by
 induction H with
 | n=>intro t n b h;cases h
 | @c a m b0 r h ho hf q ih =>
  intro t n b hb;rw [lq ho] at hb;split at hb
  ·rename_i e1
   split at hb
   ·rename_i e2
    cases hb;rw [e1,e2];exact ⟨h,Blk.zB _ (OJ hf)⟩
   ·exact ih t n b hb
  ·exact ih t n b hb
 | @g α a sz g xs r h q ih =>
  intro t n b hb;by_cases e1:t=a
  ·rw [e1] at hb ⊢;cases hv:(xZ sz g xs).view 0 n with
   | some y =>
    rw [ji hv] at hb;cases hb;rw [uo] at hv;obtain ⟨x,hx,rfl⟩:=aQ.1 hv;exact ⟨yE h hx,rfl⟩
   | none=>rw [iG hv] at hb;exact ih a n b hb
  ·rw [jD e1] at hb;exact ih t n b hb
 | @e α a m sz sl xs r h q ih =>
  intro t n b hb;rw [lq rfl] at hb;split at hb
  ·rename_i e1
   split at hb
   ·rename_i e2
    cases hb;rw [e1,e2];exact ⟨h,Blk.zB _ (fun i hi=>P8 i (.inl (by rw [(xy hi).1];decide)))⟩
   ·exact ih t n b hb
  ·exact ih t n b hb
inductive Ol (loc cl:Loc) (k j t2 n2:Nat):Loc→Prop where
 | n:Ol loc cl k j t2 n2 []
 | c {a:Nat} {b:Blk} {r:Loc} (h:bV cl a 0=some b) (ho:b.one=true) (hf:U3 k b.ids=true) (ha:Nat.beq a k=false) (q:Ol loc cl k j t2 n2 r):Ol loc cl k j t2 n2 (((a,0),b)::r)
 | g {α:Type} {a sz:Nat} {g:α→List D} {xs:List α} {r:Loc} (h:xm cl a=some (xZ sz g xs)) (ha:Nat.beq a k=false) (q:Ol loc cl k j t2 n2 r):Ol loc cl k j t2 n2 (((a,0),xZ sz g xs)::r)
 | e {a sz:Nat} {xs ys:List (List A)} {r:Loc} (h:bV cl a 0=some (.nest sz ys)) (he:xs.map (A.uJ (TT k j t2 n2))=ys) (ha:Nat.beq a k=false) (q:Ol loc cl k j t2 n2 r):Ol loc cl k j t2 n2 (((a,0), .nest sz xs)::r)
 | f {α:Type} {sz:Nat} {g:α→List D} {xs:List α} {r:Loc} (h:∀ (i:Nat) x,xs[i]?=some x→if i=j then bV loc t2 n2=some (.arr sz false (g x)) else bV cl k i=some (.arr sz false (g x))) (q:Ol loc cl k j t2 n2 r):Ol loc cl k j t2 n2 (((k,0),xZ sz g xs)::r)
theorem Ol.ok {k j t2 n2:Nat} {l:Loc} (H:Ol loc cl k j t2 n2 l):∀ (t n:Nat) b,bV l t n=some b→(if t=k∧n=j then bV loc t2 n2 else bV cl t n)=some (b.ren (TT k j t2 n2)):=by
 have ne:∀ {a:Nat},Nat.beq a k=false→a≠k:=fun h e=>by rw [e] at h;simp at h
 induction H with
 | n=>intro t n b h;cases h
 | @c a b0 r h ho hf ha q ih =>
  intro t n b hb;rw [lq ho] at hb;split at hb
  ·rename_i e1
   split at hb
   ·rename_i e2
    cases hb;rw [e1,e2,if_neg (fun q=>ne ha q.1),h,Blk.zB _ (OJ hf)]
   ·exact ih t n b hb
  ·exact ih t n b hb
 | @g α a sz g xs r h ha q ih =>
  intro t n b hb;by_cases e1:t=a
  ·rw [e1] at hb ⊢;cases hv:(xZ sz g xs).view 0 n with
   | some y =>
    rw [ji hv] at hb;cases hb;rw [uo] at hv;obtain ⟨x,hx,rfl⟩:=aQ.1 hv;rw [if_neg (fun q=>ne ha q.1)];exact yE h hx
   | none=>rw [iG hv] at hb;exact ih a n b hb
  ·rw [jD e1] at hb;exact ih t n b hb
 | @e a sz xs ys r h he ha q ih =>
  intro t n b hb;rw [lq rfl] at hb;split at hb
  ·rename_i e1
   split at hb
   ·rename_i e2
    cases hb;rw [e1,e2,if_neg (fun q=>ne ha q.1),h];simp only [Blk.ren,he]
   ·exact ih t n b hb
  ·exact ih t n b hb
 | @f α sz g xs r h q ih =>
  intro t n b hb;by_cases e1:t=k
  ·rw [e1] at hb ⊢;cases hv:(xZ sz g xs).view 0 n with
   | some y =>
    rw [ji hv] at hb;cases hb;rw [uo] at hv;obtain ⟨x,hx,rfl⟩:=aQ.1 hv;have:=h n x hx;by_cases e2:n=j
    ·rw [if_pos ⟨rfl,e2⟩];rw [if_pos e2] at this;exact this
    ·rw [if_neg (fun q=>e2 q.2)];rw [if_neg e2] at this;exact this
   | none=>rw [iG hv] at hb;exact ih k n b hb
  ·rw [jD e1] at hb;exact ih t n b hb
inductive Ia (cl':Loc):Loc→Prop where
 | n:Ia cl' []
 | c {a:Nat} {b:Blk} {r:Loc} (h:bV cl' a 0=some b) (ho:b.one=true) (q:Ia cl' r):Ia cl' (((a,0),b)::r)
 | g {α:Type} {a sz:Nat} {g:α→List D} {xs ys:List α} {r:Loc} (h:xm cl' a=some (xZ sz g ys)) (hp:∀ (i:Nat) x,xs[i]?=some x→ys[i]?=some x) (q:Ia cl' r):Ia cl' (((a,0),xZ sz g xs)::r)
 | e {a sz:Nat} {xs ys:List (List A)} {r:Loc} (h:bV cl' a 0=some (.nest sz ys)) (hl:xs.length≤ys.length) (q:Ia cl' r):Ia cl' (((a,0), .nest sz xs)::r)
theorem Ia.ok {l:Loc} (H:Ia cl' l):∀ (t n:Nat) b,bV l t n=some b→∃ b',bV cl' t n=some b'∧∀ p,qo b p b' p:=by
 induction H with
 | n=>intro t n b h;cases h
 | @c a b0 r h ho q ih =>
  intro t n b hb;rw [lq ho] at hb;split at hb
  ·rename_i e1
   split at hb
   ·rename_i e2
    cases hb;rw [e1,e2];exact ⟨_,h,fun p => .refl _ p⟩
   ·exact ih t n b hb
  ·exact ih t n b hb
 | @g α a sz g xs ys r h hp q ih =>
  intro t n b hb;by_cases e1:t=a
  ·rw [e1] at hb ⊢;cases hv:(xZ sz g xs).view 0 n with
   | some y =>
    rw [ji hv] at hb;cases hb;rw [uo] at hv;obtain ⟨x,hx,rfl⟩:=aQ.1 hv;exact ⟨_,yE h (hp n x hx),fun p => .refl _ p⟩
   | none=>rw [iG hv] at hb;exact ih a n b hb
  ·rw [jD e1] at hb;exact ih t n b hb
 | @e a sz xs ys r h hl q ih =>
  intro t n b hb;rw [lq rfl] at hb;split at hb
  ·rename_i e1
   split at hb
   ·rename_i e2
    cases hb;rw [e1,e2];exact ⟨_,h,fun p=>⟨rfl,hl,fun _=>rfl⟩⟩
   ·exact ih t n b hb
  ·exact ih t n b hb
inductive CS (s:S) (loc cl:Loc) (dd:Nat):Loc→Prop where
 | n:CS s loc cl dd []
 | c {k:Nat×Nat} {b:Blk} {r:Loc} (h:(b.ids.all fun q=>(s.get q).isSome&&Nat.ble q.d dd)=true) (q:CS s loc cl dd r):CS s loc cl dd ((k,b)::r)
 | f {α:Type} {k:Nat×Nat} {sz:Nat} {g:α→List D} {xs:List α} {r:Loc} (q:CS s loc cl dd r):CS s loc cl dd ((k,xZ sz g xs)::r)
 | e1 {α:Type} {k:Nat×Nat} {sz:Nat} {sl:List (Slot α)} {xs:List α} {r:Loc} (hd:dd=1) (h:∀ t∈Slot.keys sl,∃ (sz:Nat) (g:α→List D),xm loc t=some (xZ sz g xs)) (q:CS s loc cl dd r):CS s loc cl dd ((k, .nest sz (Gu 1 sl xs))::r)
 | e0 {α:Type} {k:Nat×Nat} {sz:Nat} {sl:List (Slot α)} {xs:List α} {r:Loc} (h:∀ t∈Slot.keys sl,∃ (sz:Nat) (g:α→List D),xm cl t=some (xZ sz g xs)) (q:CS s loc cl dd r):CS s loc cl dd ((k, .nest sz (Gu 0 sl xs))::r)
theorem CS.ok {dd:Nat} {l:Loc} (H:CS ⟨loc,[c0],[some cl]⟩ loc cl dd l):∀ e∈l,∀ q∈e.2.ids,(∃ c,S.get ⟨loc,[c0],[some cl]⟩ q=some c)∧q.d≤dd:=by
 induction H with
 | n=>intro e he;cases he
 | c h q ih =>
  intro e he x hx;rcases iM.1 he with rfl | he
  ·have:=aW.1 h x hx;simp only [bF] at this;exact ⟨gX.1 this.1,dQ this.2⟩
  ·exact ih e he x hx
 | f q ih =>
  intro e he x hx;rcases iM.1 he with rfl | he
  ·simp only [xZ,Blk.ids,BJ] at hx;cases hx
  ·exact ih e he x hx
 | e1 hd h q ih =>
  intro e he x hx;rcases iM.1 he with rfl | he
  ·obtain ⟨q1,q2,q3⟩:=xy hx;obtain ⟨sz,g,hk⟩:=h _ q3;have hr:=yE hk (ax q2);exact ⟨⟨_,by rw [U5,if_pos q1];exact hr⟩,by omega⟩
  ·exact ih e he x hx
 | e0 h q ih =>
  intro e he x hx;rcases iM.1 he with rfl | he
  ·obtain ⟨q1,q2,q3⟩:=xy hx;obtain ⟨sz,g,hk⟩:=h _ q3;have hr:=yE hk (ax q2);exact ⟨⟨_,by rw [U5,if_neg (by omega),if_pos q1];exact hr⟩,by omega⟩
  ·exact ih e he x hx
theorem Jt {l:Loc} {t n:Nat} {b:Blk} (h:bV l t n=some b):∃ e∈l,b.ids ⊆ e.2.ids:=by
 induction l with
 | nil=>cases h
 | cons x rest ih =>
  obtain ⟨⟨a,m⟩,y⟩:=x;by_cases e:t=a
  ·subst e;cases hv:y.view m n with
   | some z=>rw [ji hv] at h;cases h;exact ⟨_, .head _,Ns hv⟩
   | none=>rw [iG hv] at h;obtain ⟨e,h1,h2⟩:=ih h;exact ⟨e, .tail _ h1,h2⟩
  ·rw [jD e] at h;obtain ⟨e,h1,h2⟩:=ih h;exact ⟨e, .tail _ h1,h2⟩
theorem clo {loc cl c0:Loc} (h1:CS ⟨loc,[c0],[some cl]⟩ loc cl 1 loc) (h0:CS ⟨loc,[c0],[some cl]⟩ loc cl 0 cl):∀ i b,S.get ⟨loc,[c0],[some cl]⟩ i=some b→∀ q∈b.ids,(∃ c,S.get ⟨loc,[c0],[some cl]⟩ q=some c)∧q.d≤i.d:=by
 intro i b hi q hq;rw [U5] at hi;split at hi
 ·rename_i hd
  obtain ⟨e,k1,k2⟩:=Jt hi;rw [hd];exact h1.ok e k1 q (k2 hq)
 ·split at hi
  ·rename_i hd
   obtain ⟨e,k1,k2⟩:=Jt hi;rw [hd];exact h0.ok e k1 q (k2 hq)
  ·cases hi
theorem iJ.conv {s:S} {o:Oper} {v v':A} {dl dl':Delta} (H:iJ P env s o v dl) (hr:eG env o.op=true)
  (hc:∀ (V:View) (μ:Id→Pl) (w:World),Inv P V s.get μ w→∀ cv w',Left P V s μ w (dl.apply s) v cv w'→Left P V s μ w (dl'.apply s) v' cv w'):iJ P env s o v' dl':=by
 refine ⟨.inr ⟨hr,fun V μ w I a R K Q hK=>?_⟩⟩;refine (H.only []).sound I (a:=a) (K:=K) (Q:=Q) ?_ (fun cv w' hl=>hK cv w' (hc V μ w I cv w' hl));intro t v hv;obtain ⟨h1,h2⟩:=C9 hv;unfold Au at h1;rcases aU.1 h1 with h1 | h1
 ·obtain ⟨x,h3,h4⟩:=List.mem_filterMap.1 h1;cases x with
  | tmp u=>cases h4;exact R (.tmp t) (by simpa using h3) v h2
  | _=>cases h4
 ·cases hg:o.guard with
  | none=>rw [hg] at h1;cases h1
  | some jw=>rw [hg] at h1;obtain ⟨g,b⟩:=jw;simp at h1
theorem jB.UM {V:View} {xs:List D} {v:Value} (h:jB P V (.sl xs) v):jB P V (.sl (xs.map wS)) v:=by
 cases h with
 | sl _ a c b o sz ev hc ha h hs hv =>
  have:=jB.sl (P:=P) (V:=V) (xs.map wS) a c b o sz ev (by simpa using hc) (ha.elim (fun q => .inl (by rw [q];rfl)) .inr) (fun i d hd=>by
   rw [eF] at hd;obtain ⟨x,hx,rfl⟩:=aQ.1 hd;exact F7 (h i x hx)) (fun i hi=>hs i (by simpa using hi)) (fun i hi=>hv i (by simpa using hi))
  simpa using this
theorem yL.tight (xs:List D):yL (.tight xs) (.tight (xs.map wS)):=⟨fun P V h μ cv r=>by
 cases r with
 | tight _ a hd =>
  have h1:=jB.UM hd;have h2:(xs.map wS).length=xs.length:=by simp
  rw [← h2] at h1 ⊢;exact .tight _ a h1,fun j hj=>by cases hj⟩
end
end Go.Lx
set_option linter.all false
namespace Go.Lx
section
variable {P:Program} {V:View} {h h':Id→Option Blk} {μ μ':Id→Pl} {w:World}
end
section
variable {P:Program} {env env':Env} {loc loc':Loc} {out:Out} {chg:List (Option Loc)}
end
section
variable {P:Program} {w:World}
end
section
variable {P:Program} {env:Env} {s s':S} {loc loc':Loc} {out:Out} {chg:List (Option Loc)} {dst:Option Nat} {d:Nat} {ty:TypeId} {pos:String} {af:Array Edge} {gd:Option (Nat×Bool)}
end
end Go.Lx
namespace Go.Lx
section
variable {P:Program} {V:View} {μ:Id→Pl} {w:World}
end
section
variable {P:Program} {env:Env} {s s':S} {dst:Option Nat} {ty:TypeId} {pos:String} {af:Array Edge} {gd:Option (Nat×Bool)}
end
end Go.Lx
namespace Go.Lx
section
variable {P:Program} {env:Env} {s s':S} {dst:Option Nat} {ty:TypeId} {pos:String} {af:Array Edge} {gd:Option (Nat×Bool)} {α:Type} {f:α→D} {xs ys v:List α} {id:Id} {t e sz by_ g m:Nat} {z:D}
end
end Go.Lx
namespace Go.Lx
end Go.Lx
namespace Go.Lx
end Go.Lx
set_option linter.all false
namespace Go.Lx
section
variable {P:Program} {env env':Env} {s s':S} {loc loc' c0:Loc} {out:Out} {chg:List (Option Loc)}
theorem tk (h:Le P env s env' s':=by (try simp only [az,aP]);exact trk (by kernel_rfl) (by kernel_rfl) (by kernel_rfl)):Le P env s env' s':=h
theorem tkc (h:Le P env s env' s':=by (try simp only [az,aP]);exact VX (by kernel_rfl) (by kernel_rfl) (by kernel_rfl)):Le P env s env' s':=h
theorem rt {rs:List ResultVar} {r:Ret} (h:Returns P rs env s r:=by exact rt1 (ex:=false) (by exact (.t rfl .n)) (by exact (gd (by rfl))) (by rfl) (by rfl)):Returns P rs env s r:=h
theorem VO {i:Id} {ex:Bool} {o n m n' m':Nat} (h:Nat.blt i.d s.dep=true) (h1:n=n') (h2:m=m'):Gv s ex (.ref i o n m) (.ref i o n' m') []:=by subst h1 h2;exact gro h
theorem yw {rs:List ResultVar} {r:Ret} (h:Returns P rs env s r:=by exact rt2 (ex:=false) (by exact (.t rfl (.t rfl .n))) (by exact (sc (gd (by rfl)) (sc (gd (by rfl)) sn))) (by rfl) (by rfl)):Returns P rs env s r:=h
theorem fj {P:Program} {g:FuncId} {fn:Func} {code:Code} {args:List A} {out:Out} {r:Ret} (hf:P.funcs[g]?=some fn)
  (h:CWp P code (EG 0 args) ⟨[],out,[]⟩ (fun ex e s=>(match ex with | .exit _=>False | _=>True)∧Returns P fn.results.toList e s r)) (hb:fn.body=some code:=by exact rfl) (hn:(fn.name == "runtime.NumGoroutine")=false:=by kernel_rfl)
  (hok:codeOk fn.ntmps code=true:=by kernel_rfl) (hle:Nat.ble args.length fn.ntmps=true:=by kernel_rfl):bU P g args out r:=fi hf hb hn hok hle h
end
section
variable {P:Program} {ops:List Oper} {rest:List (Nat×Oper)} {env:Env} {s:S} {Q:Env→S→Prop} {i d j:Nat} {op:Op} {ty:TypeId} {pos:String} {af:Array Edge} {v:A} {want c:Bool}
def QX (ops:List Oper) (env:Env) (j:Nat):Option A:=((ops[j]?).bind (·.dst)).bind (look env)
theorem U9 (hl:QX ops env j=some (.d (.bool c))) (hb:c=want):GY ops env (some (j,want)):=by
 obtain ⟨t,h1,h2⟩:=dE.1 hl;exact gy h1 h2 hb
theorem Vz (hl:QX ops env j=some (.d (.bool c))) (hb:c=!want):GN ops env (some (j,want)):=by
 obtain ⟨t,h1,h2⟩:=dE.1 hl;exact gn h1 h2 hb
theorem VA (hl:QX ops env j=some .undef):GN ops env (some (j,want)):=by
 obtain ⟨t,h1,h2⟩:=dE.1 hl;exact gu h1 h2
theorem eH (hl:QX ops env j=some (.d (.bool c))) (hb:c=!want) (k:RWp P ops rest ((d, .undef)::env) s Q):RWp P ops ((i,⟨some d,op,ty,pos,af,some (j,want)⟩)::rest) env s Q:=un (Vz hl hb) k
theorem qJ (hl:QX ops env j=some .undef) (k:RWp P ops rest ((d, .undef)::env) s Q):RWp P ops ((i,⟨some d,op,ty,pos,af,some (j,want)⟩)::rest) env s Q:=un (VA hl) k
theorem dU (hl:QX ops env j=some (.d (.bool c))) (hb:c=want) (h:iJ P env s ⟨some d,op,ty,pos,af,some (j,want)⟩ v .same) (k:RWp P ops rest ((d,v)::env) s Q):RWp P ops ((i,⟨some d,op,ty,pos,af,some (j,want)⟩)::rest) env s Q:=us (U9 hl hb) h k
theorem aG {x:Operand} (h:ay (look env) x=some v) (k:RWp P ops rest ((d,v)::env) s Q):RWp P ops ((i,⟨some d, .move x,ty,pos,af,none⟩)::rest) env s Q:=ts (mv h) k
theorem bM {t:Nat} (h:look env t=some v) (k:RWp P ops rest ((d,v)::env) s Q):RWp P ops ((i,⟨some d, .assign (.tmp t),ty,pos,af,none⟩)::rest) env s Q:=ts (as_ h) k
theorem eU {z:Value} {x:D} (h:ofValue z=some x) (hn:notNil x=true) (k:RWp P ops rest ((d, .d x)::env) s Q):RWp P ops ((i,⟨some d, .assign (.const z),ty,pos,af,none⟩)::rest) env s Q:=ts (ac h hn) k
theorem mQ {x:Operand} {t t2:TypeId} {fi ft off sz o i2 d2:Nat} {ty2:TypeId} {pos2:String} {af2:Array Edge} {e y:D} (hf:Fld P t fi ft off sz) (ht:Eh P t2) (hz:Nat.beq sz 0=false) (hx:ay (look env) x=some (.pimm e o)) (hv:e.cells[o+off]?=some y)
  (k:RWp P ops rest ((d2, .d y)::(d, .pimm e (o+off))::env) s Q):RWp P ops ((i,⟨some d, .fieldAddr t x fi,ty,pos,af,none⟩)::(i2,⟨some d2, .load t2 (.tmp d),ty2,pos2,af2,none⟩)::rest) env s Q :=
 ts (faI hf hz hx) (ts (ldI ht (by simp [ay,look]) hv) k)
end
section
variable {P:Program} {F:Facts} {ops:List Oper} {b:List Nat} {rest:List (Nat×Oper)} {env:Env} {s:S} {M R:List Nat} {Q:Env→S→Prop} {i d j:Nat} {op:Op} {ty:TypeId} {pos:String} {af:Array Edge} {v:A} {want c:Bool} {adds:List (Nat×Loc)}
theorem pU (hl:QX ops env j=some (.d (.bool c))) (hb:c=!want) (k:DWp P F ops b rest adds ((d, .undef)::env) s M R Q):DWp P F ops b ((i,⟨some d,op,ty,pos,af,some (j,want)⟩)::rest) adds env s M R Q:=vn (Vz hl hb) k
theorem UF (hl:QX ops env j=some .undef) (k:DWp P F ops b rest adds ((d, .undef)::env) s M R Q):DWp P F ops b ((i,⟨some d,op,ty,pos,af,some (j,want)⟩)::rest) adds env s M R Q:=vn (VA hl) k
theorem kM (hl:QX ops env j=some (.d (.bool c))) (hb:c=want) (h:iJ P env s ⟨some d,op,ty,pos,af,some (j,want)⟩ v .same) {rd:Bool} (hr:eG env op=rd) (k:DWp P F ops b rest [] ((d,v)::env) s M (Nj rd i R) Q):DWp P F ops b ((i,⟨some d,op,ty,pos,af,some (j,want)⟩)::rest) [] env s M R Q:=vs (U9 hl hb) h hr k
theorem gG {x:Operand} (h:ay (look env) x=some v) (k:DWp P F ops b rest [] ((d,v)::env) s M R Q):DWp P F ops b ((i,⟨some d, .move x,ty,pos,af,none⟩)::rest) [] env s M R Q:=ds (mv h) rfl k
theorem ql (h:Q env (s.plus (ou adds))) (ho:xK ops M R=true:=by kernel_rfl):DWp P F ops b [] adds env s M R Q:=dn ho h
end
section
variable {P:Program} {env:Env} {s:S} {loc:Loc} {out:Out} {dst:Option Nat} {ty:TypeId} {pos:String} {af:Array Edge} {gd:Option (Nat×Bool)} {args:Array Operand} {ts:Array TypeId} {xs ys:List A} {g:FuncId} {v:A} {x y z u:D} {Q:Ex→Env→S→Prop} {a b:Code}
theorem iV (ha:dR (look env) args.toList=some xs) (hl:Eg (fun _=>false) 0 ⟨loc,out,[]⟩ xs ys none) (hf:bU P g (ys++[]) (loc::out) ⟨v,[]⟩) (hv:v.xq=false:=by exact rfl) :
  iJ P env ⟨loc,out,[]⟩ ⟨dst, .call ⟨.value (.func g),args,ts⟩,ty,pos,af,gd⟩ v .same:=cln (f:=fun _=>false) kf ha hl (dF _) hf hv
theorem Ap:Eg (fun _=>false) 0 s [.d x] [.d x] none := .c rfl le1 .n
theorem vM:Eg (fun _=>false) 0 s [.d x, .d y] [.d x, .d y] none := .c rfl le1 (.c rfl le1 .n)
theorem Aq:Eg (fun _=>false) 0 s [.d x, .d y, .d z] [.d x, .d y, .d z] none := .c rfl le1 (.c rfl le1 (.c rfl le1 .n))
theorem UR:Eg (fun _=>false) 0 s [.d x, .d y, .d z, .d u] [.d x, .d y, .d z, .d u] none := .c rfl le1 (.c rfl le1 (.c rfl le1 (.c rfl le1 .n)))
theorem lI {T e:Env} (k:Nat) (he:e.drop k=env) (h1:Qg e T) (h2:((e.take k).all fun p=>(look T p.1).isSome || (look env p.1).isNone)=true:=by kernel_rfl):Le P e s (T++env) s:=trD k he h1 h2
theorem sG {t:TypeId} {ps:Array (Nat×Operand)} {vs:List (Nat×A)} {v:A} (hp:oH (look env) ps.toList=some vs) (hv:zn P t vs=some v:=by kernel_rfl):iJ P env s ⟨dst, .build t ps,ty,pos,af,gd⟩ v .same:=bld hp hv
theorem xw {id:Nat} {ops:Array Oper} (hm:P.follows .mixedOrders=true) {w:List Nat} (h:DWp P [] ops.toList w (mM 0 ops.toList) [] env s [] [] (fun e s'=>CWp P b e s' Q)) (hb:eQ ops.toList=w:=by kernel_rfl):CWp P (.seq (.region id ops true) b) env s Q:=sd hm hb h
theorem dG (h:CWp P a env s (fun ex e s=>match ex with | .norm=>CWp P b e s Q | ex=>Q ex e s)):CWp P (.seq a b) env s Q := .seq h
theorem fU (h:Q .ret env s):CWp P .ret env s Q := .ret h
theorem gJ (h:Q .norm env s):CWp P .skip env s Q := .skip h
end
theorem iJ.yt {P:Program} {env:Env} {o:Oper} {s s1 s2:S} {v v':A} (H:iJ P env s o v (.set s1)) (hr:eG env o.op=true) (hl:Ie s1 v v' (some s2)):iJ P env s o v' (.set s2) :=
 H.conv hr fun V μ w I cv w' h=>by
  obtain ⟨V1,μ1,h1,h2,h3,h4⟩:=h;obtain ⟨V2,L,H2⟩:=Fz v h2 hl.h h1;exact ⟨V2,μ1,H2,L.inv,h3.trans L.evo,L.dep.trans h4⟩
end Go.Lx
