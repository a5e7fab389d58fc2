/- Values of the language, told by plain data; contracts of functions and operations, and how they are shown: part 5. -/
import Derived.Test.YtbgaclfkpjnmgaaGreatKit4
set_option linter.all false
namespace Go.Lx
section
variable {P:Program} {env env':Env}
variable {loc loc' cl cl' c0:Loc}
theorem YU (l c:Loc) (i:Id):S.get ⟨l,[c0],[some c]⟩ i=if i.d=1 then dG l i.t i.n else if i.d=0 then dG c i.t i.n else none:=by
 obtain ⟨d,t,n⟩:=i
 match d with
 | 0=>rfl
 | 1=>rfl
 | d+2 =>
  unfold S.get S.dep;simp
def Zw (k j:Nat) (t2 n2:Nat) (i:Id):Id:=if i=⟨0,k,j⟩ then ⟨1,t2,n2⟩ else i
theorem VU {k j t2 n2:Nat} (i:Id) (h:i.d≠0∨i.t≠k∨i.n≠j):Zw k j t2 n2 i=i:=by
 unfold Zw;rw [if_neg]
 rintro rfl
 simp at h
def aaF (k:Nat) (is:List Id):Bool:=is.all fun i=>!Nat.beq i.t k || !Nat.beq i.d 0
theorem UC {k:Nat} {is:List Id} (h:aaF k is=true) {j t2 n2:Nat}:∀ i∈is,Zw k j t2 n2 i=i:=fun i hi=>VU i (by
 have:=aY.1 h i hi;by_cases e:i.t=k
 ·rw [e] at this;simp at this;left;intro q;rw [q] at this;simp at this
 ·exact .inr (.inl e))
inductive We (loc:Loc) (k:Nat):Loc→Prop where
 | n:We loc k []
 | c {a m:Nat} {b:Blk} {r:Loc} (h:dG loc a m=some b) (ho:b.one=true) (hf:aaF k b.ids=true) (q:We loc k r):We loc k (((a,m),b)::r)
 | g {α:Type} {a sz:Nat} {g:α→List D} {xs:List α} {r:Loc} (h:rV loc a=some (qo sz g xs)) (q:We loc k r):We loc k (((a,0),qo sz g xs)::r)
 | e {α:Type} {a m sz:Nat} {sl:List (Slot α)} {xs:List α} {r:Loc} (h:dG loc a m=some (.nest sz (nM 1 sl xs))) (q:We loc k r):We loc k (((a,m), .nest sz (nM 1 sl xs))::r)
theorem We.ok {k j t2 n2:Nat} {l:Loc} (H:We loc k l):∀ (t n:Nat) b,dG l t n=some b→dG loc t n=some b∧b.ren (Zw k j t2 n2)=b:=by
 induction H with
 | n=>intro t n b h;cases h
 | @c a m b0 r h ho hf q ih =>
  intro t n b hb;rw [kN ho] at hb;split at hb
  ·rename_i e1
   split at hb
   ·rename_i e2
    cases hb;rw [e1,e2];exact ⟨h,Blk.Ce _ (UC hf)⟩
   ·exact ih t n b hb
  ·exact ih t n b hb
 | @g α a sz g xs r h q ih =>
  intro t n b hb;by_cases e1:t=a
  ·rw [e1] at hb ⊢;cases hv:(qo sz g xs).view 0 n with
   | some y =>
    rw [jf hv] at hb;cases hb;rw [rU] at hv;obtain ⟨x,hx,rfl⟩:=aJ.1 hv;exact ⟨lK h hx,rfl⟩
   | none=>rw [iD hv] at hb;exact ih a n b hb
  ·rw [iY e1] at hb;exact ih t n b hb
 | @e α a m sz sl xs r h q ih =>
  intro t n b hb;rw [kN rfl] at hb;split at hb
  ·rename_i e1
   split at hb
   ·rename_i e2
    cases hb;rw [e1,e2];exact ⟨h,Blk.Ce _ (fun i hi=>VU i (.inl (by rw [(wM hi).1];decide)))⟩
   ·exact ih t n b hb
  ·exact ih t n b hb
inductive TF (loc cl:Loc) (k j t2 n2:Nat):Loc→Prop where
 | n:TF loc cl k j t2 n2 []
 | c {a:Nat} {b:Blk} {r:Loc} (h:dG cl a 0=some b) (ho:b.one=true) (hf:aaF k b.ids=true) (ha:Nat.beq a k=false) (q:TF loc cl k j t2 n2 r):TF loc cl k j t2 n2 (((a,0),b)::r)
 | g {α:Type} {a sz:Nat} {g:α→List D} {xs:List α} {r:Loc} (h:rV cl a=some (qo sz g xs)) (ha:Nat.beq a k=false) (q:TF loc cl k j t2 n2 r):TF loc cl k j t2 n2 (((a,0),qo sz g xs)::r)
 | e {a sz:Nat} {xs ys:List (List A)} {r:Loc} (h:dG cl a 0=some (.nest sz ys)) (he:xs.map (A.xO (Zw k j t2 n2))=ys) (ha:Nat.beq a k=false) (q:TF loc cl k j t2 n2 r):TF loc cl k j t2 n2 (((a,0), .nest sz xs)::r)
 | f {α:Type} {sz:Nat} {g:α→List D} {xs:List α} {r:Loc} (h:∀ (i:Nat) x,xs[i]?=some x→if i=j then dG loc t2 n2=some (.arr sz false (g x)) else dG cl k i=some (.arr sz false (g x))) (q:TF loc cl k j t2 n2 r):TF loc cl k j t2 n2 (((k,0),qo sz g xs)::r)
theorem TF.ok {k j t2 n2:Nat} {l:Loc} (H:TF loc cl k j t2 n2 l):∀ (t n:Nat) b,dG l t n=some b→(if t=k∧n=j then dG loc t2 n2 else dG cl t n)=some (b.ren (Zw k j t2 n2)):=by
 have ne:∀ {a:Nat},Nat.beq a k=false→a≠k:=fun h e=>by rw [e] at h;simp at h
 induction H with
 | n=>intro t n b h;cases h
 | @c a b0 r h ho hf ha q ih =>
  intro t n b hb;rw [kN ho] at hb;split at hb
  ·rename_i e1
   split at hb
   ·rename_i e2
    cases hb;rw [e1,e2,if_neg (fun q=>ne ha q.1),h,Blk.Ce _ (UC hf)]
   ·exact ih t n b hb
  ·exact ih t n b hb
 | @g α a sz g xs r h ha q ih =>
  intro t n b hb;by_cases e1:t=a
  ·rw [e1] at hb ⊢;cases hv:(qo sz g xs).view 0 n with
   | some y =>
    rw [jf hv] at hb;cases hb;rw [rU] at hv;obtain ⟨x,hx,rfl⟩:=aJ.1 hv;rw [if_neg (fun q=>ne ha q.1)];exact lK h hx
   | none=>rw [iD hv] at hb;exact ih a n b hb
  ·rw [iY e1] at hb;exact ih t n b hb
 | @e a sz xs ys r h he ha q ih =>
  intro t n b hb;rw [kN rfl] at hb;split at hb
  ·rename_i e1
   split at hb
   ·rename_i e2
    cases hb;rw [e1,e2,if_neg (fun q=>ne ha q.1),h];simp only [Blk.ren,he]
   ·exact ih t n b hb
  ·exact ih t n b hb
 | @f α sz g xs r h q ih =>
  intro t n b hb;by_cases e1:t=k
  ·rw [e1] at hb ⊢;cases hv:(qo sz g xs).view 0 n with
   | some y =>
    rw [jf hv] at hb;cases hb;rw [rU] at hv;obtain ⟨x,hx,rfl⟩:=aJ.1 hv;have:=h n x hx;by_cases e2:n=j
    ·rw [if_pos ⟨rfl,e2⟩];rw [if_pos e2] at this;exact this
    ·rw [if_neg (fun q=>e2 q.2)];rw [if_neg e2] at this;exact this
   | none=>rw [iD hv] at hb;exact ih k n b hb
  ·rw [iY e1] at hb;exact ih t n b hb
inductive KI (cl':Loc):Loc→Prop where
 | n:KI cl' []
 | c {a:Nat} {b:Blk} {r:Loc} (h:dG cl' a 0=some b) (ho:b.one=true) (q:KI cl' r):KI cl' (((a,0),b)::r)
 | g {α:Type} {a sz:Nat} {g:α→List D} {xs ys:List α} {r:Loc} (h:rV cl' a=some (qo sz g ys)) (hp:∀ (i:Nat) x,xs[i]?=some x→ys[i]?=some x) (q:KI cl' r):KI cl' (((a,0),qo sz g xs)::r)
 | e {a sz:Nat} {xs ys:List (List A)} {r:Loc} (h:dG cl' a 0=some (.nest sz ys)) (hl:xs.length≤ys.length) (q:KI cl' r):KI cl' (((a,0), .nest sz xs)::r)
theorem KI.ok {l:Loc} (H:KI cl' l):∀ (t n:Nat) b,dG l t n=some b→∃ b',dG cl' t n=some b'∧∀ p,qH b p b' p:=by
 induction H with
 | n=>intro t n b h;cases h
 | @c a b0 r h ho q ih =>
  intro t n b hb;rw [kN ho] at hb;split at hb
  ·rename_i e1
   split at hb
   ·rename_i e2
    cases hb;rw [e1,e2];exact ⟨_,h,fun p => .refl _ p⟩
   ·exact ih t n b hb
  ·exact ih t n b hb
 | @g α a sz g xs ys r h hp q ih =>
  intro t n b hb;by_cases e1:t=a
  ·rw [e1] at hb ⊢;cases hv:(qo sz g xs).view 0 n with
   | some y =>
    rw [jf hv] at hb;cases hb;rw [rU] at hv;obtain ⟨x,hx,rfl⟩:=aJ.1 hv;exact ⟨_,lK h (hp n x hx),fun p => .refl _ p⟩
   | none=>rw [iD hv] at hb;exact ih a n b hb
  ·rw [iY e1] at hb;exact ih t n b hb
 | @e a sz xs ys r h hl q ih =>
  intro t n b hb;rw [kN rfl] at hb;split at hb
  ·rename_i e1
   split at hb
   ·rename_i e2
    cases hb;rw [e1,e2];exact ⟨_,h,fun p=>⟨rfl,hl,fun _=>rfl⟩⟩
   ·exact ih t n b hb
  ·exact ih t n b hb
inductive Eb (s:S) (loc cl:Loc) (dd:Nat):Loc→Prop where
 | n:Eb s loc cl dd []
 | c {k:Nat×Nat} {b:Blk} {r:Loc} (h:(b.ids.all fun q=>(s.get q).isSome&&Nat.ble q.d dd)=true) (q:Eb s loc cl dd r):Eb s loc cl dd ((k,b)::r)
 | f {α:Type} {k:Nat×Nat} {sz:Nat} {g:α→List D} {xs:List α} {r:Loc} (q:Eb s loc cl dd r):Eb s loc cl dd ((k,qo sz g xs)::r)
 | e1 {α:Type} {k:Nat×Nat} {sz:Nat} {sl:List (Slot α)} {xs:List α} {r:Loc} (hd:dd=1) (h:∀ t∈Slot.keys sl,∃ (sz:Nat) (g:α→List D),rV loc t=some (qo sz g xs)) (q:Eb s loc cl dd r):Eb s loc cl dd ((k, .nest sz (nM 1 sl xs))::r)
 | e0 {α:Type} {k:Nat×Nat} {sz:Nat} {sl:List (Slot α)} {xs:List α} {r:Loc} (h:∀ t∈Slot.keys sl,∃ (sz:Nat) (g:α→List D),rV cl t=some (qo sz g xs)) (q:Eb s loc cl dd r):Eb s loc cl dd ((k, .nest sz (nM 0 sl xs))::r)
theorem Eb.ok {dd:Nat} {l:Loc} (H:Eb ⟨loc,[c0],[some cl]⟩ loc cl dd l):∀ e∈l,∀ q∈e.2.ids,(∃ c,S.get ⟨loc,[c0],[some cl]⟩ q=some c)∧q.d≤dd:=by
 induction H with
 | n=>intro e he;cases he
 | c h q ih =>
  intro e he x hx;rcases fJ.1 he with rfl | he
  ·have:=aY.1 h x hx;simp only [aS] at this;exact ⟨iC.1 this.1,gp this.2⟩
  ·exact ih e he x hx
 | f q ih =>
  intro e he x hx;rcases fJ.1 he with rfl | he
  ·simp only [qo,Blk.ids,Dk] at hx;cases hx
  ·exact ih e he x hx
 | e1 hd h q ih =>
  intro e he x hx;rcases fJ.1 he with rfl | he
  ·obtain ⟨q1,q2,q3⟩:=wM hx;obtain ⟨sz,g,hk⟩:=h _ q3;have hr:=lK hk (au q2);exact ⟨⟨_,by rw [YU,if_pos q1];exact hr⟩,by omega⟩
  ·exact ih e he x hx
 | e0 h q ih =>
  intro e he x hx;rcases fJ.1 he with rfl | he
  ·obtain ⟨q1,q2,q3⟩:=wM hx;obtain ⟨sz,g,hk⟩:=h _ q3;have hr:=lK hk (au q2);exact ⟨⟨_,by rw [YU,if_neg (by omega),if_pos q1];exact hr⟩,by omega⟩
  ·exact ih e he x hx
theorem Ny {l:Loc} {t n:Nat} {b:Blk} (h:dG l t n=some b):∃ e∈l,b.ids ⊆ e.2.ids:=by
 induction l with
 | nil=>cases h
 | cons x rest ih =>
  obtain ⟨⟨a,m⟩,y⟩:=x;by_cases e:t=a
  ·subst e;cases hv:y.view m n with
   | some z=>rw [jf hv] at h;cases h;exact ⟨_, .head _,Gz hv⟩
   | none=>rw [iD hv] at h;obtain ⟨e,h1,h2⟩:=ih h;exact ⟨e, .tail _ h1,h2⟩
  ·rw [iY e] at h;obtain ⟨e,h1,h2⟩:=ih h;exact ⟨e, .tail _ h1,h2⟩
theorem clo {loc cl c0:Loc} (h1:Eb ⟨loc,[c0],[some cl]⟩ loc cl 1 loc) (h0:Eb ⟨loc,[c0],[some cl]⟩ loc cl 0 cl):∀ i b,S.get ⟨loc,[c0],[some cl]⟩ i=some b→∀ q∈b.ids,(∃ c,S.get ⟨loc,[c0],[some cl]⟩ q=some c)∧q.d≤i.d:=by
 intro i b hi q hq;rw [YU] at hi;split at hi
 ·rename_i hd
  obtain ⟨e,k1,k2⟩:=Ny hi;rw [hd];exact h1.ok e k1 q (k2 hq)
 ·split at hi
  ·rename_i hd
   obtain ⟨e,k1,k2⟩:=Ny hi;rw [hd];exact h0.ok e k1 q (k2 hq)
  ·cases hi
theorem noRow {α:Type} {k sz:Nat} {g:α→List D} {xs:List α} (hs:Ar cl k=true) (hf:rV cl k=some (qo sz g xs)):dG cl k xs.length=none:=by
 rw [Jj hs (rows:=xs.map fun x => .arr sz false (g x)) hf];simp
theorem UA {α:Type} {sz:Nat} {g:α→List D} {xs:List α} {x:α}:qo sz g (xs++[x]) = .fam ((xs.map fun x => .arr sz false (g x))++[.arr sz false (g x)]):=by simp [qo]
theorem Left.aae {V:View} {s s1 s2:S} {μ:Id→Pl} {w w':World} {i0 R:Id} {m sz:Nat} {xs:List D} {cv:Value} (I:Inv P V s.get μ w) (h:Left P V s μ w s1 (.ref i0 0 m m) cv w')
  (h1:∀ i,s1.get i=if i=i0 then some (.arr sz false xs) else s.get i) (h2:∀ i,s2.get i=if i=R then some (.arr sz false xs) else s.get i) (n0:s.get i0=none) (nR:s.get R=none) (ho:s2.out=s.out) :
  Left P V s μ w s2 (.ref R 0 m m) cv w':=by
 obtain ⟨V1,μ1,a1,a2,a3,a4⟩:=h;have at1:s1.get i0=some (.arr sz false xs):=by rw [h1,if_pos rfl]
 have at2:s2.get R=some (.arr sz false xs):=by rw [h2,if_pos rfl]
 have ne1:∀ i,i≠i0→s1.get i=s.get i:=fun i hi=>by rw [h1,if_neg hi]
 have ne2:∀ i,i≠R→s2.get i=s.get i:=fun i hi=>by rw [h2,if_neg hi]
 have q0:∀ i b,s.get i=some b→i≠i0:=fun i b hb e=>by rw [e,n0] at hb;cases hb
 have qR:∀ i b,s.get i=some b→i≠R:=fun i b hb e=>by rw [e,nR] at hb;cases hb
 let μ2:Id→Pl:=fun i=>if i=R then μ1 i0 else μ1 i
 have mR:μ2 R=μ1 i0:=by simp [μ2]
 have mne:∀ i,i≠R→μ2 i=μ1 i:=fun i hi=>by simp [μ2,hi]
 have closed:=I.closed;have lift:∀ i b,s2.get i=some b→∃ j,s1.get j=some b∧μ2 i=μ1 j∧(i≠R→j=i)∧(i=R→j=i0):=by
  intro i b hi;by_cases e:i=R
  ·subst e;rw [at2] at hi;cases hi;exact ⟨i0,at1,mR,fun q=>absurd rfl q,fun _=>rfl⟩
  ·rw [ne2 i e] at hi;exact ⟨i,by rw [ne1 i (q0 i b hi)];exact hi,mne i e,fun _=>rfl,fun q=>absurd q e⟩
 have I2:Inv P V1 s2.get μ2 w':=by
  refine ⟨fun i b hi=>?_,fun i j b b' hi hj hne n1 n2=>?_,a2.cell,a2.map,fun i b hi j hj=>?_⟩
  ·by_cases e:i=R
   ·subst e;rw [at2] at hi;cases hi;rw [mR];exact a2.blk i0 _ at1
   ·rw [mne i e];rw [ne2 i e] at hi;have B:=a2.blk i b (by rw [ne1 i (q0 i b hi)];exact hi);have mono:∀ {a:A} {v:Value},(∀ x∈a.ids,x∈b.ids)→iO P V1 s1.get μ1 a v→iO P V1 s2.get μ2 a v:=by
     intro a v hsub H;refine H.mono (.refl _) (fun x hx c hc=>?_);obtain ⟨y,hy⟩:=closed i b hi x (hsub x hx);exact ⟨c,by rw [ne2 x (qR x y hy),← ne1 x (q0 x y hy)];exact hc,by rw [mne x (qR x y hy)];exact .refl _ _⟩
    cases b with
    | arr _ _ _=>exact B
    | map _ _ _=>exact B
    | gap=>exact B
    | tail _ _ _=>exact B
    | fam _=>exact B.elim
    | box cs =>
     obtain ⟨b1,b3,cells,elem,b5,b6,b7⟩:=B;exact ⟨b1,b3,cells,elem,b5,b6,fun k a v ha hv=>⟨mono (fun x hx=>rH ha hx) (b7 k a v ha hv).1,(b7 k a v ha hv).2⟩⟩
    | nest sz2 xs2 =>
     rcases B with B | ⟨b1,b2,b3,cells,elem,b5,b6,hpl,b7⟩
     ·exact .inl B
     ·exact .inr ⟨b1,b2,b3,cells,elem,b5,b6,hpl,fun k e he=>⟨(b7 k e he).1,fun k2 a v ha hv=>mono (fun x hx=>yN he ha hx) ((b7 k e he).2 k2 a v ha hv)⟩⟩
  ·obtain ⟨i1,c1,c2,c3,c4⟩:=lift i b hi;obtain ⟨j1,d1,d2,d3,d4⟩:=lift j b' hj;rw [c2] at n1 ⊢;rw [d2] at n2 ⊢;refine a2.apart i1 j1 b b' c1 d1 (fun e=>?_) n1 n2;by_cases e1:i=R
   ·by_cases e2:j=R
    ·exact hne (by rw [e1,e2])
    ·have:=d3 e2;have q:=c4 e1;rw [this,q] at e;rw [ne2 j e2] at hj;exact q0 j b' hj e.symm
   ·by_cases e2:j=R
    ·have:=c3 e1;have q:=d4 e2;rw [this,q] at e;rw [ne2 i e1] at hi;exact q0 i b hi e
    ·exact hne (by rw [← c3 e1,← d3 e2,e])
  ·by_cases e:i=R
   ·subst e;rw [at2] at hi;cases hi;cases hj
   ·rw [ne2 i e] at hi;exact I.tidy i b hi j hj
 refine ⟨V1,μ2,?_,I2,?_,ho⟩
 ·cases a1 with
  | ref _ _ _ _ sz1 l1 xs1 a c hi hf hv =>
   rw [at1] at hi;cases hi;exact .ref R 0 m m sz false xs a c at2 hf (fun e=>by rw [mR];exact hv e)
 ·refine ⟨a3.os,a3.tape,a3.output,a3.size,a3.rest,a3.view,a3.newc,a3.newm,fun i b hi n1=>?_,fun i b hb=>?_⟩
  ·by_cases e:i=R
   ·subst e;rw [mR] at n1 ⊢;rcases a3.place i0 _ at1 n1 with ⟨b0,k1,_⟩ | k1
    ·rw [n0] at k1;cases k1
    ·exact .inr k1
   ·rw [mne i e] at n1 ⊢;rw [ne2 i e] at hi;exact a3.place i b (by rw [ne1 i (q0 i b hi)];exact hi) n1
  ·obtain ⟨b',k1,k2⟩:=a3.keep i b hb;rw [ne1 i (q0 i b hb),hb] at k1;cases k1;exact ⟨b,by rw [ne2 i (qR i b hb)];exact hb,by rw [mne i (qR i b hb)];exact k2⟩
theorem iL.conv {s:S} {o:Oper} {v v':A} {dl dl':Delta} (H:iL P env s o v dl) (hr:dZ env o.op=true)
  (hc:∀ (V:View) (μ:Id→Pl) (w:World),Inv P V s.get μ w→∀ cv w',Left P V s μ w (dl.apply s) v cv w'→Left P V s μ w (dl'.apply s) v' cv w'):iL P env s o v' dl':=by
 refine ⟨.inr ⟨hr,fun V μ w I a R K Q hK=>?_⟩⟩;refine (H.only []).sound I (a:=a) (K:=K) (Q:=Q) ?_ (fun cv w' hl=>hK cv w' (hc V μ w I cv w' hl));intro t v hv;obtain ⟨h1,h2⟩:=AB hv;unfold Af at h1;rcases aP.1 h1 with h1 | h1
 ·obtain ⟨x,h3,h4⟩:=List.mem_filterMap.1 h1;cases x with
  | tmp u=>cases h4;exact R (.tmp t) (by simpa using h3) v h2
  | _=>cases h4
 ·cases hg:o.guard with
  | none=>rw [hg] at h1;cases h1
  | some jw=>rw [hg] at h1;obtain ⟨g,b⟩:=jw;simp at h1
theorem WR {loc:Loc} {out:Out} {chg:List (Option Loc)} {d n:Nat} {b:Blk} (hb:b.one=true) (i:Id):S.get (Delta.apply ⟨loc,out,chg⟩ (.add [((d,n),b)])) i=if i=⟨out.length,d,n⟩ then some b else S.get ⟨loc,out,chg⟩ i:=by
 show S.get ⟨((d,n),b)::loc,out,chg⟩ i=_
 by_cases e:i.d=out.length
 ·rw [qj _ i e,kN hb,qj _ i e];by_cases e1:i=⟨out.length,d,n⟩
  ·subst e1;simp
  ·rw [if_neg e1];by_cases e2:i.t=d
   ·by_cases e3:i.n=n
    ·exfalso;apply e1;cases i;simp only at e e2 e3;subst e e2 e3;rfl
    ·rw [if_pos e2,if_neg e3]
   ·rw [if_neg e2]
 ·rw [yH _ loc i e,if_neg (fun q=>e (by rw [q]))]
theorem XL {α:Type} {sz:Nat} {g:α→List D} {xs:List α} {b:Blk} (n:Nat):((xs.map fun x=>Blk.arr sz false (g x))++[b])[n]?=if n=xs.length then some b else (xs.map fun x=>Blk.arr sz false (g x))[n]?:=by
 by_cases e:n=xs.length
 ·subst e;rw [if_pos rfl,dF (by simp)];simp
 ·rw [if_neg e];by_cases q:n < xs.length
  ·rw [bK (by simpa using q)]
  ·rw [jk (by simp;omega),jk (by simp;omega)]
theorem iL.Y5 {α:Type} {o:Oper} {d n m k sz:Nat} {g:α→List D} {xs:List α} {ys:List D} (H:iL P env ⟨loc,[c0],[some cl]⟩ o (.ref ⟨1,d,n⟩ 0 m m) (.add [((d,n), .arr sz false ys)])) (hr:dZ env o.op=true)
  (hf:dG loc d n=none) (hs:Ar cl k=true) (hfam:rV cl k=some (qo sz g xs)) (hcl:JO cl k (.fam ((xs.map fun x => .arr sz false (g x))++[.arr sz false ys]))=cl') :
  iL P env ⟨loc,[c0],[some cl]⟩ o (.ref ⟨0,k,xs.length⟩ 0 m m) (.set ⟨loc,[c0],[some cl']⟩):=by
 subst hcl;refine H.conv hr fun V μ w I cv w' hl=>Left.aae (i0:=⟨1,d,n⟩) (R:=⟨0,k,xs.length⟩) I hl (WR (out:=[c0]) rfl) (fun i=>?_) ?_ ?_ rfl
 ·show S.get ⟨loc,[c0],[some (JO cl k _)]⟩ i=_
  obtain ⟨q1,q2⟩:=Ro hs ((xs.map fun x => .arr sz false (g x))++[.arr sz false ys]);rw [YU,YU];by_cases e1:i.d=1
  ·rw [if_pos e1,if_pos e1,if_neg];intro q;rw [q] at e1;simp at e1
  ·rw [if_neg e1,if_neg e1];by_cases e0:i.d=0
   ·rw [if_pos e0,if_pos e0];by_cases et:i.t=k
    ·rw [et,q1,XL,Jj hs hfam];by_cases en:i.n=xs.length
     ·rw [if_pos en,if_pos];cases i;simp only at e0 et en ⊢;subst e0 et en;rfl
     ·rw [if_neg en,if_neg];intro q;rw [q] at en;exact en rfl
    ·rw [q2 _ _ et,if_neg];intro q;rw [q] at et;exact et rfl
   ·rw [if_neg e0,if_neg e0,if_neg];intro q;rw [q] at e0;exact e0 rfl
 ·rw [YU,if_pos rfl];exact hf
 ·rw [YU,if_neg (by simp),if_pos rfl];exact noRow hs hfam
theorem ZW {l0 loc1:Loc} {out:Out} {t n:Nat} {b:Blk} (h:dG loc1 t n=some b):(⟨[],l0::out,[some loc1]⟩:S).get ⟨out.length,t,n⟩=some b:=by
 unfold S.get S.cur S.dep;simp [nz,h]
theorem jL.aak {V:View} {xs:List D} {v:Value} (h:jL P V (.sl xs) v):jL P V (.sl (xs.map wW)) v:=by
 cases h with
 | sl _ a c b o sz ev hc ha h hs hv =>
  have:=jL.sl (P:=P) (V:=V) (xs.map wW) a c b o sz ev (by simpa using hc) (ha.elim (fun q => .inl (by rw [q];rfl)) .inr) (fun i d hd=>by
   rw [bn] at hd;obtain ⟨x,hx,rfl⟩:=aJ.1 hd;exact Jn (h i x hx)) (fun i hi=>hs i (by simpa using hi)) (fun i hi=>hv i (by simpa using hi))
  simpa using this
theorem zB.tight (xs:List D):zB (.tight xs) (.tight (xs.map wW)):=⟨fun P V h μ cv r=>by
 cases r with
 | tight _ a hd =>
  have h1:=jL.aak hd;have h2:(xs.map wW).length=xs.length:=by simp
  rw [← h2] at h1 ⊢;exact .tight _ a h1,fun j hj=>by cases hj⟩
end
end Go.Lx
set_option linter.all false
namespace Go.Lx
section
variable {P:Program} {V:View} {h h':Id→Option Blk} {μ μ':Id→Pl} {w:World}
theorem GH.aaO {p:Pl} {b:Blk} (B:GH P V h μ w p b) (K:∀ i∈b.ids,∀ c,h i=some c→∃ c',h' i=some c'∧qH c (μ i) c' (μ' i)):GH P V h' μ' w p b:=by
 cases b with
 | box cs =>
  obtain ⟨h1,h3,cells,elem,h5,h6,h7⟩:=B;exact ⟨h1,h3,cells,elem,h5,h6,fun i a v ha hv=>⟨(h7 i a v ha hv).1.mono (.refl V) (fun j hj c hc=>K j (rH ha hj) c hc),(h7 i a v ha hv).2⟩⟩
 | nest sz xs =>
  rcases B with B | ⟨h1,h2,h3,cells,elem,h5,h6,hpl,h7⟩
  ·exact .inl B
  ·exact .inr ⟨h1,h2,h3,cells,elem,h5,h6,hpl,fun k e he=>⟨(h7 k e he).1,fun q a v ha hv=>((h7 k e he).2 q a v ha hv).mono (.refl V) (fun j hj c hc=>K j (yN he ha hj) c hc)⟩⟩
 | arr _ _ _=>exact B
 | map _ _ _=>exact B
 | fam _=>exact B.elim
 | gap=>exact B
 | tail _ _ _=>exact B
end
section
variable {P:Program} {env env':Env} {loc loc':Loc} {out:Out} {chg:List (Option Loc)}
theorem Le.aad {t tt n:Nat} {b b':Blk} {v v':A} (hv:look env t=some v) (hb:dG loc tt n=some b) (hl:CO loc tt n b' loc') (h1:env'.map (fun p=>look env p.1)=env'.map (fun p=>some p.2))
  (h2:((uG env'++ut loc).all fun i=>!(Nat.beq i.t tt&&Nat.beq i.n n))=true) (hone:b'.one=true) (hids:b'.ids=[])
  (hs:∀ (V:View) (h h':Id→Option Blk) (μ:Id→Pl) (w:World) (cv:Value) (i:Id),h i=some b→h' i=some b'→GH P V h μ w (μ i) b→iO P V h μ v cv →
   ∃ p':Pl,p'.nil=(μ i).nil∧p'.blk=(μ i).blk∧∀ μ':Id→Pl,μ' i=p'→GH P V h' μ' w p' b'∧(i=⟨out.length,tt,n⟩→iO P V h' μ' v' cv)) :
  Le P env ⟨loc,out,chg⟩ ((t,v')::env') ⟨loc',out,chg⟩:=by
 refine ⟨fun O a w T=>?_⟩;obtain ⟨V,μ,I,R,E,hdep,hn',hdf⟩:=T;have hlow:O.out.length=out.length:=by rw [← (show (⟨loc,out,chg⟩:S).out=out from rfl),hdep]
 generalize hid:(⟨out.length,tt,n⟩:Id)=id at *
 have hdi:id.d=out.length:=by rw [← hid]
 have hno:∀ i,i∈uG env'++ut loc→i≠id:=by
  intro i hi e;subst e;have h4:=aY.1 h2 _ hi;rw [← hid] at h4;simp at h4
 have hg:S.get ⟨loc,out,chg⟩ id=some b:=by rw [← hid,jF];exact hb
 have hset:S.get ⟨loc',out,chg⟩=upd (S.get ⟨loc,out,chg⟩) id b':=by
  have:=(S.mP (b0:=b) hg b' hone).1;rw [← this,← hid,Cm,hl.eq]
 have hB:=I.blk id b hg;have hst:=fun cv R'=>hs V (S.get ⟨loc,out,chg⟩) (upd (S.get ⟨loc,out,chg⟩) id b') μ w cv id hg (upd_same _ _ _) hB R'
 obtain ⟨p',hp1,hp2,hp3⟩:=hst _ (R t v hv);obtain ⟨hp4,hp5⟩:=hp3 (vI μ id p') (fF _ _ _);have K:∀ i,i≠id→∀ c,S.get ⟨loc,out,chg⟩ i=some c→∃ c',upd (S.get ⟨loc,out,chg⟩) id b' i=some c'∧qH c (μ i) c' (vI μ id p' i):=by
  intro i hi c hc;rw [upd_ne _ _ hi,iM _ _ hi];exact ⟨c,hc, .refl _ _⟩
 have far:∀ i c,i≠id→S.get ⟨loc,out,chg⟩ i=some c→∀ j∈c.ids,j≠id:=by
  intro i c hi hc j hj;by_cases e:i.d=out.length
  ·obtain ⟨a1,a2,a3⟩:=i;simp only at e;subst e;rw [jF] at hc;exact hno j (aP.2 (.inr (Dl hc hj)))
  ·intro q;have h3:=I.tidy i c hc j hj;have h4:=S.xm hc;have h5:S.dep ⟨loc,out,chg⟩=out.length:=rfl;rw [h5] at h4;rw [q,hdi] at h3;omega
 have nl:∀ i,(vI μ id p' i).nil=(μ i).nil:=by
  intro i;by_cases e:i=id
  ·subst e;rw [fF,hp1]
  ·rw [iM _ _ e]
 have bl:∀ i,(vI μ id p' i).blk=(μ i).blk:=by
  intro i;by_cases e:i=id
  ·subst e;rw [fF,hp2]
  ·rw [iM _ _ e]
 have sm:∀ i c,upd (S.get ⟨loc,out,chg⟩) id b' i=some c→∃ c0,S.get ⟨loc,out,chg⟩ i=some c0:=by
  intro i c hc;by_cases e:i=id
  ·subst e;exact ⟨b,hg⟩
  ·rw [upd_ne _ _ e] at hc;exact ⟨c,hc⟩
 refine ⟨V,vI μ id p',?_,?_,?_,hdep,hn',hdf⟩
 ·rw [hset];refine ⟨?_,?_,I.cell,I.map,?_⟩
  ·intro i c hi;by_cases e:i=id
   ·subst e;rw [upd_same] at hi;cases hi;rw [fF];exact hp4
   ·rw [upd_ne _ _ e] at hi;rw [iM _ _ e];exact (I.blk i c hi).aaO (fun j hj x hx=>K j (far i c e hi j hj) x hx)
  ·intro i j c c' hi hj hne n1 n2;rw [nl] at n1 n2;rw [bl,bl];obtain ⟨c0,h3⟩:=sm i c hi;obtain ⟨c1,h4⟩:=sm j c' hj;exact I.apart i j c0 c1 h3 h4 hne n1 n2
  ·intro i c hi;by_cases e:i=id
   ·subst e;rw [upd_same] at hi;cases hi;rw [hids];intro j hj;cases hj
   ·rw [upd_ne _ _ e] at hi;exact I.tidy i c hi
 ·rw [hset];refine tN.cons (fun u y hu=>?_) (hp5 rfl);have h3:=wL h1 (yM hu);exact (R u y h3).mono (.refl V) (fun j hj c hc=>K j (hno j (aP.2 (.inl (Gs hu j hj)))) c hc)
 ·rw [hset];refine ⟨E.os,E.tape,E.output,E.size,E.rest,E.view,E.newc,E.newm,?_,?_⟩
  ·intro i c hi hnil;rw [nl] at hnil;rw [bl];obtain ⟨c0,h3⟩:=sm i c hi;exact E.place i c0 h3 hnil
  ·intro i c0 hi;obtain ⟨c',h3,h4⟩:=E.keep i c0 hi;have h5:=O.low i c0 hi;have hne:i≠id:=by intro q;rw [q,hdi] at h5;omega
   rw [upd_ne _ _ hne,iM _ _ hne];exact ⟨c',h3,h4⟩
theorem Le.aai {t tt n m sz:Nat} {xs:List D} (hv:look env t=some (.ref ⟨out.length,tt,n⟩ 0 m m)) (hm:m=xs.length) (hb:dG loc tt n=some (.arr sz false xs)) (hl:CO loc tt n (.tail sz 0 xs) loc')
  (h1:env'.map (fun p=>look env p.1)=env'.map (fun p=>some p.2)) (h2:((uG env'++ut loc).all fun i=>!(Nat.beq i.t tt&&Nat.beq i.n n))=true) :
  Le P env ⟨loc,out,chg⟩ ((t, .tref ⟨out.length,tt,n⟩ 0 m)::env') ⟨loc',out,chg⟩:=by
 refine Le.aad hv hb hl h1 h2 rfl rfl fun V h h' μ w cv i hi hi' B R=>?_
 refine ⟨⟨(μ i).blk,(μ i).cap,(μ i).nil,0⟩,rfl,rfl,fun μ' hμ=>⟨?_,fun e=>?_⟩⟩
 ·rcases B with ⟨b1,b2,b3⟩ | ⟨b1,b2,b3,_,cells,elem,b5,b6,b7,ev,b8⟩
  ·exact .inl ⟨b1,b2,b3⟩
  ·refine .inr ⟨b1,b2,b3 rfl,cells,elem,b5,?_,b7,ev,fun k d hd=>⟨(b8 k d hd).1,(b8 k d hd).2.1,fun j v hv=>?_⟩⟩
   ·show cells.size=(0+(μ i).cap) * sz;rw [iV];exact b6
   ·show cells[(0+k) * sz+j]?=some v;rw [iV];exact (b8 k d hd).2.2 j v hv
 ·subst e;cases R with
  | ref _ _ _ _ sz' l' xs' a c hi2 hf hs =>
   rw [hi] at hi2;cases hi2;refine .tref _ 0 m sz 0 xs a c hi' (aZ _) (fun _=>⟨hm,?_⟩);rw [hμ];obtain ⟨a',c',e1,hs⟩:=hs hm;cases e1;rcases hs with ⟨q1,q2,q3,_⟩ | ⟨q1,q2,q3,q4,q5⟩
   ·refine .inl ⟨q1,q2,q3,?_⟩;rcases B with ⟨b1,b2,b3⟩ | ⟨b1,_⟩
    ·rw [hm,b2];rfl
    ·rw [q1] at b1;cases b1
   ·refine .inr ⟨q1,by simpa using q2,q4,fun _=>?_⟩;have:=q5 (.inr rfl);simpa using this
theorem Le.Yk {t tt n m g sz:Nat} {xs:List D} (hv:look env t=some (.tref ⟨out.length,tt,n⟩ g m)) (hb:dG loc tt n=some (.tail sz g xs)) (hl:CO loc tt n (.tail sz 0 xs) loc')
  (h1:env'.map (fun p=>look env p.1)=env'.map (fun p=>some p.2)) (h2:((uG env'++ut loc).all fun i=>!(Nat.beq i.t tt&&Nat.beq i.n n))=true) :
  Le P env ⟨loc,out,chg⟩ ((t, .tref ⟨out.length,tt,n⟩ 0 m)::env') ⟨loc',out,chg⟩:=by
 refine Le.aad hv hb hl h1 h2 rfl rfl fun V h h' μ w cv i hi hi' B R=>?_
 refine ⟨μ i,rfl,rfl,fun μ' hμ=>⟨B,fun e=>?_⟩⟩;subst e;cases R with
 | tref _ _ _ sz' g' xs' a c hi2 hf hs =>
  rw [hi] at hi2;cases hi2;refine .tref _ 0 m sz 0 xs a c hi' (aZ _) (fun _=>?_);rw [hμ];exact hs rfl
end
section
variable {P:Program} {w:World}
theorem MC {t t2 el el2:TypeId} {g o:Nat} {b:Option Addr} {len cap n c' sz:Nat} {ys:List Value} {cur:Array Value} {elem:TypeId} (ty:TypeId)
  (hu:P.underlying t=some (.slice el)) (hu2:P.underlying t2=some (.slice el2)) (hsz:ng P el=some sz)
  (hcap:len+n≤cap) (hg:w.heap[g]?=some (.cells cur elem (0,0))) (hfit:o+len * sz+ys.length≤cur.size) (hp:∀ v∈ys,Plain v)
  (hy:(Builtin.firstCells sz n (.slice b n c')).run P w = .ok ys.toArray w) :
  ∃ w',(Builtin.append_ #[t,t2] ty #[.slice (some ⟨g,o,none⟩) len cap, .slice b n c']).run P w = .ok (.slice (some ⟨g,o,none⟩) (len+n) cap) w' ∧
   w'.heap[g]?=some (.cells (splice cur.toList (o+len * sz) ys).toArray elem (0,0)) ∧
   (∀ k,k≠g→w'.heap[k]?=w.heap[k]?)∧w'.heap.size=w.heap.size∧w'.os=w.os∧w'.tape=w.tape∧w'.output=w.output:=by
 obtain ⟨w',h1,h2⟩:=qM (P:=P) g elem ys (o+len * sz) 0 cur w hg (by omega) hp;refine ⟨w',?_,by simpa using h2⟩;simp [Builtin.append_,dV hu,dV hu2,ja hsz,Builtin.lenOf,hcap,hy,kU,h1]
end
section
variable {P:Program} {env:Env} {s s':S} {loc loc':Loc} {out:Out} {chg:List (Option Loc)} {dst:Option Nat} {d:Nat} {ty:TypeId} {pos:String} {af:Array Edge} {gd:Option (Nat×Bool)}
theorem aby {args:Array Operand} {ts:Array TypeId} {t e sz by_:Nat} {z:D} {id:Id} {g n:Nat} (ht:Sli P t e sz by_ z) (ha:dO (look env) args.toList=some [.tref id g n]) (hts:ts.toList=[t])
  (hr:dZ env (.call ⟨.builtin .len,args,ts⟩)=true):iL P env s ⟨dst, .call ⟨.builtin .len,args,ts⟩,ty,pos,af,gd⟩ (.d (.int .i64 n)) .same:=by
 refine iL.aaB ha hr fun V μ w I cargs R=>?_
 obtain ⟨v,rfl,r⟩:=Zt (c:=bc P) R;have e:ts=#[t]:=by apply mO;rw [hts]
 subst e;refine ⟨_,rfl,?_⟩;cases r with
 | tref _ _ _ sz' g' xs a c hi hf hv =>
  refine .pure I ?_ (.d _ _ (.int .i64 n));simp [Builtin.len_,dV ht.u,Builtin.lenOf,goInt]
theorem abv {x y:Operand} {t e sz by_ g m:Nat} {z:D} {id:Id} {k:IntKind} {j:Int} {xs:List D} (ht:Sli P t e sz by_ z) (hx:aB (look env) x=some (.tref id g m)) (hr:(wO env x || xq env x)=false)
  (hy:aB (look env) y=some (.d (.int k j))) (hb:zk s id (.tail sz g xs)) (hz:0 < sz) (hm:m=xs.length) (h:0≤j∧j < m) :
  iL P env s ⟨dst, .indexAddr t x y,ty,pos,af,gd⟩ (.tptr id g (j.toNat * sz)) .same:=by
 refine iL.sem (by simp only [dZ,hr];rfl) fun V μ w I a R=>?_
 have Rx:=R x (by simp [Op.operands]) _ hx;have Ry:=R y (by simp [Op.operands]) _ hy;refine ⟨Instr.indexAt t (a.eval x) (a.eval y),by simp [execOp],?_⟩;generalize a.eval x=vx at Rx;generalize a.eval y=vy at Ry;have hvy:=Pg Ry;subst hvy;cases Rx with
 | tref _ _ _ sz' g' xs' ad c hi hf hv =>
  have hi2:=hi;rw [hb.h] at hi2;cases hi2;obtain ⟨_,hsv⟩:=hv rfl;have hB:=I.blk id _ hb.h;rcases hsv with ⟨q1,q2,q3,q4⟩ | ⟨q1,q2,q3,q4⟩
  ·omega
  ·have hc:0 < (μ id).cap:=by
    rcases hB with ⟨b1,_⟩ | ⟨b1,b2,_⟩
    ·rw [q1] at b1;cases b1
    ·omega
   have ha:=q4 hc;subst ha;have hj:j.toNat < xs.length:=by omega
   have hk:j.toNat * sz < xs.length * sz:=Nat.mul_lt_mul_of_pos_right hj hz;refine .pure (cv := .pointer (some ⟨(μ id).blk,(μ id).off * sz+j.toNat * sz,none⟩)) I ?_ (.tptr id g _ sz g xs _ hb.h (aZ _) (fun _=>⟨rfl,hk⟩));simp [Instr.indexAt,asIntOf,dV ht.u,ja ht.s,h.1,h.2,kU]
theorem VV {V:View} {μ:Id→Pl} {w:World} (I:Inv P V s.get μ w) {id:Id} {sz g:Nat} {xs:List D} (hb:s.get id=some (.tail sz g xs)) {j:Nat} {e:D} (he:xs[j]?=some e) :
  ∃ vs:List Value,lW P V s.get μ (e.cells.map A.d) vs∧(∀ (k:Nat) v,vs[k]?=some v→w.cell? ⟨(μ id).blk,(μ id).off * sz+j * sz+k,none⟩=some v):=by
 have hj:=(ay.1 he).1;rcases I.blk id _ hb with ⟨b1,b2,_⟩ | ⟨b1,b2,b3,cells,elem,b5,b6,hpl,ev,b7⟩
 ·subst b2;simp at he
 ·obtain ⟨c1,c2,c3⟩:=b7 j e he;refine ⟨(ev j).cells.toList,qh c1,fun k v hv=>?_⟩;rw [cell_of_row w _ _ cells elem (0,0) b5,← di];exact c3 k v (by simpa using hv)
theorem abw {x:Operand} {t tz j sz g kk:Nat} {id:Id} {xs:List D} {e:D} {v:A} (ht:ng P t=some tz) (hx:aB (look env) x=some (.tptr id g kk)) (hr:xq env x=false) (hk:kk=j * sz)
  (hb:zk s id (.tail sz g xs)) (he:xs[j]?=some e) (hp:xM (qL P t) tz (e.cells.map A.d) 0=some v):iL P env s ⟨dst, .load t x,ty,pos,af,gd⟩ v .same:=by
 subst hk;refine iL.sem (by simp only [dZ,hr];rfl) fun V μ w I a R=>?_
 have Rx:=R x (by simp [Op.operands]) _ hx;refine ⟨Instr.loadAt t (a.eval x),by simp [execOp],?_⟩;generalize a.eval x=vx at Rx;cases Rx with
 | tptr _ _ _ sz' g' xs' ad hi hf hv =>
  rw [hb.h] at hi;cases hi;obtain ⟨rfl,_⟩:=hv rfl;obtain ⟨vs,h1,h2⟩:=VV I hb.h he;obtain ⟨cv,h3,h4⟩:=pU (w:=w) (b:=(μ id).blk) (o:=(μ id).off * sz+j * sz) ht (off:=0) h1 h2 hp;exact .pure I (by simpa [Instr.loadAt,Instr.sureAddr] using h3) h4
theorem abC {x o1:Operand} {t e sz by_ g m:Nat} {z:D} {id:Id} {k:IntKind} {n:Int} {xs:List D} (ht:Sli P t e sz by_ z) (hx:aB (look env) x=some (.tref id g m)) (hr:dZ env (.slice t x (some o1) none none)=true)
  (h1:aB (look env) o1=some (.d (.int k n))) (hb:zk s id (.tail sz g xs)) (hm:m=xs.length) (h0:0≤n∧n≤m) (hl:JR s id (.tail sz (g+1) (xs.drop n.toNat)) s') :
  iL P env s ⟨dst, .slice t x (some o1) none none,ty,pos,af,gd⟩ (.tref id (g+1) (m - n.toNat)) (.set s'):=by
 refine iL.sem hr fun V μ w I a R=>?_
 have Rx:=R x (by simp [Op.operands]) _ hx;have Ry:=R o1 (by simp [Op.operands]) _ h1;refine ⟨Instr.sliceAt t (a.eval x) (some (a.eval o1)) none none,by simp [execOp],?_⟩;generalize a.eval x=vx at Rx;generalize a.eval o1=vy at Ry;have hvy:=Pg Ry;subst hvy;obtain ⟨hget,hdep⟩:=S.mP hb.h (.tail sz (g+1) (xs.drop n.toNat));rw [hl.h] at hget hdep;cases Rx with
 | tref _ _ _ sz' g' xs' ad c hi hf hv =>
  have hi2:=hi;rw [hb.h] at hi2;cases hi2;obtain ⟨_,hsv⟩:=hv rfl;have hB:=I.blk id _ hb.h;have hmc:m≤c:=by
   rcases hsv with ⟨q1,q2,q3,q4⟩ | ⟨q1,q2,q3,q4⟩
   ·omega
   ·rcases hB with ⟨b1,_⟩ | ⟨b1,b2,_⟩
    ·rw [q1] at b1;cases b1
    ·omega
  have hbd:(Instr.sliceBounds true m c (some (.int k n)) none none).run P w = .ok (n.toNat,m,c) w:=by
   unfold Instr.sliceBounds;have:=run_sliceBound (P:=P) (w:=w) k n m;simp [this _ h0.1 h0.2]
  have hrun:=uh (P:=P) (w:=w) (a:=ad) ht.u ht.s hbd;have hnc:n.toNat≤m:=by omega
  let p':Pl:=⟨(μ id).blk,(μ id).cap - n.toNat,(μ id).nil,(μ id).off+n.toNat⟩
  have bl:GH P V (upd s.get id (.tail sz (g+1) (xs.drop n.toNat))) (vI μ id p') w p' (.tail sz (g+1) (xs.drop n.toNat)):=by
   rcases hB with ⟨b1,b2,b3⟩ | ⟨b1,b2,b3,cells,elem,b5,b6,hpl,ev,b7⟩
   ·exact .inl ⟨b1,by rw [b2];simp,by simp [p',b3]⟩
   ·refine .inr ⟨b1,by simp [p'];omega,b3,cells,elem,b5,?_,hpl,fun i=>ev (n.toNat+i),fun i d hd=>?_⟩
    ·rw [b6];congr 1;simp only [p'];omega
    ·rw [eP] at hd;obtain ⟨c1,c2,c3⟩:=b7 _ d hd;refine ⟨c1,c2,fun j v hv=>?_⟩;rw [← c3 j v hv];simp only [p'];rw [lw (μ id).off]
  obtain ⟨I',E'⟩:=I.Qb (w':=w) hb.h (.tail sz (g+1) (xs.drop n.toNat)) p' (fun q => .inl ⟨rfl,q⟩) (fun _ _ _=>rfl)
   (fun cc v _ hv=>I.cell _ _ _ hv) (fun en cc _ hv=>I.map _ _ _ hv) rfl rfl rfl (aZ _) bl ⟨rfl,by omega,fun q=>by omega⟩
  refine ⟨_,w,V,vI μ id p',hrun,?_,?_,?_,hdep⟩
  ·show iO P V s'.get _ _ _
   rw [hget];refine .tref id (g+1) _ sz (g+1) (xs.drop n.toNat) _ _ (upd_same _ _ _) (aZ _) (fun _=>⟨by simp;omega,?_⟩);rw [fF];rcases hsv with ⟨q1,q2,q3,q4⟩ | ⟨q1,q2,q3,q4⟩
   ·refine .inl ⟨q1,?_,by omega,by omega⟩;subst q2;simp
   ·refine .inr ⟨q1,by simp [p',q2],?_,fun hc=>?_⟩
    ·split
     ·exact q3
     ·simp [q3]
    ·simp only [p'] at hc;have ha:=q4 (by omega);subst ha;rw [if_neg (by omega)];simp [kU,p',di]
  ·show Inv P V s'.get _ _
   rw [hget];exact I'
  ·show Evo V s.get μ w V s'.get _ w
   rw [hget];exact E'
end
end Go.Lx
namespace Go.Lx
section
variable {P:Program} {V:View} {μ:Id→Pl} {w:World}
theorem Tz {s:S} (I:Inv P V s.get μ w) {id:Id} {sz g m:Nat} {xs:List D} (hb:s.get id=some (.tail sz g xs)) (hm:m=xs.length) {a:Option Addr} {c:Nat} (hv:ZC (μ id) sz m a c) :
  ∃ cs:List Value,iW P V sz xs cs∧(Builtin.firstCells sz m (.slice a m c)).run P w = .ok cs.toArray w:=by
 rcases I.blk id _ hb with ⟨b1,b2,_⟩ | ⟨b1,b2,b3,cells,elem,b5,b6,hpl,ev,b7⟩
 ·subst b2;simp at hm;subst hm;refine ⟨[], .nil sz,?_⟩;rcases hv with ⟨_,rfl,_⟩ | ⟨q,_⟩
  ·simp [Builtin.firstCells]
  ·rw [b1] at q;cases q
 ·rcases hv with ⟨q1,_⟩ | ⟨q1,q2,q3,q4⟩
  ·rw [b1] at q1;cases q1
  ·have hle:(μ id).off * sz+xs.length * sz≤cells.size:=by rw [b6,← di];exact aV _ (by omega)
   have hlen:((cells.toList.drop ((μ id).off * sz)).take (xs.length * sz)).length=xs.length * sz:=by simp;omega
   have hget:∀ (k:Nat) v,((cells.toList.drop ((μ id).off * sz)).take (xs.length * sz))[k]?=some v→cells[(μ id).off * sz+k]?=some v:=by
    intro k v hk;rw [bT] at hk;split at hk
    ·rw [eP] at hk;simpa using hk
    ·cases hk
   refine ⟨(cells.toList.drop ((μ id).off * sz)).take (xs.length * sz),⟨hlen,fun v hv=>?_,ev,fun i d hd=>⟨(b7 i d hd).1,(b7 i d hd).2.1,fun j v hv=>?_⟩⟩,?_⟩
   ·obtain ⟨k,hk⟩:=gm.1 hv;exact hpl _ v (hget k v hk)
   ·have h3:=(b7 i d hd).2.2 j v hv;have hj:j < sz:=by rw [← (b7 i d hd).2.1];exact (aN.1 hv).1
    have hil:=(ay.1 hd).1;have hlt:=mul_lt hil hj;rw [bT,if_pos hlt,eP];rw [di,lw] at h3;simpa using h3
   ·by_cases h0:xs.length=0
    ·have:m=0:=by omega
     subst this;have hnil:(cells.toList.drop ((μ id).off * sz)).take (xs.length * sz)=[]:=cZ (by rw [hlen,h0,oM]);rw [hnil];cases a with
     | none=>simp [Builtin.firstCells]
     | some ad =>
      simp only [Builtin.firstCells];have key:=run_loadCells_list (P:=P) (w:=w) ad [] (fun j v hv=>by simp at hv);simpa using key
    ·have ha:=q4 (by omega);subst ha;simp only [Builtin.firstCells];have key:=run_loadCells_list (P:=P) (w:=w) ⟨(μ id).blk,(μ id).off * sz,none⟩ ((cells.toList.drop ((μ id).off * sz)).take (xs.length * sz)) (fun j v hv=>by
      rw [kU,cell_of_row w _ _ cells elem (0,0) b5];exact hget j v hv)
     rw [hlen] at key;rw [hm];exact key
end
section
variable {P:Program} {env:Env} {s s':S} {dst:Option Nat} {ty:TypeId} {pos:String} {af:Array Edge} {gd:Option (Nat×Bool)}
theorem abq {args:Array Operand} {ts:Array TypeId} {t e t2 e2 sz by_ m k0 g:Nat} {z:D} {id:Id} {xs ys:List D} {y:A} (ht:Sli P t e sz by_ z) (ht2:P.underlying t2=some (.slice e2))
  (ha:dO (look env) args.toList=some [.tref id g m,y]) (hts:ts.toList=[t,t2]) (hb:zk s id (.tail sz g xs)) (hm:m=xs.length) (hy:s.elems y=some ys)
  (hall:ys.all (fun x=>decide (x.size=sz))=true) (hne:ys.isEmpty=false) (hroom:xs.length+ys.length≤16777216) (hk0:m+ys.length=k0) (hl:JR s id (.tail sz (g+1) (xs++ys)) s') :
  iL P env s ⟨dst, .call ⟨.builtin .append,args,ts⟩,ty,pos,af,gd⟩ (.tref id (g+1) k0) (.set s'):=by
 subst hk0;refine iL.aaB ha rfl fun V μ w I cargs R=>?_
 obtain ⟨cx,cy,rfl,Hx,Hy⟩:=aat (c:=bc P) R;have ets:ts=#[t,t2]:=by apply mO;rw [hts]
 subst ets;refine ⟨_,rfl,?_⟩;have hu:=ht.u;have hsz:=ht.s;obtain ⟨i,hi,hbi⟩:=AQ ht.b;obtain ⟨zv,hz,hzs,hzr⟩:=AX ht.z0 hi;have hzc:zv.cells.size=sz:=by rw [hzs,ht.zs]
 have hb0:0 < i.bytes:=by rw [hbi];exact ht.p
 obtain ⟨b,n,c',rfl,hn,hnc,yc,hyC,hyr⟩:=tq I Hy hy hall;obtain ⟨b2,n2,c2,e2',hn2,_,yc2,hyC2,hyr2⟩:=tq I.drew Hy hy hall;cases e2';have hnpos:0 < n:=by rw [hn];cases ys with | nil=>cases hne | cons _ _=>simp
 cases Hx with
 | tref _ _ _ sz1 g1 xs1 a cap hi1 hf1 hv1 =>
  have e1:=hi1;rw [hb.h] at e1;cases e1;obtain ⟨_,hsv⟩:=hv1 rfl;obtain ⟨hget,hdep⟩:=S.mP hb.h (.tail sz (g+1) (xs++ys));rw [hl.h] at hget hdep;have hB:=I.blk id _ hb.h;by_cases hin:m+n≤cap
  ·
   rcases hsv with ⟨q1,q2,q3,q4⟩ | ⟨q1,q2,q3,q4⟩
   ·omega
   ·have ha':=q4 (by omega);subst ha';rcases hB with ⟨q,_⟩ | ⟨_,b2,b3,cells,elem,b5,b6,hpl,ev,b7⟩
    ·rw [q1] at q;cases q
    ·have hfit:(μ id).off * sz+m * sz+yc.length≤cells.size:=by
      rw [hyC.1,b6,← hn,← di,← di];exact aV _ (by omega)
     obtain ⟨w',k1,k2,k3,k4,k5,k6,k7⟩:=MC (w:=w) ty hu ht2 hsz hin b5 hfit hyC.2.1 hyr;have hle2:(μ id).off * sz+m * sz+yc.length≤cells.toList.length:=by simpa using hfit
     obtain ⟨evy,hyE⟩:=hyC.2.2;have hycl:yc.length=ys.length * sz:=hyC.1;obtain ⟨I',E'⟩:=I.Qb (w':=w') hb.h (.tail sz (g+1) (xs++ys)) (μ id) (fun q => .inl ⟨rfl,q⟩) (fun k _ hk=>k3 k (hk.resolve_left (by rw [q1];simp)))
      (fun cc v _ hv=>absurd hv (b3 cc v)) (fun en cc _ hv=>by have:=I.map _ _ _ hv;rw [b5] at this;cases this) k5 k6 k7 (by omega)
      (.inr ⟨q1,by simp;omega,b3,_,elem,k2,by rw [iH,jH _ _ _ hle2];simpa using b6,by
       intro k v hk;rw [eu,kQ _ _ _ hle2] at hk;split at hk
       ·exact hpl k v (by simpa using hk)
       ·split at hk
        ·exact hyC.2.1 v (bz hk)
        ·exact hpl k v (by simpa using hk),fun q=>if q < xs.length then ev q else evy (q - xs.length),by
       intro q d hd;by_cases hq:q < xs.length
       ·rw [bK hq] at hd;simp only [if_pos hq];obtain ⟨c1,c2,c3⟩:=b7 q d hd;refine ⟨c1,c2,fun j v hv=>?_⟩;have hj:j < sz:=by rw [← c2];exact (aN.1 hv).1
        have hlt:=mul_lt hq hj;rw [eu,kQ _ _ _ hle2,if_pos (by rw [di,hm];omega)];simpa using c3 j v hv
       ·rw [dF (by omega)] at hd;simp only [if_neg hq];obtain ⟨c1,c2,c3⟩:=hyE _ d hd;refine ⟨c1,c2,fun j v hv=>?_⟩;have hj:j < sz:=by rw [← c2];exact (aN.1 hv).1
        have hlt:=mul_lt (ay.1 hd).1 hj;have e3:q * sz=xs.length * sz+(q - xs.length) * sz:=by rw [← di];congr 1;omega
        rw [eu,kQ _ _ _ hle2,if_neg (by rw [di,hm,e3];omega),if_pos (by rw [di,hm,e3,hycl];omega)];rw [← c3 j v hv]
        congr 1
        rw [di,hm,e3];omega⟩)
      ⟨rfl,by omega,fun q=>by omega⟩
     refine ⟨_,w',V,vI μ id (μ id),k1,?_,?_,?_,hdep⟩
     ·show iO P V s'.get _ _ _
      rw [hget,hn];refine .tref id _ _ sz (g+1) (xs++ys) _ _ (upd_same _ _ _) (aZ _) (fun _=>⟨by simp;omega, .inr ?_⟩);rw [fF];exact ⟨q1,q2,rfl,fun _=>rfl⟩
     ·show Inv P V s'.get _ _
      rw [hget];exact I'
     ·show Evo V s.get μ w V s'.get _ w'
      rw [hget];exact E'
  ·
   have hcap':cap < m+n:=by omega
   obtain ⟨xc,hxC,hxr⟩:=Tz (w:=w.drew) I.drew hb.h hm hsv;have hroom':room (m+n) i.bytes=true:=by
    have:=ht.r;simp only [room,aS,fE];exact ⟨by omega,by omega⟩
   obtain ⟨k,hk⟩:=sH (w:=w) ty hu ht2 hi hz hsz hroom' hb0 hcap' hxr hyr2;have hC:=hxC.append hyC2
   let p':Pl:=⟨w.heap.size,m+n+k,false,0⟩
   have noV:∀ c v,¬ V.cell w.heap.size c v:=by
    intro c v hv;have:=World.block_lt_of_cell? w _ (I.cell _ _ _ hv);simp at this
   obtain ⟨r1,ev,r2⟩:=Qd hC (Builtin.zeroCells zv.cells k) (fun v hv=>yl hzr k v hv);obtain ⟨I',E'⟩:=I.Qb (w':=oD w (.cells ((xc++yc2).toArray++Builtin.zeroCells zv.cells k) e)) hb.h (.tail sz (g+1) (xs++ys)) p' (fun _ => .inr (aZ _)) (fun k hk _=>rW w _ k hk)
    (fun cc v _ hv=>by
     have h1:=I.cell _ _ _ hv;have h2:=World.block_lt_of_cell? w _ h1;rw [← h1];unfold World.cell?;simp only [rW w _ _ h2])
    (fun en cc _ hv=>by
     have h1:=I.map _ _ _ hv;rw [rW w _ _ (aN.1 h1).1,h1])
    rfl rfl rfl (by simp [oD])
    (.inr ⟨rfl,by simp [p'];omega,fun c v=>noV c v,_,e,Dp w _,by
     have h9:=hC.1;simp only [Array.size_append,iH,jP,hzc,p',h9,iy];rw [iV,← di,hm,hn],r1,ev,by
     intro q d hd;refine ⟨(r2 q d hd).1,(r2 q d hd).2.1,fun j v hv=>?_⟩
     show _[(0+q) * sz+j]?=some v
     rw [iV];exact (r2 q d hd).2.2 j v hv⟩)
    ⟨rfl,by omega,fun q=>by omega⟩
   refine ⟨_,_,V,vI μ id p',hk,?_,?_,?_,hdep⟩
   ·show iO P V s'.get _ _ _
    rw [hget,hn];refine .tref id _ _ sz (g+1) (xs++ys) _ _ (upd_same _ _ _) (aZ _) (fun _=>⟨by simp;omega, .inr ?_⟩);rw [fF];exact ⟨rfl,by simp [p',hn],rfl,fun _=>by simp [p']⟩
   ·show Inv P V s'.get _ _
    rw [hget];exact I'
   ·show Evo V s.get μ w V s'.get _ _
    rw [hget];exact E'
end
end Go.Lx
namespace Go.Lx
section
variable {P:Program} {env:Env} {s s':S} {dst:Option Nat} {ty:TypeId} {pos:String} {af:Array Edge} {gd:Option (Nat×Bool)} {α:Type} {f:α→D} {xs ys v:List α} {id:Id} {t e sz by_ g m:Nat} {z:D}
theorem ixQ {x y:Operand} {k:IntKind} {j:Int} {u:α} (ht:Sli P t e sz by_ z) (hx:aB (look env) x=some (.tref id g m)) (hr:(wO env x || xq env x)=false)
  (hy:aB (look env) y=some (.d (.int k j))) (hm:m=xs.length) (hb:zk s id (.tail sz g (xs.map f))) (h:at_ xs j=some u) (hz:Nat.ble 1 sz=true) :
  iL P env s ⟨dst, .indexAddr t x y,ty,pos,af,gd⟩ (.tptr id g (j.toNat * sz)) .same:=by
 obtain ⟨_,h1,h2⟩:=pF h;exact abv ht hx hr hy hb (gp hz) (by rw [iq];exact hm) ⟨h1,by omega⟩
theorem ldQ {x:Operand} {j:Int} {u:α} {r:A} (ht:GU P t) (hx:aB (look env) x=some (.tptr id g (j.toNat * sz))) (hr:xq env x=false) (hb:zk s id (.tail sz g (xs.map f))) (h:at_ xs j=some u)
  (hp:((f u).cells.map A.d)[0]?=some r):iL P env s ⟨dst, .load t x,ty,pos,af,gd⟩ r .same:=by
 obtain ⟨h0,_,_⟩:=pF h;exact abw (e:=f u) (j:=j.toNat) ht.z hx hr rfl hb (by rw [bn,h0];rfl) (by simp only [ht.a,xM,aF,aj];exact hp)
theorem slQ {x o1:Operand} {k:IntKind} {n:Int} (ht:Sli P t e sz by_ z) (hx:aB (look env) x=some (.tref id g m)) (hr:dZ env (.slice t x (some o1) none none)=true)
  (h1:aB (look env) o1=some (.d (.int k n))) (hm:m=xs.length) (hb:zk s id (.tail sz g (xs.map f))) (h:cut xs n (xs.length:Int)=some v) (hl:JR s id (.tail sz (g+1) (v.map f)) s') :
  iL P env s ⟨dst, .slice t x (some o1) none none,ty,pos,af,gd⟩ (.tref id (g+1) v.length) (.set s'):=by
 unfold cut at h;split at h
 ·rename_i hh
  cases h;have e1:(xs.take (xs.length:Int).toNat).drop n.toNat=xs.drop n.toNat:=by rw [jD,List.take_length]
  rw [e1] at hl ⊢;rw [List.map_drop] at hl;have:=abC (dst:=dst) (ty:=ty) (pos:=pos) (af:=af) (gd:=gd) ht hx hr h1 hb (by rw [iq];exact hm) ⟨hh.1,by omega⟩ hl
  rwa [List.length_drop,← hm]
 ·cases h
theorem apQ {args:Array Operand} {ts:Array TypeId} {t2 e2:Nat} {y:A} (ht:Sli P t e sz by_ z) (ht2:P.underlying t2=some (.slice e2)) (hf:Sz f sz) (ha:dO (look env) args.toList=some [.tref id g m,y]) (hm:m=xs.length) (hts:ts.toList=[t,t2])
  (hy:Els s y (ys.map f)) (hb:zk s id (.tail sz g (xs.map f))) (h:app xs ys=some v) (hl:JR s id (.tail sz (g+1) (v.map f)) s') (hne:ys.isEmpty=false) :
  iL P env s ⟨dst, .call ⟨.builtin .append,args,ts⟩,ty,pos,af,gd⟩ (.tref id (g+1) v.length) (.set s'):=by
 have hv:=TM h;have hr:=Qv h;subst hv;rw [og] at hl;exact abq ht ht2 ha hts hb (by rw [iq];exact hm) hy.h (XY hf) (by simpa using hne) (by simpa using hr) (by simp [hm]) hl
end
end Go.Lx
namespace Go.Lx
theorem hmT {α:Type} {f:α→D} {xs:List α} {m:Nat} (h:m=xs.length):m=(xs.map f).length:=by rw [iq];exact h
end Go.Lx
namespace Go.Lx
theorem Zi {α:Type} {f:α→D} {xs:List α}:wW (dN f xs) = .sl (xs.map f):=by cases xs<;>rfl
end Go.Lx
set_option linter.all false
namespace Go.Lx
section
variable {P:Program} {env env':Env} {s s':S} {loc loc' c0:Loc} {out:Out} {chg:List (Option Loc)}
theorem tk (h:Le P env s env' s':=by (try simp only [aT,dA]);exact trk (by kernel_rfl) (by kernel_rfl) (by kernel_rfl)):Le P env s env' s':=h
theorem tkc (h:Le P env s env' s':=by (try simp only [aT,dA]);exact abH (by kernel_rfl) (by kernel_rfl) (by kernel_rfl)):Le P env s env' s':=h
theorem rt {rs:List ResultVar} {r:Ret} (h:Returns P rs env s r:=by exact rt1 (ex:=false) (by exact (.t rfl .n)) (by exact (gd (by rfl))) (by rfl) (by rfl)):Returns P rs env s r:=h
theorem wX {rs:List ResultVar} {r:Ret} (h:Returns P rs env s r:=by exact rt2 (ex:=false) (by exact (.t rfl (.t rfl .n))) (by exact (sc (gd (by rfl)) (sc (gd (by rfl)) sn))) (by rfl) (by rfl)):Returns P rs env s r:=h
theorem fj {P:Program} {g:FuncId} {fn:Func} {code:Code} {args:List A} {out:Out} {r:Ret} (hf:P.funcs[g]?=some fn)
  (h:CWp P code (G6 0 args) ⟨[],out,[]⟩ (fun ex e s=>(match ex with | .exit _=>False | _=>True)∧Returns P fn.results.toList e s r)) (hb:fn.body=some code:=by exact rfl) (hn:(fn.name == "runtime.NumGoroutine")=false:=by kernel_rfl)
  (hok:codeOk fn.ntmps code=true:=by kernel_rfl) (hle:Nat.ble args.length fn.ntmps=true:=by kernel_rfl):dS P g args out r:=fi hf hb hn hok hle h
end
section
variable {P:Program} {ops:List Oper} {rest:List (Nat×Oper)} {env:Env} {s:S} {Q:Env→S→Prop} {i d j:Nat} {op:Op} {ty:TypeId} {pos:String} {af:Array Edge} {v:A} {want c:Bool}
def Xj (ops:List Oper) (env:Env) (j:Nat):Option A:=((ops[j]?).bind (·.dst)).bind (look env)
theorem abd (hl:Xj ops env j=some (.d (.bool c))) (hb:c=want):GY ops env (some (j,want)):=by
 obtain ⟨t,h1,h2⟩:=fK.1 hl;exact gy h1 h2 hb
theorem aba (hl:Xj ops env j=some (.d (.bool c))) (hb:c=!want):GN ops env (some (j,want)):=by
 obtain ⟨t,h1,h2⟩:=fK.1 hl;exact gn h1 h2 hb
theorem abb (hl:Xj ops env j=some .undef):GN ops env (some (j,want)):=by
 obtain ⟨t,h1,h2⟩:=fK.1 hl;exact gu h1 h2
theorem bU (hl:Xj ops env j=some (.d (.bool c))) (hb:c=!want) (k:RWp P ops rest ((d, .undef)::env) s Q):RWp P ops ((i,⟨some d,op,ty,pos,af,some (j,want)⟩)::rest) env s Q:=un (aba hl hb) k
theorem kX (hl:Xj ops env j=some .undef) (k:RWp P ops rest ((d, .undef)::env) s Q):RWp P ops ((i,⟨some d,op,ty,pos,af,some (j,want)⟩)::rest) env s Q:=un (abb hl) k
theorem bM (hl:Xj ops env j=some (.d (.bool c))) (hb:c=want) (h:iL P env s ⟨some d,op,ty,pos,af,some (j,want)⟩ v .same) (k:RWp P ops rest ((d,v)::env) s Q):RWp P ops ((i,⟨some d,op,ty,pos,af,some (j,want)⟩)::rest) env s Q:=us (abd hl hb) h k
theorem aH {x:Operand} (h:aB (look env) x=some v) (k:RWp P ops rest ((d,v)::env) s Q):RWp P ops ((i,⟨some d, .move x,ty,pos,af,none⟩)::rest) env s Q:=ts (mv h) k
theorem bH {t:Nat} (h:look env t=some v) (k:RWp P ops rest ((d,v)::env) s Q):RWp P ops ((i,⟨some d, .assign (.tmp t),ty,pos,af,none⟩)::rest) env s Q:=ts (as_ h) k
theorem eF {z:Value} {x:D} (h:ofValue z=some x) (hn:notNil x=true) (k:RWp P ops rest ((d, .d x)::env) s Q):RWp P ops ((i,⟨some d, .assign (.const z),ty,pos,af,none⟩)::rest) env s Q:=ts (ac h hn) k
theorem kW {x:Operand} {t t2:TypeId} {fi ft off sz o i2 d2:Nat} {ty2:TypeId} {pos2:String} {af2:Array Edge} {e y:D} (hf:Fld P t fi ft off sz) (ht:GU P t2) (hz:Nat.beq sz 0=false) (hx:aB (look env) x=some (.pimm e o)) (hv:e.cells[o+off]?=some y)
  (k:RWp P ops rest ((d2, .d y)::(d, .pimm e (o+off))::env) s Q):RWp P ops ((i,⟨some d, .fieldAddr t x fi,ty,pos,af,none⟩)::(i2,⟨some d2, .load t2 (.tmp d),ty2,pos2,af2,none⟩)::rest) env s Q :=
 ts (faI hf hz hx) (ts (ldI ht (by simp [aB,look]) hv) k)
end
section
variable {P:Program} {F:Facts} {ops:List Oper} {b:List Nat} {rest:List (Nat×Oper)} {env:Env} {s:S} {M R:List Nat} {Q:Env→S→Prop} {i d j:Nat} {op:Op} {ty:TypeId} {pos:String} {af:Array Edge} {v:A} {want c:Bool} {adds:List (Nat×Loc)}
theorem jm (hl:Xj ops env j=some (.d (.bool c))) (hb:c=!want) (k:DWp P F ops b rest adds ((d, .undef)::env) s M R Q):DWp P F ops b ((i,⟨some d,op,ty,pos,af,some (j,want)⟩)::rest) adds env s M R Q:=vn (aba hl hb) k
theorem ZZ (hl:Xj ops env j=some .undef) (k:DWp P F ops b rest adds ((d, .undef)::env) s M R Q):DWp P F ops b ((i,⟨some d,op,ty,pos,af,some (j,want)⟩)::rest) adds env s M R Q:=vn (abb hl) k
theorem mW (hl:Xj ops env j=some (.d (.bool c))) (hb:c=want) (h:iL P env s ⟨some d,op,ty,pos,af,some (j,want)⟩ v .same) {rd:Bool} (hr:dZ env op=rd) (k:DWp P F ops b rest [] ((d,v)::env) s M (QZ rd i R) Q):DWp P F ops b ((i,⟨some d,op,ty,pos,af,some (j,want)⟩)::rest) [] env s M R Q:=vs (abd hl hb) h hr k
theorem ji {x:Operand} (h:aB (look env) x=some v) (k:DWp P F ops b rest [] ((d,v)::env) s M R Q):DWp P F ops b ((i,⟨some d, .move x,ty,pos,af,none⟩)::rest) [] env s M R Q:=ds (mv h) rfl k
theorem qO (h:Q env (s.plus (qg adds))) (ho:yw ops M R=true:=by kernel_rfl):DWp P F ops b [] adds env s M R Q:=dn ho h
end
section
variable {P:Program} {env:Env} {s:S} {loc:Loc} {out:Out} {dst:Option Nat} {ty:TypeId} {pos:String} {af:Array Edge} {gd:Option (Nat×Bool)} {args:Array Operand} {ts:Array TypeId} {xs ys:List A} {g:FuncId} {v:A} {x y z u:D} {Q:Ex→Env→S→Prop} {a b:Code}
theorem gW (ha:dO (look env) args.toList=some xs) (hl:Gl (fun _=>false) 0 ⟨loc,out,[]⟩ xs ys none) (hf:dS P g (ys++[]) (loc::out) ⟨v,[]⟩) (hv:v.wJ=false:=by exact rfl) :
  iL P env ⟨loc,out,[]⟩ ⟨dst, .call ⟨.value (.func g),args,ts⟩,ty,pos,af,gd⟩ v .same:=cln (f:=fun _=>false) kf ha hl (jZ _) hf hv
theorem oN:Gl (fun _=>false) 0 s [.d x] [.d x] none := .c rfl le1 .n
theorem uD:Gl (fun _=>false) 0 s [.d x, .d y] [.d x, .d y] none := .c rfl le1 (.c rfl le1 .n)
theorem yt:Gl (fun _=>false) 0 s [.d x, .d y, .d z] [.d x, .d y, .d z] none := .c rfl le1 (.c rfl le1 (.c rfl le1 .n))
theorem jl {T e:Env} (k:Nat) (he:e.drop k=env) (h1:V4 e T) (h2:((e.take k).all fun p=>(look T p.1).isSome || (look env p.1).isNone)=true:=by kernel_rfl):Le P e s (T++env) s:=trD k he h1 h2
theorem vK {t:TypeId} {ps:Array (Nat×Operand)} {vs:List (Nat×A)} {v:A} (hp:nO (look env) ps.toList=some vs) (hv:zT P t vs=some v:=by kernel_rfl):iL P env s ⟨dst, .build t ps,ty,pos,af,gd⟩ v .same:=bld hp hv
theorem zq {id:Nat} {ops:Array Oper} (hm:P.follows .mixedOrders=true) {w:List Nat} (h:DWp P [] ops.toList w (oC 0 ops.toList) [] env s [] [] (fun e s'=>CWp P b e s' Q)) (hb:fU ops.toList=w:=by kernel_rfl):CWp P (.seq (.region id ops true) b) env s Q:=sd hm hb h
theorem dR (h:CWp P a env s (fun ex e s=>match ex with | .norm=>CWp P b e s Q | ex=>Q ex e s)):CWp P (.seq a b) env s Q := .seq h
theorem eQ (h:Q .ret env s):CWp P .ret env s Q := .ret h
theorem fO (h:Q .norm env s):CWp P .skip env s Q := .skip h
end
end Go.Lx
