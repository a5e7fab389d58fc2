/- What the functions compute answers as the statement says. -/
import Derived.Test.YtiidkobbkanciaaGreatDependSystemsSh
set_option linter.all false
namespace Go.Sh
open Go.Lx
set_option linter.unusedVariables false
set_option linter.unusedSimpArgs false
theorem Qs:yl=some true:=by decide +kernel
theorem jY {i n:Nat} (h:i < n):((i:Int) < (n:Int))=True:=eq_true (by omega)
theorem eP (n:Nat):((n:Int) < (n:Int))=False:=eq_false (by omega)
theorem vz {p:List Int} (h:p.length≤16777216):kG p=some p:=by
 unfold kG;rw [Q4 h];simp [ND]
theorem tX {α ρ:Type} {p:α→Bool} {c:ρ}:∀ xs:List α,xs.findSome? (fun x=>if p x=true then some c else none)=if xs.any p=true then some c else none
 | []=>rfl
 | x::xs=>by
  simp only [List.findSome?_cons,List.any_cons];by_cases e:p x=true
  ·simp [e]
  ·simp only [e,aI,Bool.false_or];exact tX xs
theorem OA (a b:Int):gK [a,b]=some (if a=0 then b else a):=by
 unfold gK;rw [qL (step:=gK.s1 [a,b]) [a,b] (fun x=>if x=0 then none else some x) (fun c=>Sum.inr c) (Sum.inl ()) rfl ?_ ?_ (by simp)]
 ·by_cases h1:a=0
  ·by_cases h2:b=0
   ·simp [h1,h2]
   ·simp [h1,h2]
  ·simp [h1]
 ·intro i hi;simp only [gK.s1,jY hi,aS,jc hi,ag];by_cases e:[a,b][i]=0
  ·simp only [e,iT,aI,aS];rw [wn (by simp at hi;omega)]
  ·simp only [e,bQ,aS,aI]
 ·simp only [gK.s1,eP,aI]
theorem Jj:∀ (n:Nat) (a b:List Int),a.length < n→n≤16777217→b.length < 16777216→∃ r,dV.N n a b=some r∧(r=true→a≠b)
 | 0,a,b,h,_,_=>absurd h (Nat.not_lt_zero _)
 | n+1,a,b,h,hn,hb=>by
  show ∃ r,dV.F (dV.N n) a b=some r∧_
  unfold dV.F
  match a,b with
  | [],b=>exact ⟨_,rfl,fun h=>by simp at h;intro q;subst q;simp at h⟩
  | x::a,[]=>exact ⟨_,rfl,fun h=>by simp at h;omega⟩
  | x::a,y::b =>
   have e0:¬ ((((x::a).length:Int)==0) || (((y::b).length:Int)==0))=true:=by simp;omega
   have c1:cut (x::a) 1 ((x::a).length:Int)=some a:=by unfold cut;rw [if_pos (by simp;omega)];simp
   have c2:cut (y::b) 1 ((y::b).length:Int)=some b:=by unfold cut;rw [if_pos (by simp;omega)];simp
   have a1:at_ (x::a) 0=some x:=rfl;have a2:at_ (y::b) 0=some y:=rfl;rw [if_neg e0];simp only [a1,a2,ag];by_cases h1:x < y
   ·exact ⟨true,by simp [h1],fun _ q=>by simp at q;omega⟩
   ·by_cases h2:x=y
    ·obtain ⟨r,h3,h4⟩:=Jj n a b (by simp at h;omega) (by omega) (by simp at hb;omega);refine ⟨r,?_,fun hr q=>h4 hr (by simp at q;exact q.2)⟩;subst h2;rw [if_neg h1,if_pos rfl,c1,c2];simp only [ag,h3]
    ·exact ⟨false,by simp [h1,h2],fun q=>by cases q⟩
theorem GG:∀ (n m:Nat) (a b:List Int),dV.N n a b=some false→dV.N m b a=some false→a.length=b.length→a=b
 | 0,m,a,b,h,_,_=>by cases h
 | n+1,0,a,b,_,h,_=>by cases h
 | n+1,m+1,a,b,h,k,hl=>by
  change dV.F (dV.N n) a b=some false at h;change dV.F (dV.N m) b a=some false at k;unfold dV.F at h k
  match a,b,hl with
  | [],[],_=>rfl
  | x::a,y::b,hl =>
   have e0:¬ ((((x::a).length:Int)==0) || (((y::b).length:Int)==0))=true:=by simp;omega
   have e1:¬ ((((y::b).length:Int)==0) || (((x::a).length:Int)==0))=true:=by simp;omega
   have c1:cut (x::a) 1 ((x::a).length:Int)=some a:=by unfold cut;rw [if_pos (by simp;omega)];simp
   have c2:cut (y::b) 1 ((y::b).length:Int)=some b:=by unfold cut;rw [if_pos (by simp;omega)];simp
   have a1:at_ (x::a) 0=some x:=rfl;have a2:at_ (y::b) 0=some y:=rfl;rw [if_neg e0] at h;rw [if_neg e1] at k;simp only [a1,a2,ag,c1,c2] at h k;by_cases h1:x < y
   ·simp [h1] at h
   ·by_cases h2:y < x
    ·simp [h2] at k
    ·have h3:x=y:=by omega
     subst h3;simp only [h1,aI,aS] at h k;obtain ⟨r,hr,h⟩:=dE.1 h;obtain ⟨r',hr',k⟩:=dE.1 k;cases h;cases k;rw [GG n m a b hr hr' (by simpa using hl)]
theorem Tm {a b:List Int} (ha:a.length < 16777216) (hb:b.length < 16777216):rH a b=some (a==b):=by
 unfold rH;have hF:(16777217:Nat)≤FUEL:=by unfold FUEL;omega
 have step:∀ (n:Nat) (a b:List Int) (r:Bool),dV.N n a b=some r→dV.N (n+1) a b=some r:=by
  intro n
  induction n with
  | zero=>intro a b r h;cases h
  | succ n ih =>
   intro a b r h;change dV.F (dV.N n) a b=some r at h
   show dV.F (dV.N (n+1)) a b=some r
   unfold dV.F at h ⊢;split
   ·rename_i hc;rw [if_pos hc] at h;exact h
   ·rename_i hc
    rw [if_neg hc] at h;obtain ⟨x4,h4,h⟩:=dE.1 h;obtain ⟨x5,h5,h⟩:=dE.1 h;rw [h4,h5];simp only [ag];split
    ·rename_i hd;rw [if_pos hd] at h;exact h
    ·rename_i hd
     rw [if_neg hd] at h;rw [h4,h5] at h;simp only [ag] at h ⊢;split
     ·rename_i he
      rw [if_pos he] at h;obtain ⟨x6,h6,h⟩:=dE.1 h;obtain ⟨x7,h7,h⟩:=dE.1 h;obtain ⟨x8,h8,h⟩:=dE.1 h;rw [h6,h7];simp only [ag];rw [ih _ _ _ h8];exact h
     ·rename_i he;rw [if_neg he] at h;exact h
 have up:∀ (n m:Nat) (a b:List Int) (r:Bool),n≤m→dV.N n a b=some r→dV.N m a b=some r:=by
  intro n m a b r hnm h
  induction hnm with
  | refl=>exact h
  | step _ ih=>exact step _ _ _ _ ih
 have get:∀ a b:List Int,a.length < 16777216→b.length < 16777216→∃ r,dV a b=some r∧(r=true→a≠b):=by
  intro a b ha hb;obtain ⟨r,h1,h2⟩:=Jj 16777217 a b (by omega) (bu _) hb;exact ⟨r,up _ _ _ _ _ hF h1,h2⟩
 by_cases hl:(a.length:Int)=(b.length:Int)
 ·rw [if_pos hl];obtain ⟨r,h1,h2⟩:=get a b ha hb;obtain ⟨r',h3,h4⟩:=get b a hb ha;rw [h1,h3];simp only [ag];cases r with
  | true=>simp;exact h2 rfl
  | false =>
   cases r' with
   | true=>simp;exact fun q=>h4 rfl q.symm
   | false=>simp;exact GG _ _ _ _ h1 h3 (by omega)
 ·rw [if_neg hl];have:a≠b:=fun q=>hl (by rw [q])
  simp [this]
theorem xH (a b c:Int):gp a b c=aB a b c:=by
 unfold gp aB;simp only [Bool.not_or,← decide_not]
 congr 1<;>exact decide_eq_decide.2 (by omega)
theorem KP:∀ (l:List aA),l.length < 100→dW l=some (match l.findSome? (fun r=>if r.holds=true then none else some r.code) with | some c=>c | none=>0):=by
 intro l hl;unfold dW;rw [qL (step:=dW.s1 l) l (fun r=>if r.holds=true then none else some r.code) (fun c=>Sum.inr c) (Sum.inl ()) rfl ?_ ?_ (by omega)]
 ·cases l.findSome? (fun r=>if r.holds=true then none else some r.code)<;>rfl
 ·intro i hi;simp only [dW.s1,jY hi,aS,jc hi,ag];by_cases h:l[i].holds=true
  ·simp only [h,iT,aI,aS];rw [wn (by omega)]
  ·simp only [h,bQ,aS,aI,aN]
 ·simp only [dW.s1,eP,aI]
theorem Io (b:Bool) (c:Int):dW [aA.mk b c]=some (if b=true then 0 else c):=by
 rw [KP _ (by simp)];cases b<;>rfl
theorem Ip (a b:Bool) (c d:Int):dW [aA.mk a c,aA.mk b d]=some (if a=true then (if b=true then 0 else d) else c):=by
 rw [KP _ (by simp)];cases a<;>cases b<;>rfl
theorem SN (a b c d:Bool) (x y z t:Int):dW [aA.mk a x,aA.mk b y,aA.mk c z,aA.mk d t]=some (if a=true then (if b=true then (if c=true then (if d=true then 0 else t) else z) else y) else x):=by
 rw [KP _ (by simp)];cases a<;>cases b<;>cases c<;>cases d<;>rfl
def TR (l:List Int):Bool:=l.any fun c=>!aB c (-8) 8
def Bf (x:ah) (k:Int):Int:=if (x.Coefs.length:Int)=k then (if TR x.Coefs=true then 2 else if aB x.Const (-64) 64=true then 0 else 2) else 10
theorem Tu {p:List Int} (h:p.length < 16777216):fB p=some (TR p):=by
 unfold fB bK;obtain ⟨k,hk⟩:=IM (step:=bK.s1 p) p (fun c=>!aB c (-8) 8) (fun i=>Sum.inr i) (Sum.inl ()) (s:=0) rfl (fun i hi=>by
  simp only [bK.s1,jY hi,aS,jc hi,ag,nN];by_cases e:(!aB p[i] (-8) 8)=true
  ·simp only [e,aS]
  ·simp only [e,aI,aN];rw [wn (by omega)]) (by simp only [bK.s1,eP,aI]) (by omega)
 rw [hk];unfold TR;by_cases e:p.any (fun c=>!aB c (-8) 8)=true
 ·simp only [e,aS,ag];have:(k:Int)≥0:=by omega
  simp [this]
 ·simp only [e,aI,ag,aN];simp at e ⊢
theorem Dh {x:ah} (h:x.Coefs.length < 16777216) (k:Int):kK x k=some (Bf x k):=by
 unfold kK Bf;rw [Tu h];simp only [ag];by_cases e:TR x.Coefs=true
 ·simp only [e,iT,aI,aS];rw [Ip];by_cases h2:(x.Coefs.length:Int)=k<;>simp [h2]
 ·simp only [e,bQ,aS,aI,aN];rw [Ip];by_cases h2:(x.Coefs.length:Int)=k<;>simp [h2]
theorem yX {x:ah} (h:x.Coefs.length < 16777216) (k:Int):gU x k=some (Bf x k):=by
 unfold gU Bf;by_cases h2:(x.Coefs.length:Int)=k
 ·simp only [h2,iT,aI,aS];rw [qL (step:=gU.s1 x k) x.Coefs (fun z=>if (!aB z (-8) 8)=true then some () else none) (fun _ => .inr 2) (.inl ()) rfl ?_ ?_ (by omega),tX]
  ·unfold TR;by_cases e:x.Coefs.any (fun c=>!aB c (-8) 8)=true
   ·simp only [e,aS,ag]
   ·simp only [e,aI,ag,aN,xH];by_cases e2:aB x.Const (-64) 64=true<;>simp [e2]
  ·intro i hi;have hk:((i:Int) < k)=True:=eq_true (by omega);simp only [gU.s1,hk,aS,jc hi,ag,xH];by_cases e:aB x.Coefs[i] (-8) 8=true
   ·simp only [e,iT,aI,Bool.not_true,aN];rw [wn (by omega)]
   ·have:aB x.Coefs[i] (-8) 8=false:=by simpa using e
    simp [this]
  ·have hk:((x.Coefs.length:Int) < k)=False:=eq_false (by omega);simp only [gU.s1,hk,aI]
 ·simp only [h2,bQ,aS,aI]
theorem vJ {x:ah} {k:Int} (h:Bf x k=0):(x.Coefs.length:Int)=k∧(∀ c,c∈x.Coefs → -8≤c∧c≤8) ∧ -64≤x.Const∧x.Const≤64:=by
 unfold Bf at h;split at h
 ·rename_i h1
  split at h
  ·cases h
  ·rename_i h2
   split at h
   ·rename_i h3
    refine ⟨h1,?_,by simpa [aB] using h3⟩;intro c hc;have:TR x.Coefs=false:=by simpa using h2
    have:=List.any_eq_false.1 this c hc;simp only [Bool.not_eq_true',Bool.not_eq_false] at this;simpa [aB] using this
   ·cases h
 ·cases h
def vl (x:ah) (pt:List Int):Int:=(x.Coefs.zip pt).foldl (fun b t=>w (b+w (t.1 * t.2))) x.Const
theorem I5 {x:ah} {pt:List Int} (h:x.Coefs.length≤pt.length) (hp:pt.length < 16777216):iH x pt=some (vl x pt):=by
 unfold iH vl;have hz:(x.Coefs.zip pt).length=x.Coefs.length:=by simp;omega
 rw [rQ (step:=iH.s1 x pt) (x.Coefs.zip pt) (fun i (b:Int)=>(b,i)) (fun b=>b) (fun b t=>w (b+w (t.1 * t.2))) (fun _ _=>True) (a:=x.Const) rfl ?_ ?_ trivial (by omega)]
 ·rfl
 ·intro i hi b _;refine ⟨?_,trivial⟩;rw [hz] at hi;have h2:i < pt.length:=by omega
  simp only [iH.s1,jY hi,aS,jc hi,jc h2,ag,List.getElem_zip];rw [wn (by omega)]
 ·intro b _;rw [hz];simp only [iH.s1,eP,aI]
theorem yD {x:ah} {pt:List Int} (h:x.Coefs.length≤pt.length) (hp:pt.length < 16777216):ja x pt=some (vl x pt):=by
 unfold ja vl;have hz:(x.Coefs.zip pt).length=x.Coefs.length:=by simp;omega
 rw [rQ (step:=ja.s1 x pt) (x.Coefs.zip pt) (fun i (b:Int)=>(b,i)) (fun b=>b) (fun b t=>w (b+w (t.1 * t.2))) (fun _ _=>True) (a:=x.Const) rfl ?_ ?_ trivial (by omega)]
 ·rfl
 ·intro i hi b _;refine ⟨?_,trivial⟩;rw [hz] at hi;have h2:i < pt.length:=by omega
  simp only [ja.s1,jY hi,aS,jc hi,jc h2,ag,List.getElem_zip];rw [wn (by omega)]
 ·intro b _;rw [hz];simp only [ja.s1,eP,aI]
theorem Rq {x:ah} {k:Int} (h:Bf x k=0) {pt:List Int} {M:Int} (hM:0≤M) (hM2:M≤1000000000) (hp:∀ z,z∈pt → -M≤z∧z≤M) (hl:pt.length≤100) : -(64+8 * M * pt.length)≤vl x pt∧vl x pt≤64+8 * M * pt.length:=by
 obtain ⟨_,hc,h1,h2⟩:=vJ h;have key:∀ (cs pt:List Int) (b:Int),(∀ c,c∈cs → -8≤c∧c≤8)→(∀ z,z∈pt → -M≤z∧z≤M) → -1000000000000≤b - 8 * M * pt.length→b+8 * M * pt.length≤1000000000000 →
   b - 8 * M * pt.length≤(cs.zip pt).foldl (fun b t=>w (b+w (t.1 * t.2))) b∧(cs.zip pt).foldl (fun b t=>w (b+w (t.1 * t.2))) b≤b+8 * M * pt.length:=by
  intro cs
  induction cs with
  | nil =>
   intro pt b _ _ h1 h2;have:0≤8 * M * (pt.length:Int):=Int.mul_nonneg (by omega) (by omega);simp;omega
  | cons c cs ih =>
   intro pt b hc hp h1 h2;cases pt with
   | nil=>simp
   | cons z pt =>
    have hcc:=hc c (.head _);have hz:=hp z (.head _);rw [lm,Int.natCast_add,Int.mul_add] at h1 h2 ⊢;simp only [Int.natCast_one,Int.mul_one] at h1 h2 ⊢;have hn:0≤8 * M * (pt.length:Int):=Int.mul_nonneg (by omega) (by omega);have e1:c * z≤8 * M ∧ -(8 * M)≤c * z:=by
     have p1:0≤(8 - c) * (M - z):=Int.mul_nonneg (by omega) (by omega);have p2:0≤(8+c) * (M+z):=Int.mul_nonneg (by omega) (by omega);have p3:0≤(8 - c) * (M+z):=Int.mul_nonneg (by omega) (by omega);have p4:0≤(8+c) * (M - z):=Int.mul_nonneg (by omega) (by omega);simp only [Int.sub_mul,Int.add_mul,Int.mul_sub,Int.mul_add] at p1 p2 p3 p4;omega
    have hs:w (b+w ((c,z).fst * (c,z).snd))=b+c * z:=by
     show w (b+w (c * z))=b+c * z
     rw [yT (n:=c * z) (by omega) (by omega),yT (by omega) (by omega)]
    rw [List.zip_cons_cons,lZ,hs];have:=ih pt (b+c * z) (fun y hy=>hc y (.tail _ hy)) (fun y hy=>hp y (.tail _ hy)) (by omega) (by omega);omega
 have hb:8 * M * (pt.length:Int)≤8 * M * 100:=Int.mul_le_mul_of_nonneg_left (by omega) (by omega);have hn:0≤8 * M * (pt.length:Int):=Int.mul_nonneg (by omega) (by omega);have:=key x.Coefs pt x.Const hc hp (by omega) (by omega);unfold vl;omega
end Go.Sh
namespace Go.Sh
open Go.Lx
set_option linter.unusedVariables false
set_option linter.unusedSimpArgs false
def lo (x:ah) (l:List aV):Int:=(x.Coefs.zip l).foldl (fun b t=>w (b+mn (w (t.1 * t.2.Low)) (w (t.1 * t.2.High)))) x.Const
def hi (x:ah) (l:List aV):Int:=(x.Coefs.zip l).foldl (fun b t=>w (b+mx (w (t.1 * t.2.Low)) (w (t.1 * t.2.High)))) x.Const
theorem QS {x:ah} {l:List aV} (h:x.Coefs.length≤l.length) (hp:l.length < 16777216):jW x l=some (lo x l):=by
 unfold jW lo;have hz:(x.Coefs.zip l).length=x.Coefs.length:=by simp;omega
 rw [rQ (step:=jW.s1 x l) (x.Coefs.zip l) (fun i (b:Int)=>(b,i)) (fun b=>b) (fun b t=>w (b+mn (w (t.1 * t.2.Low)) (w (t.1 * t.2.High)))) (fun _ _=>True) (a:=x.Const) rfl ?_ ?_ trivial (by omega)]
 ·rfl
 ·intro i hi b _;refine ⟨?_,trivial⟩;rw [hz] at hi;have h2:i < l.length:=by omega
  simp only [jW.s1,jY hi,aS,jc hi,jc h2,ag,List.getElem_zip];rw [wn (by omega)]
 ·intro b _;rw [hz];simp only [jW.s1,eP,aI]
theorem Lu {x:ah} {l:List aV} (h:x.Coefs.length≤l.length) (hp:l.length < 16777216):iY x l=some (hi x l):=by
 unfold iY hi;have hz:(x.Coefs.zip l).length=x.Coefs.length:=by simp;omega
 rw [rQ (step:=iY.s1 x l) (x.Coefs.zip l) (fun i (b:Int)=>(b,i)) (fun b=>b) (fun b t=>w (b+mx (w (t.1 * t.2.Low)) (w (t.1 * t.2.High)))) (fun _ _=>True) (a:=x.Const) rfl ?_ ?_ trivial (by omega)]
 ·rfl
 ·intro i hi b _;refine ⟨?_,trivial⟩;rw [hz] at hi;have h2:i < l.length:=by omega
  simp only [iY.s1,jY hi,aS,jc hi,jc h2,ag,List.getElem_zip];rw [wn (by omega)]
 ·intro b _;rw [hz];simp only [iY.s1,eP,aI]
theorem GH {x:ah} {l:List aV} (h:x.Coefs.length≤l.length) (hp:l.length < 16777216):je x l=some ⟨lo x l,hi x l⟩:=by
 unfold je;have hz:(x.Coefs.zip l).length=x.Coefs.length:=by simp;omega
 rw [rQ (step:=je.s1 x l) (x.Coefs.zip l) (fun i (b:Int×Int)=>(i,b.1,b.2)) (fun b=>(b.1,b.2)) (fun b t=>(w (b.1+mn (w (t.1 * t.2.Low)) (w (t.1 * t.2.High))),w (b.2+mx (w (t.1 * t.2.Low)) (w (t.1 * t.2.High))))) (fun _ _=>True) (a:=(x.Const,x.Const)) rfl ?_ ?_ trivial (by omega)]
 ·have key:∀ (T:List (Int×aV)) (a b:Int),T.foldl (fun (b:Int×Int) t=>(w (b.1+mn (w (t.1 * t.2.Low)) (w (t.1 * t.2.High))),w (b.2+mx (w (t.1 * t.2.Low)) (w (t.1 * t.2.High))))) (a,b) =
    (T.foldl (fun b t=>w (b+mn (w (t.1 * t.2.Low)) (w (t.1 * t.2.High)))) a,T.foldl (fun b t=>w (b+mx (w (t.1 * t.2.Low)) (w (t.1 * t.2.High)))) b):=by
   intro T
   induction T with
   | nil=>intros;rfl
   | cons t T ih=>intro a b;simp only [lZ];exact ih _ _
  rw [key];rfl
 ·intro i hi b _;refine ⟨?_,trivial⟩;rw [hz] at hi;have h2:i < l.length:=by omega
  simp only [je.s1,jY hi,aS,jc hi,jc h2,ag,List.getElem_zip];rw [wn (by omega)]
 ·intro b _;rw [hz];simp only [je.s1,eP,aI]
def hls (p:List au):List aV:=p.foldl (fun out l=>out++[⟨lo l.Low out,hi l.High out⟩]) []
structure VN (p:List au):Prop where
 len:p.length≤3
 f:∀ k (h:k < p.length),Bf p[k].Low k=0∧Bf p[k].High k=0
theorem VN.lens {p:List au} (h:VN p) {k:Nat} (hk:k < p.length):p[k].Low.Coefs.length=k∧p[k].High.Coefs.length=k:=by
 obtain ⟨h1,h2⟩:=h.f k hk;have:=(vJ h1).1;have:=(vJ h2).1;omega
theorem MS {p:List au} (h:VN p):jO p=some (hls p):=by
 have hl:=h.len;unfold jO hls;rw [rQ (step:=jO.s1 p) p (fun i (b:List aV)=>(i,b)) (fun b=>b) (fun out l=>out++[⟨lo l.Low out,hi l.High out⟩]) (fun i b=>b.length=i) (a:=[]) rfl ?_ ?_ rfl (by omega)]
 ·rfl
 ·intro i hi' b hb;obtain ⟨h1,h2⟩:=h.lens hi';refine ⟨?_,by simp [hb]⟩;simp only [jO.s1,jY hi',aS,jc hi',ag];change (jW p[i].Low b).bind _=_;rw [QS (by omega) (by omega)];simp only [ag];change (iY p[i].High b).bind _=_;rw [Lu (by omega) (by omega)];simp only [ag];rw [vw (by omega),wn (by omega)];rfl
 ·intro b _;simp only [jO.s1,eP,aI]
theorem FW {p:List au} (h:VN p):lh p=some (hls p):=by
 have hl:=h.len;unfold lh hls;rw [rQ (step:=lh.s1 p) p (fun i (b:List aV)=>(i,b)) (fun b=>b) (fun out l=>out++[⟨lo l.Low out,hi l.High out⟩]) (fun i b=>b.length=i) (a:=[]) rfl ?_ ?_ rfl (by omega)]
 ·rfl
 ·intro i hi' b hb;obtain ⟨h1,h2⟩:=h.lens hi';refine ⟨?_,by simp [hb]⟩;simp only [lh.s1,jY hi',aS,jc hi',ag];change (je p[i].Low b).bind _=_;rw [GH (by omega) (by omega)];simp only [ag];change (je p[i].High b).bind _=_;rw [GH (by omega) (by omega)];simp only [ag];rw [vw (by omega),wn (by omega)];rfl
 ·intro b _;simp only [lh.s1,eP,aI]
theorem LC (p:List au):(hls p).length=p.length:=by
 have:∀ (p:List au) (b:List aV),(p.foldl (fun out l=>out++[⟨lo l.Low out,hi l.High out⟩]) b).length=b.length+p.length:=by
  intro p
  induction p with
  | nil=>intro b;simp
  | cons l p ih=>intro b;rw [lZ,ih];simp;omega
 simpa [hls] using this p []
def ups (a b:Int):List Int:=(List.range (b - a+1).toNat).map fun i:Nat=>a+i
def pts:List au→List Int→List (List Int)
 | [],pt=>[pt]
 | l::ls,pt=>(ups (vl l.Low pt) (vl l.High pt)).flatMap fun x=>pts ls (pt++[x])
theorem IQ {β ρ τ:Type} {step:Int×β→Option (Sum (Int×β) τ)} (a b:Int) (f:β→Int→Sum ρ β) (brk:ρ→τ) (fin:β→τ) (Inv:Nat→β→Prop) {z:β} (ha : -100000000≤a∧a≤100000000) (hb:b≤100000000)
  (h:∀ (i:Nat) (x:Int) c,(hi:i < (ups a b).length)→(ups a b)[i]=x→a≤x→x≤b→Inv i c→step (x,c)=some (match f c x with | .inl r => .inr (brk r) | .inr c' => .inl (x+1,c'))∧(∀ c',f c x = .inr c'→Inv (i+1) c'))
  (hend:∀ x c,¬ x≤b → -100000000≤x→x≤100000001→Inv (ups a b).length c→step (x,c)=some (.inr (fin c))) (hI:Inv 0 z) :
  gB step (a,z)=some (match lN (fun _=>f) 0 (ups a b) z with | .inl r=>brk r | .inr c=>fin c):=by
 have hl:(ups a b).length=(b - a+1).toNat:=by simp [ups]
 refine ng (step:=step) (ups a b) (fun i c=>(a+i,c)) brk fin (fun _=>f) Inv (by simp) ?_ ?_ hI (by omega)
 ·intro i hi c hc;have e:(ups a b)[i]=a+i:=by simp [ups]
  have hi':i < (b - a+1).toNat:=by omega
  obtain ⟨h1,h2⟩:=h i (a+i) c hi e (by omega) (by omega) hc;rw [e];refine ⟨?_,h2⟩;rw [h1];cases f c (a+i) with
  | inl r=>rfl
  | inr c' =>
   have:a+(i:Int)+1=a+((i+1:Nat):Int):=by omega
   simp only [this]
 ·intro c hc;exact hend _ _ (by omega) (by omega) (by omega) hc
def M (k:Nat):Int:=64 * 25 ^ k
theorem Ua (k:Nat):0≤M k:=Int.mul_nonneg (by omega) (Int.pow_nonneg (by omega))
def Pt (pt:List Int):Prop:=∀ z,z∈pt → -(M pt.length)≤z∧z≤M pt.length
theorem M3 {k:Nat} (h:k≤3):M k≤1000000:=by
 match k,h with
 | 0,_=>decide
 | 1,_=>decide
 | 2,_=>decide
 | 3,_=>decide
theorem TV {x:ah} {pt:List Int} (h:Bf x pt.length=0) (hp:Pt pt) (hk:pt.length≤2) : -(M (pt.length+1))≤vl x pt∧vl x pt≤M (pt.length+1):=by
 have h1:=Rq h (Ua pt.length) (by have:=M3 (k:=pt.length) (by omega);omega) hp (by omega);have:64+8 * M pt.length * (pt.length:Int)≤M (pt.length+1):=by
  generalize pt.length=k at hk
  match k,hk with
  | 0,_=>decide
  | 1,_=>decide
  | 2,_=>decide
 omega
theorem Pt.snoc {pt:List Int} (hp:Pt pt) {x:Int} (h1 : -(M (pt.length+1))≤x) (h2:x≤M (pt.length+1)):Pt (pt++[x]):=by
 intro z hz;rw [kZ,List.length_singleton];rcases aU.1 hz with hz | hz
 ·have:=hp z hz;have e:M (pt.length+1)=25 * M pt.length:=by unfold M;rw [Int.pow_succ];omega
  have:=Ua pt.length;omega
 ·simp at hz;subst hz;exact ⟨h1,h2⟩
theorem SS {p:List Int}:nR p=some p:=by
 unfold nR cut;rw [if_pos (by omega)];simp
section
variable {p:List au}
theorem H5 (g:Int→Nat):∀ (xs:List Int) (i:Nat) (c:Int),c≤200→lN (ρ:=Unit) (fun _ c x=>if c+(g x:Int) > 200 then .inl () else .inr (c+(g x:Int))) i xs c=if c+((xs.map g).sum:Nat) > 200 then .inl () else .inr (c+((xs.map g).sum:Nat))
 | [],i,c,h=>by simp [lN];omega
 | x::xs,i,c,h=>by
  simp only [lN,iL,List.sum_cons];by_cases h1:c+(g x:Int) > 200
  ·simp only [h1,aS];rw [if_pos (by omega)]
  ·simp only [h1,aI];rw [H5 g xs (i+1) _ (by omega)];have e:c+(g x:Int)+((xs.map g).sum:Nat)=c+((g x+(xs.map g).sum:Nat):Int):=by omega
   rw [e]
theorem QT {α:Type} (g:Int→List α) (xs:List Int):(xs.flatMap g).length=(xs.map fun x=>(g x).length).sum:=by
 rw [List.length_flatMap]
theorem H7 (h:VN p):∀ (r:Nat) (n:Nat) (pt:List Int) (c:Int),pt.length+r=p.length→r < n→Pt pt→0≤c→c≤200 →
  aJ.N n p pt c=some (if c+((pts (p.drop pt.length) pt).length:Int) > 200 then (true,201) else (false,c+((pts (p.drop pt.length) pt).length:Int)))
 | r,0,pt,c,_,hn,_,_,_=>by omega
 | 0,n+1,pt,c,hr,_,hp,h0,h1=>by
  show aJ.F _ p pt c=_
  unfold aJ.F;rw [if_pos (by omega),List.drop_of_length_le (by omega)];have e:w (c+1)=c+1:=yT (by omega) (by omega);simp only [jM,e,pts,List.length_singleton];by_cases h2:c+1 > 200
  ·have:c=200:=by omega
   subst this;rfl
  ·have:¬ c+((1:Nat):Int) > 200:=by omega
   simp only [h2,this,decide_false,aI];rfl
 | r+1,n+1,pt,c,hr,hn,hp,h0,h1=>by
  have hk:pt.length < p.length:=by omega
  have hl:=h.len;obtain ⟨l1,l2⟩:=h.lens hk;obtain ⟨f1,f2⟩:=h.f _ hk;obtain ⟨a1,a2⟩:=TV f1 hp (by omega);obtain ⟨b1,b2⟩:=TV f2 hp (by omega);have m3:=M3 (k:=pt.length+1) (by omega);have ep:(pts (p.drop pt.length) pt).length=((ups (vl p[pt.length].Low pt) (vl p[pt.length].High pt)).map fun x=>(pts (p.drop (pt.length+1)) (pt++[x])).length).sum:=by
   rw [List.drop_eq_getElem_cons hk];simp only [pts];rw [QT]
  rw [ep]
  show aJ.F _ p pt c=_
  unfold aJ.F;rw [if_neg (by omega),jc hk];simp only [ag];change (iH p[pt.length].Low pt).bind _=_;rw [I5 (by omega) (by omega)];simp only [ag];rw [IQ (ρ:=Unit) (step:=aJ.s1 p pt (aJ.N n)) (vl p[pt.length].Low pt) (vl p[pt.length].High pt)
   (fun c x=>if c+(((fun x=>(pts (p.drop (pt.length+1)) (pt++[x])).length) x:Nat):Int) > 200 then .inl () else .inr (c+(((fun x=>(pts (p.drop (pt.length+1)) (pt++[x])).length) x:Nat):Int)))
   (fun _ => .inr (true,201)) (fun c => .inl c) (fun _ c=>0≤c∧c≤200) (by omega) (by omega) ?_ ?_ ⟨h0,h1⟩]
  ·rw [H5 _ _ _ _ h1];by_cases h2:c+((((ups (vl p[pt.length].Low pt) (vl p[pt.length].High pt)).map fun x=>(pts (p.drop (pt.length+1)) (pt++[x])).length).sum:Nat):Int) > 200
   ·simp only [h2,aS,ag]
   ·simp only [h2,aI,ag]
  ·intro i x c' hi he hx1 hx2 hc;have ih:=H7 h r n (pt++[x]) c' (by simp;omega) (by omega) (hp.snoc (by omega) (by omega)) hc.1 hc.2;rw [kZ,List.length_singleton] at ih;constructor
   ·simp only [aJ.s1];rw [jc hk];simp only [ag];change (iH p[pt.length].High pt).bind _=_;rw [I5 (by omega) (by omega)];simp only [ag,hx2,aS,SS];rw [vw (by omega)];simp only [ag];rw [ih];by_cases h2:c'+((pts (p.drop (pt.length+1)) (pt++[x])).length:Int) > 200
    ·simp only [h2,aS,ag]
    ·simp only [h2,aI,ag,aN];rw [yT (by omega) (by omega)]
   ·intro c'' hc'';split at hc''
    ·cases hc''
    ·cases hc'';omega
  ·intro x c' hx h2 h3 _;simp only [aJ.s1];rw [jc hk];simp only [ag];change (iH p[pt.length].High pt).bind _=_;rw [I5 (by omega) (by omega)];simp only [ag,hx,aI]
theorem TZ:(5:Nat)≤FUEL:=by unfold FUEL;omega
theorem Nh:Pt []:=by intro z hz;cases hz
theorem count_eq (h:VN p):aJ p [] 0=some (if ((pts p []).length:Int) > 200 then (true,201) else (false,((pts p []).length:Int))):=by
 have hl:=h.len;have:=H7 h p.length FUEL [] 0 (by simp) (by have:=TZ;omega) Nh (by omega) (by omega)
 show aJ.N FUEL p [] 0=_
 simpa using this
theorem IY {α:Type} (g:Int→List α):∀ (xs:List Int) (i:Nat) (c:List α),(match lN (ρ:=List α) (fun _ c x=>if c.length≤200 then .inr ((c++g x).take 201) else .inl c) i xs c with | .inl r=>r | .inr c=>c)=if c.length≤200 then (c++xs.flatMap g).take 201 else c
 | [],i,c=>by
  simp only [lN,List.flatMap_nil,lY];split
  ·rw [dS (by omega)]
  ·rfl
 | x::xs,i,c=>by
  simp only [lN];by_cases h1:c.length≤200
  ·simp only [h1,aS];rw [IY g xs (i+1)];simp only [List.flatMap_cons,← List.append_assoc];by_cases h2:(c++g x).length≤200
   ·rw [dS (by omega),if_pos h2]
   ·have h3:¬ ((c++g x).take 201).length≤200:=by rw [jK];omega
    rw [if_neg h3];exact (List.take_append_of_le_length (l₁:=c++g x) (by omega)).symm
  ·simp only [h1,aI]
theorem PN (h:VN p):∀ (r:Nat) (n:Nat) (pt:List Int) (b:List (List Int)),pt.length+r=p.length→r < n→Pt pt→b.length≤200 →
  di.N n p pt b=some ((b++pts (p.drop pt.length) pt).take 201)
 | r,0,pt,c,_,hn,_,_=>by omega
 | 0,n+1,pt,b,hr,_,hp,hb=>by
  have hl:=h.len;rw [List.drop_of_length_le (by omega)]
  show di.F _ p pt b=_
  unfold di.F;simp only [pts];rw [if_pos (by omega),vz (by omega)];simp only [ag];rw [vw (by omega),dS (by simp;omega)];rfl
 | r+1,n+1,pt,b,hr,hn,hp,hb=>by
  have hk:pt.length < p.length:=by omega
  have hl:=h.len;obtain ⟨l1,l2⟩:=h.lens hk;obtain ⟨f1,f2⟩:=h.f _ hk;obtain ⟨a1,a2⟩:=TV f1 hp (by omega);obtain ⟨b1,b2⟩:=TV f2 hp (by omega);have m3:=M3 (k:=pt.length+1) (by omega);rw [List.drop_eq_getElem_cons hk];simp only [pts]
  show di.F _ p pt b=_
  unfold di.F;rw [if_neg (by omega),jc hk];simp only [ag];change (ja p[pt.length].High pt).bind _=_;rw [yD (by omega) (by omega)];simp only [ag];change (ja p[pt.length].Low pt).bind _=_;rw [yD (by omega) (by omega)];simp only [ag];rw [IQ (ρ:=List (List Int)) (step:=di.s1 p pt (di.N n) (vl p[pt.length].High pt)) (vl p[pt.length].Low pt) (vl p[pt.length].High pt)
   (fun c x=>if c.length≤200 then .inr ((c++(fun x=>pts (p.drop (pt.length+1)) (pt++[x])) x).take 201) else .inl c)
   (fun c=>c) (fun c=>c) (fun i c=>c.length≤201) (by omega) (by omega) ?_ ?_ (by omega)]
  ·have:=IY (fun x=>pts (p.drop (pt.length+1)) (pt++[x])) (ups (vl p[pt.length].Low pt) (vl p[pt.length].High pt)) 0 b;rw [if_pos hb] at this;simp only [ag];rw [← this];generalize lN _ _ _ _=q;cases q<;>rfl
  ·intro i x c' hi he hx1 hx2 hc;constructor
   ·simp only [di.s1];by_cases h2:c'.length≤200
    ·have ih:=PN h r n (pt++[x]) c' (by simp;omega) (by omega) (hp.snoc (by omega) (by omega)) h2;rw [kZ,List.length_singleton] at ih;have e:((decide (x≤vl p[pt.length].High pt))&&(decide ((c'.length:Int)≤200)))=true:=by
      simp only [bF,iq];omega
     rw [if_pos e,vz (by omega)];simp only [ag];rw [vw (by omega)];simp only [ag];rw [ih];simp only [ag,h2,aS];rw [yT (by omega) (by omega)]
    ·have e:((decide (x≤vl p[pt.length].High pt))&&(decide ((c'.length:Int)≤200)))=false:=by
      have:¬ (c'.length:Int)≤200:=by omega
      simp [this]
     simp only [e,h2,aI,aN]
   ·intro c'' hc'';split at hc''
    ·cases hc'';rw [jK];omega
    ·cases hc''
  ·intro x c' hx h2 h3 _;have e:((decide (x≤vl p[pt.length].High pt))&&(decide ((c'.length:Int)≤200)))=false:=by simp [hx]
   simp only [di.s1,e,aI,aN]
theorem JZ (h:VN p) (h0:0 < p.length):uu p=some ((pts p []).take 201):=by
 have hl:=h.len;unfold uu;have hk:([]:List Int).length < p.length:=by simpa using h0
 obtain ⟨l1,l2⟩:=h.lens h0;obtain ⟨f1,f2⟩:=h.f _ h0;obtain ⟨a1,a2⟩:=TV (pt:=[]) f1 Nh (by simp);obtain ⟨b1,b2⟩:=TV (pt:=[]) f2 Nh (by simp);have m3:=M3 (k:=1) (by omega);have e:kU p []=some ((pts p []).take 201):=by
  cases hp:p with
  | nil=>rw [hp] at h0;simp at h0
  | cons l ls =>
   have hpl:p[0]=l:=by simp [hp]
   rw [← hp];have ep:pts p []=(ups (vl p[0].Low []) (vl p[0].High [])).flatMap fun x=>pts (p.drop 1) [x]:=by
    simp only [hp,List.getElem_cons_zero,List.drop_succ_cons,List.drop_zero,pts,mf]
   rw [ep];unfold kU;rw [if_neg (by simp;omega)];have a0:at_ p (([]:List Int).length:Int)=some p[0]:=jc (i:=0) h0;rw [a0];simp only [ag];change (ja p[0].High []).bind _=_;rw [yD (by omega) (by simp)];simp only [ag];change (ja p[0].Low []).bind _=_;rw [yD (by omega) (by simp)];simp only [ag];simp only [List.length_nil,gW] at a1 a2 b1 b2;rw [IQ (ρ:=List (List Int)) (step:=kU.s1 p [] (vl p[0].High [])) (vl p[0].Low []) (vl p[0].High [])
    (fun c x=>if c.length≤200 then .inr ((c++(fun x=>pts (p.drop 1) [x]) x).take 201) else .inl c)
    (fun c=>c) (fun c=>c) (fun i c=>c.length≤201) (by omega) (by omega) ?_ ?_ (by simp)]
   ·have:=IY (fun x=>pts (p.drop 1) [x]) (ups (vl p[0].Low []) (vl p[0].High [])) 0 [];rw [if_pos (by simp),mf] at this;simp only [ag];rw [← this];generalize lN _ _ _ _=q;cases q<;>rfl
   ·intro i x c' hi he hx1 hx2 hc;constructor
    ·simp only [kU.s1];by_cases h2:c'.length≤200
     ·have ih:=PN h (p.length - 1) FUEL [x] c' (by simp;omega) (by have:=TZ;omega) (by
       have:=Nh.snoc (x:=x) (by simp only [List.length_nil,gW];omega) (by simp only [List.length_nil,gW];omega);simpa using this) h2
      have ih':di p [x] c'=some ((c'++pts (p.drop 1) [x]).take 201):=by
       show di.N FUEL p [x] c'=_
       simpa using ih
      have e:((decide (x≤vl p[0].High []))&&(decide ((c'.length:Int)≤200)))=true:=by
       simp only [bF,iq];omega
      rw [if_pos e,vz (by simp)];simp only [ag];rw [vw (by simp)];simp only [ag,mf];rw [ih'];simp only [ag,h2,aS];rw [yT (by omega) (by omega)]
     ·have e:((decide (x≤vl p[0].High []))&&(decide ((c'.length:Int)≤200)))=false:=by
       have:¬ (c'.length:Int)≤200:=by omega
       simp [this]
      simp only [e,h2,aI,aN]
    ·intro c'' hc'';split at hc''
     ·cases hc'';rw [jK];omega
     ·cases hc''
   ·intro x c' hx h2 h3 _;have e:((decide (x≤vl p[0].High []))&&(decide ((c'.length:Int)≤200)))=false:=by simp [hx]
    simp only [kU.s1,e,aI,aN]
 rw [e];rfl
end
end Go.Sh
namespace Go.Sh
open Go.Lx
set_option linter.unusedVariables false
set_option linter.unusedSimpArgs false
def H6 (x:ah):Option Bool:=if fK x=true then none else some false
def J7 (a:ai):Option Bool:=if (a.Subscripts.length:Int) > 9 then some false else a.Subscripts.findSome? H6
structure Few (p:List au) (l:List ai):Prop where
 n:p.length≤5
 m:l.length≤10
 f:∀ x,x∈p→x.Low.Coefs.length≤10∧x.High.Coefs.length≤10
 a:∀ x,x∈l→x.Subscripts.length≤9∧∀ y,y∈x.Subscripts→y.Coefs.length≤10
theorem IZ {x:ah} (h:fK x=true):x.Coefs.length≤10:=by
 have:(x.Coefs.length:Int)≤10:=of_decide_eq_true h;omega
theorem QF (p:List au) (l:List ai):∃ r,jk p l=some r∧(r=true→Few p l):=by
 unfold jk;by_cases h0:((decide ((p.length:Int) > 5)) || (decide ((l.length:Int) > 10)))=true
 ·exact ⟨false,by rw [if_pos h0],fun h=>by cases h⟩
 rw [if_neg h0];simp only [jl,iq,not_or] at h0;rw [qL (step:=jk.s1 p) p (fun x=>if (fK x.Low&&fK x.High)=true then none else some false) (fun r => .inr r) (.inl ()) rfl ?_ ?_ (by omega)]
 ·cases h1:p.findSome? (fun x=>if (fK x.Low&&fK x.High)=true then none else some false) with
  | some r =>
   refine ⟨r,rfl,fun hr=>?_⟩;obtain ⟨x,_,hx⟩:=jh h1;split at hx
   ·cases hx
   ·cases hx;cases hr
  | none =>
   simp only [ag];rw [qL (step:=jk.s2 l) l J7 (fun r => .inr r) (.inl ()) rfl ?_ ?_ (by omega)]
   ·cases h2:l.findSome? J7 with
    | some r =>
     refine ⟨r,rfl,fun hr=>?_⟩;subst hr;obtain ⟨a,_,ha⟩:=jh h2;unfold J7 at ha;split at ha
     ·cases ha
     ·obtain ⟨x,_,hx⟩:=jh ha;unfold H6 at hx;split at hx<;>cases hx
    | none =>
     refine ⟨true,rfl,fun _=>⟨by omega,by omega,fun x hx=>?_,fun x hx=>?_⟩⟩
     ·have:=List.findSome?_eq_none_iff.1 h1 x hx;split at this
      ·rename_i hh
       simp only [bF] at hh;exact ⟨IZ hh.1,IZ hh.2⟩
      ·cases this
     ·have:=List.findSome?_eq_none_iff.1 h2 x hx;unfold J7 at this;split at this
      ·cases this
      ·refine ⟨by omega,fun y hy=>?_⟩;have:=List.findSome?_eq_none_iff.1 this y hy;unfold H6 at this;split at this
       ·exact IZ (by assumption)
       ·cases this
   ·intro i hi;simp only [jk.s2,jY hi,aS,jc hi,ag,J7];by_cases h9:(l[i].Subscripts.length:Int) > 9
    ·simp only [h9,aS]
    ·simp only [h9,aI];rw [qL (step:=jk.s3 l i) l[i].Subscripts H6 (fun r => .inr r) (.inl ()) rfl ?_ ?_ (by omega)]
     ·cases l[i].Subscripts.findSome? H6 with
      | some r=>rfl
      | none=>simp only [ag];rw [wn (by omega)]
     ·intro k hk;simp only [jk.s3,jc hi,ag,jY hk,aS,jc hk,H6];by_cases hs:fK l[i].Subscripts[k]=true
      ·simp only [hs,iT,aI,aS];rw [wn (by omega)]
      ·simp only [hs,bQ,aS,aI,aN]
     ·simp only [jk.s3,jc hi,ag,eP,aI]
   ·simp only [jk.s2,eP,aI]
 ·intro i hi;simp only [jk.s1,jY hi,aS,jc hi,ag];by_cases hs:fK p[i].Low=true
  ·by_cases ht:fK p[i].High=true
   ·simp only [hs,ht,iT,aI,aS,Bool.and_self];rw [wn (by omega)]
   ·simp only [hs,ht,iT,aI,aS,bQ,Bool.and_false,aN]
  ·simp only [hs,bQ,aS,aI,Bool.false_and,aN]
 ·simp only [jk.s1,eP,aI]
theorem AA {x:ah} (h:x.Coefs.length≤16777216):kL x=some x:=by
 unfold kL;rw [vz h];rfl
theorem KX {p:List au} (hn:p.length < 16777216) (h:∀ x,x∈p→x.Low.Coefs.length≤16777216∧x.High.Coefs.length≤16777216):jq p=some p:=by
 unfold jq;rw [IP (step:=jq.s1 p) p id (fun i b=>(i,b)) (fun b=>b) rfl ?_ ?_ (by omega)]
 ·simp
 ·intro i hi b hb;obtain ⟨h1,h2⟩:=h _ (dM hi);simp only [jq.s1,jY hi,aS,jc hi,ag];change (kL p[i].Low).bind _=_;rw [AA h1];simp only [ag];change (kL p[i].High).bind _=_;rw [AA h2];simp only [ag];rw [vw (by omega),wn (by omega)];rfl
 ·intro b;simp only [jq.s1,eP,aI]
def JI (l:au) (k:Int):Int:=if Bf l.Low k=0 then Bf l.High k else Bf l.Low k
def fbF (i:Nat) (b:Unit) (l:au):Sum (Int×Int) Unit:=if JI l i=0 then .inr b else .inl ((i:Int),JI l i)
def fbL (p:List au):Sum (Int×Int) Unit:=lN fbF 0 p ()
theorem PU:∀ (p:List au) (i:Nat),lN fbF i p () = .inr ()→∀ k (h:k < p.length),JI p[k] ((i+k:Nat):Int)=0
 | [],i,_,k,h=>by simp at h
 | l::p,i,h,k,hk=>by
  simp only [lN,fbF] at h;by_cases e:JI l i=0
  ·simp only [e,aS] at h;cases k with
   | zero=>exact e
   | succ k =>
    have:=PU p (i+1) h k (by simpa using hk);rw [show i+1+k=i+(k+1) by omega] at this;exact this
  ·simp only [e,aI] at h;cases h
theorem QE:∀ (p:List au) (i:Nat) (r:Int×Int),lN fbF i p () = .inl r→r.2≠0
 | [],i,r,h=>by cases h
 | l::p,i,r,h=>by
  simp only [lN,fbF] at h;by_cases e:JI l i=0
  ·simp only [e,aS] at h;exact QE p (i+1) r h
  ·simp only [e,aI] at h;cases h;exact e
theorem Td {p:List au} (h:fbL p = .inr ()) (hl:p.length≤3):VN p:=by
 refine ⟨hl,fun k hk=>?_⟩;have:=PU p 0 h k hk;rw [gW] at this;unfold JI at this;split at this
 ·exact ⟨by assumption,this⟩
 ·rename_i h1;exact absurd this h1
def Nv (h:aV):Bool:=(!(aB h.Low (-1000) 1000)) || (!(aB h.High (-1000) 1000))
def cnR (p:List au):Int×Int :=
 if (p.length:Int)=0 then (0,17) else if (p.length:Int) > 3 then (0,8) else match fbL p with
 | .inl r=>r
 | .inr _=>if (hls p).any Nv=true then (0,8) else if ((pts p []).length:Int) > 200 then (0,8) else (0,0)
theorem Ls {p:List au} (hn:p.length < 16777216) (h:∀ x,x∈p→x.Low.Coefs.length < 16777216∧x.High.Coefs.length < 16777216):aY p=some (match fbL p with | .inl r=>r | .inr _=>(0,0)):=by
 unfold aY fbL;rw [ng (step:=aY.s1 p) p (fun i (_:Unit)=>i) (fun r => .inr r) (fun _ => .inl ()) fbF (fun _ _=>True) (a:=()) rfl ?_ ?_ trivial (by omega)]
 ·cases lN fbF 0 p ()<;>rfl
 ·intro i hi b _;refine ⟨?_,fun _ _=>trivial⟩;obtain ⟨h1,h2⟩:=h _ (dM hi);simp only [aY.s1,jY hi,aS,jc hi,ag,oD];change (((kK p[i].Low i).bind fun x1=>(kK p[i].High i).bind _).bind _)=_;rw [Dh h1,Dh h2];simp only [ag,OA];unfold fbF JI;by_cases e1:Bf p[i].Low i=0
  ·simp only [e1,aS];by_cases e2:Bf p[i].High i=0
   ·simp only [e2,iT,aI,aS];rw [wn (by omega)]
   ·simp only [e2,bQ,aS,aI]
  ·simp only [e1,bQ,aS,aI]
 ·intro b _;simp only [aY.s1,eP,aI]
theorem SK {p:List aV} (h:p.length < 16777216):dX p=some (p.any Nv):=by
 unfold dX bz;obtain ⟨k,hk⟩:=IM (step:=bz.s1 p) p Nv (fun i=>Sum.inr i) (Sum.inl ()) (s:=0) rfl (fun i hi=>by
  simp only [bz.s1,jY hi,aS,jc hi,ag,lU];by_cases e:Nv p[i]=true
  ·have e':=e;unfold Nv at e';simp only [e,e',aS]
  ·have e':=e;unfold Nv at e';simp only [e,e',aI,aN];rw [wn (by omega)]) (by simp only [bz.s1,eP,aI]) (by omega)
 rw [hk];by_cases e:p.any Nv=true
 ·simp only [e,aS,ag];have:(k:Int)≥0:=by omega
  simp [this]
 ·simp only [e,aI,ag,aN];simp at e ⊢
theorem Jn {p:List au} (hn:p.length < 16777216) (h:∀ x,x∈p→x.Low.Coefs.length < 16777216∧x.High.Coefs.length < 16777216):oN p=some (cnR p):=by
 unfold oN cnR;rw [Ip];simp only [ag];by_cases h0:(p.length:Int)=0
 ·have:¬ (p.length:Int) > 0:=by omega
  simp only [h0,this,decide_false,aS,aI,aN];rfl
 have h1:(p.length:Int) > 0:=by omega
 simp only [h0,h1,decide_true,aS,aI];by_cases h3:(p.length:Int) > 3
 ·have:¬ (p.length:Int)≤3:=by omega
  simp only [h3,this,decide_false,aS,aI,aN];rfl
 have h3':(p.length:Int)≤3:=by omega
 simp only [h3,h3',decide_true,aS,aI,iT];rw [Ls hn h];cases hf:fbL p with
 | inl r =>
  have:=QE p 0 r hf;simp only [ag,this,bQ,aS]
 | inr u =>
  have vn:=Td hf (by omega);simp only [ag,iT,aI];rw [MS vn];simp only [ag];rw [SK (by rw [LC];omega)];simp only [ag];by_cases hb:(hls p).any Nv=true
  ·simp only [hb,aS]
  simp only [hb,aI,aN];rw [count_eq vn];by_cases hc:((pts p []).length:Int) > 200
  ·simp only [hc,aS,ag];rw [Io];rfl
  ·simp only [hc,aI,ag];rw [Io];rfl
theorem FV {p:List au} (hn:p.length < 16777216) (h:∀ x,x∈p→x.Low.Coefs.length < 16777216∧x.High.Coefs.length < 16777216):fO p=some (cnR p):=by
 unfold fO cnR;by_cases h0:(p.length:Int)=0
 ·simp only [h0,aS]
 simp only [h0,aI];by_cases h3:(p.length:Int) > 3
 ·simp only [h3,aS]
 simp only [h3,aI];rw [ng (step:=fO.s1 p) p (fun i (_:Unit)=>i) (fun r => .inr r) (fun _ => .inl ()) fbF (fun _ _=>True) (a:=()) rfl ?_ ?_ trivial (by omega)]
 ·have hfb:lN fbF 0 p ()=fbL p:=rfl;rw [hfb];cases hf:fbL p with
  | inl r=>simp only [ag]
  | inr u =>
   have vn:=Td hf (by omega);simp only [ag];rw [FW vn];simp only [ag];have hlen:=LC p;rw [qL (step:=fO.s2 (hls p)) (hls p) (fun z=>if Nv z=true then some () else none) (fun _ => .inr (0,8)) (.inl ()) rfl ?_ ?_ (by omega),tX]
   ·by_cases hb:(hls p).any Nv=true
    ·simp only [hb,aS,ag]
    simp only [hb,aI,aN,ag];rw [JZ vn (by omega)];simp only [ag];by_cases hc:((pts p []).length:Int) > 200
    ·rw [if_pos hc,if_pos (by rw [jK];omega)]
    ·rw [if_neg hc,if_neg (by rw [jK];omega)]
   ·intro i hi;simp only [fO.s2,jY hi,aS,jc hi,ag,xH,Nv];by_cases e1:aB (hls p)[i].Low (-1000) 1000=true
    ·by_cases e2:aB (hls p)[i].High (-1000) 1000=true
     ·simp only [e1,e2,iT,aI,Bool.not_true,Bool.or_self,aN];rw [wn (by omega)]
     ·have e2':aB (hls p)[i].High (-1000) 1000=false:=by simpa using e2
      simp [e1,e2']
    ·have e1':aB (hls p)[i].Low (-1000) 1000=false:=by simpa using e1
     simp [e1']
   ·simp only [fO.s2,eP,aI]
 ·intro i hi b _;refine ⟨?_,fun _ _=>trivial⟩;obtain ⟨h1,h2⟩:=h _ (dM hi);simp only [fO.s1,jY hi,aS,jc hi,ag];change ((gU p[i].Low i).bind fun x6=>if ¬ x6=0 then _ else (gU p[i].High i).bind _)=_;rw [yX h1,yX h2];simp only [ag];unfold fbF JI;by_cases e1:Bf p[i].Low i=0
  ·simp only [e1,aS,iT,aI];by_cases e2:Bf p[i].High i=0
   ·simp only [e2,iT,aI,aS];rw [wn (by omega)]
   ·simp only [e2,bQ,aS,aI]
  ·simp only [e1,bQ,aS,aI]
 ·intro b _;simp only [fO.s1,eP,aI]
theorem Uj {p:List au} (h:(cnR p).2=0):VN p∧0 < p.length∧(pts p []).length≤200:=by
 unfold cnR at h;split at h
 ·cases h
 split at h
 ·cases h
 split at h
 ·rename_i r hf
  exact absurd h (QE p 0 r hf)
 ·rename_i u hf
  refine ⟨Td hf (by omega),by omega,?_⟩;split at h
  ·cases h
  split at h
  ·cases h
  ·omega
theorem PI:∀ (ls:List au) (pt x:List Int),x∈pts ls pt→x.length=pt.length+ls.length
 | [],pt,x,h=>by simp [pts] at h;subst h;simp
 | l::ls,pt,x,h=>by
  simp only [pts] at h;obtain ⟨z,_,hx⟩:=List.mem_flatMap.1 h;have:=PI ls _ x hx;rw [this];simp;omega
theorem NV {p:List au} (hn:p.length < 16777216) (h:∀ x,x∈p→x.Low.Coefs.length < 16777216∧x.High.Coefs.length < 16777216):oW p=some (cnR p).2:=by
 unfold oW;rw [Jn hn h];rfl
end Go.Sh
namespace Go.Sh
open Go.Lx
set_option linter.unusedVariables false
set_option linter.unusedSimpArgs false
theorem KW {p:List ai} (hn:p.length < 16777216) (h:∀ x,x∈p→x.Subscripts.length < 16777216∧∀ y,y∈x.Subscripts→y.Coefs.length≤16777216):gm p=some p:=by
 unfold gm;rw [IP (step:=gm.s1 p) p id (fun i b=>(i,b)) (fun b=>b) rfl ?_ ?_ (by omega)]
 ·simp
 ·intro i hi b hb;obtain ⟨h1,h2⟩:=h _ (dM hi);simp only [gm.s1,jY hi,aS,jc hi,ag];rw [IP (step:=gm.s2 p ((i:Int),b)) p[i].Subscripts id (fun i b=>(i,b)) (fun b=>b) rfl ?_ ?_ (by omega)]
  ·simp only [ag,List.map_id];rw [vw (by omega),wn (by omega)];rfl
  ·intro k hk c hc;simp only [gm.s2,jc hi,ag,jY hk,aS,jc hk];rw [AA (h2 _ (dM hk))];simp only [ag];rw [vw (by omega),wn (by omega)];rfl
  ·intro c;simp only [gm.s2,jc hi,ag,eP,aI]
 ·intro b;simp only [gm.s1,eP,aI]
def J8 (l:List ah) (k:Int):Int:=match l.findSome? (fun x=>if Bf x k=0 then none else some (Bf x k)) with | some c=>c | none=>0
def yI (a:ai) (k:Int):Int:=if aB a.Array 0 9=true then (if aB (a.Subscripts.length:Int) 1 7=true then J8 a.Subscripts k else 32) else 2
def sbF (k:Int) (i:Nat) (b:Unit) (x:ah):Sum (Int×Int) Unit:=if Bf x k=0 then .inr b else .inl ((i:Int),Bf x k)
theorem Sl (k:Int):∀ (l:List ah) (i:Nat),(match lN (sbF k) i l () with | .inl r=>r.2 | .inr _=>0)=J8 l k
 | [],i=>rfl
 | x::l,i=>by
  simp only [lN,sbF,J8,List.findSome?_cons];by_cases e:Bf x k=0
  ·simp only [e,aS];exact Sl k l (i+1)
  ·simp only [e,aI]
def baF (k:Int) (i:Nat) (b:Unit) (x:ai):Sum (Int×Int) Unit:=if yI x k=0 then .inr b else .inl ((i:Int),yI x k)
def cbR (p:List au) (l:List ai):Int×Int :=
 if ¬ (cnR p).2=0 then (0,(cnR p).2) else if (l.length:Int) > 8 then (0,8) else match lN (baF p.length) 0 l () with | .inl r=>r | .inr _=>(0,0)
structure Sm (p:List au) (l:List ai):Prop where
 n:p.length < 16777216
 m:l.length < 16777216
 f:∀ x,x∈p→x.Low.Coefs.length < 16777216∧x.High.Coefs.length < 16777216
 a:∀ x,x∈l→x.Subscripts.length < 16777216∧∀ y,y∈x.Subscripts→y.Coefs.length < 16777216
theorem Jc {a:ai} (h:a.Subscripts.length < 16777216∧∀ y,y∈a.Subscripts→y.Coefs.length < 16777216) (k:Int):oP a k=some (yI a k):=by
 obtain ⟨h1,h2⟩:=h;unfold oP yI;rw [Ip];simp only [ag];by_cases e1:aB a.Array 0 9=true
 ·by_cases e2:aB (a.Subscripts.length:Int) 1 7=true
  ·simp only [e1,e2,aS];unfold bn;rw [ng (step:=bn.s1 a.Subscripts k) a.Subscripts (fun i (_:Unit)=>i) (fun r => .inr r) (fun _ => .inl ()) (sbF k) (fun _ _=>True) (a:=()) rfl ?_ ?_ trivial (by omega)]
   ·rw [← Sl k a.Subscripts 0];cases lN (sbF k) 0 a.Subscripts ()<;>rfl
   ·intro i hi b _;refine ⟨?_,fun _ _=>trivial⟩;simp only [bn.s1,jY hi,aS,jc hi,ag,oG];rw [Dh (h2 _ (dM hi))];simp only [ag,sbF];by_cases e:Bf a.Subscripts[i] k=0
    ·simp only [e,iT,aI,aS];rw [wn (by omega)]
    ·simp only [e,bQ,aS,aI]
   ·intro b _;simp only [bn.s1,eP,aI]
  ·simp only [e1,e2,aS,aI,aN];rfl
 ·simp only [e1,aI,aN];rfl
theorem Jm {p:List au} {l:List ai} (S:Sm p l):oM p l=some (cbR p l):=by
 unfold oM cbR;rw [NV S.n S.f];simp only [ag];rw [Io];simp only [ag,OA];by_cases e1:(cnR p).2=0
 ·simp only [e1,aS,iT,aI];by_cases e2:(l.length:Int) > 8
  ·have:¬ (l.length:Int)≤8:=by omega
   simp only [e2,this,decide_false,aN,aI,aS];rfl
  ·have:(l.length:Int)≤8:=by omega
   simp only [e2,this,decide_true,aI,aS,iT];unfold bg;rw [ng (step:=bg.s1 l p) l (fun i (_:Unit)=>i) (fun r => .inr r) (fun _ => .inl ()) (baF p.length) (fun _ _=>True) (a:=()) rfl ?_ ?_ trivial (by omega)]
   ·cases lN (baF p.length) 0 l ()<;>rfl
   ·intro i hi b _;refine ⟨?_,fun _ _=>trivial⟩;simp only [bg.s1,jY hi,aS,jc hi,ag,oC];rw [Jc (S.a _ (dM hi))];simp only [ag,baF];by_cases e:yI l[i] p.length=0
    ·simp only [e,iT,aI,aS];rw [wn (by omega)]
    ·simp only [e,bQ,aS,aI]
   ·intro b _;simp only [bg.s1,eP,aI]
 ·simp only [e1,aI,bQ,aS]
theorem FU {p:List au} {l:List ai} (S:Sm p l):fM p l=some (cbR p l):=by
 unfold fM uY cbR;rw [FV S.n S.f];simp only [ag];by_cases e1:(cnR p).2=0
 ·simp only [e1,iT,aI];by_cases e2:(l.length:Int) > 8
  ·simp only [e2,aS]
  ·simp only [e2,aI];rw [ng (step:=fM.s1 p l) l (fun i (_:Unit)=>i) (fun r => .inr r) (fun _ => .inl ()) (baF p.length) (fun _ _=>True) (a:=()) rfl ?_ ?_ trivial (by omega)]
   ·cases lN (baF p.length) 0 l ()<;>rfl
   ·intro i hi b _;refine ⟨?_,fun _ _=>trivial⟩;obtain ⟨h1,h2⟩:=S.a _ (dM hi);simp only [fM.s1,jY hi,aS,jc hi,ag,xH,baF,yI];by_cases e3:aB l[i].Array 0 9=true
    ·simp only [e3,iT,aI,aS];by_cases e4:aB (l[i].Subscripts.length:Int) 1 7=true
     ·simp only [e4,iT,aI,aS];rw [qL (step:=fM.s2 p l i) l[i].Subscripts (fun x=>if Bf x p.length=0 then none else some (Bf x p.length)) (fun c => .inr ((i:Int),c)) (.inl ()) rfl ?_ ?_ (by omega)]
      ·unfold J8;cases hq:l[i].Subscripts.findSome? (fun x=>if Bf x p.length=0 then none else some (Bf x p.length)) with
       | none=>simp only [ag,aS];rw [wn (by omega)]
       | some c =>
        have hc:c≠0:=by
         obtain ⟨x,_,hx⟩:=jh hq;split at hx
         ·cases hx
         ·cases hx;assumption
        simp only [ag,hc,aI]
      ·intro k hk;simp only [fM.s2,jc hi,ag,jY hk,aS,jc hk];rw [yX (h2 _ (dM hk))];simp only [ag];by_cases e:Bf l[i].Subscripts[k] p.length=0
       ·simp only [e,iT,aI,aS];rw [wn (by omega)]
       ·simp only [e,bQ,aS,aI]
      ·simp only [fM.s2,jc hi,ag,eP,aI]
     ·simp only [e4,bQ,aS,aI,aN];rfl
    ·simp only [e3,bQ,aS,aI,aN];rfl
   ·intro b _;simp only [fM.s1,eP,aI]
 ·simp only [e1,bQ,aS]
theorem Nw {p:List au} {l:List ai} (S:Sm p l):rV p l=some (cbR p l).2:=by
 unfold rV;rw [FU S];rfl
theorem MC {a:ai} {k:Int} (h:yI a k=0):a.Subscripts.length≤7∧∀ y,y∈a.Subscripts→Bf y k=0:=by
 unfold yI at h;split at h
 ·split at h
  ·rename_i h1 h2
   have h3:(a.Subscripts.length:Int)≤7:=by
    simp only [aB,bF,iq] at h2;omega
   refine ⟨by omega,fun y hy=>?_⟩;unfold J8 at h;split at h
   ·rename_i c hq
    obtain ⟨x,_,hx⟩:=jh hq;split at hx
    ·cases hx
    ·rename_i hne;cases hx;exact absurd h hne
   ·rename_i hq
    have:=List.findSome?_eq_none_iff.1 hq y hy;split at this
    ·assumption
    ·cases this
  ·cases h
 ·cases h
theorem xu {z a b:Int}:aB z a b=true↔a≤z∧z≤b:=by
 unfold aB;simp only [bF,iq]
end Go.Sh
namespace Go.Sh
open Go.Lx
set_option linter.unusedVariables false
set_option linter.unusedSimpArgs false
set_option linter.deprecated false
section
variable {α:Type} (key:α→List Int)
variable {key}
end
end Go.Sh
namespace Go.Sh
open Go.Lx
set_option linter.unusedVariables false
set_option linter.unusedSimpArgs false
set_option linter.deprecated false
end Go.Sh
namespace Go.Sh
open Go.Lx
set_option linter.unusedVariables false
set_option linter.unusedSimpArgs false
set_option linter.deprecated false
section
variable {p:List au} {A B:ai} {x:bG}
structure Ctx (p:List au) (A B:ai) (P:List (List Int)):Prop where
 a:A.Subscripts.length≤7
 b:B.Subscripts.length≤7
 fa:∀ y,y∈A.Subscripts→y.Coefs.length=p.length
 fb:∀ y,y∈B.Subscripts→y.Coefs.length=p.length
 n:p.length≤3
 m:P.length≤200
 len:∀ q,q∈P→q.length=p.length
end
end Go.Sh
namespace Go.Sh
open Go.Lx
set_option linter.unusedVariables false
set_option linter.unusedSimpArgs false
set_option linter.deprecated false
section
variable {p:List au} {A B:ai} {x:bG}
end
theorem Om {α:Type} {xs ys:List α} (h:xs.length+ys.length≤16777216):app xs ys=some (xs++ys):=by unfold app;rw [if_pos h]
end Go.Sh
namespace Go.Sh
open Go.Lx
set_option linter.unusedVariables false
set_option linter.unusedSimpArgs false
set_option linter.deprecated false
theorem Uh (k:Int):∀ (l:List ai) (i:Nat) (r:Int×Int),lN (baF k) i l () = .inl r→r.2≠0
 | [],i,r,h=>by cases h
 | a::l,i,r,h=>by
  simp only [lN,baF] at h;by_cases e:yI a k=0
  ·simp only [e,aS] at h;exact Uh k l (i+1) r h
  ·simp only [e,aI] at h;cases h;exact e
theorem Ui (k:Int):∀ (l:List ai) (i:Nat),lN (baF k) i l () = .inr ()→∀ a,a∈l→yI a k=0
 | [],i,_,a,h=>by cases h
 | b::l,i,h,a,ha=>by
  simp only [lN,baF] at h;by_cases e:yI b k=0
  ·simp only [e,aS] at h;rcases iM.1 ha with rfl | ha
   ·exact e
   ·exact Ui k l (i+1) h a ha
  ·simp only [e,aI] at h;cases h
theorem RJ {p:List au} {l:List ai} (h:(cbR p l).2=0):(cnR p).2=0∧l.length≤8∧∀ a,a∈l→yI a p.length=0:=by
 unfold cbR at h;split at h
 ·rename_i h1;exact absurd h h1
 rename_i h1
 split at h
 ·cases h
 split at h
 ·rename_i r hr
  exact absurd h (Uh _ _ _ _ hr)
 ·rename_i u hr
  exact ⟨aH.1 h1,by omega,Ui _ _ _ hr⟩
def pe (p:List au) (l:List ai) (a b:Int):Int :=
 if (cbR p l).2=0 then (if (aB a 0 (w ((l.length:Int) - 1))&&aB b 0 (w ((l.length:Int) - 1)))=true then 0 else 6) else (cbR p l).2
theorem NY {p:List au} {l:List ai} (S:Sm p l) (a b:Int):nD p l a b=some (pe p l a b):=by
 unfold nD pe;rw [Jm S];simp only [ag];rw [Io];simp only [ag,OA]
theorem IX {p:List au} {l:List ai} (S:Sm p l) (a b:Int):rW p l a b=some (pe p l a b):=by
 unfold rW pe;rw [Nw S];simp only [ag,xH];by_cases e:(cbR p l).2=0
 ·simp only [e,iT,aI,aS];cases aB a 0 (w ((l.length:Int) - 1))<;>cases aB b 0 (w ((l.length:Int) - 1))<;>rfl
 ·simp only [e,bQ,aS,aI]
theorem Tv {p:List au} {l:List ai} {a b:Int} (h:pe p l a b=0):∃ (i k:Nat) (hi:i < l.length) (hk:k < l.length),a=i∧b=k∧VN p∧0 < p.length∧Ctx p l[i] l[k] (pts p []):=by
 unfold pe at h;split at h
 case isFalse hne=>exact absurd h hne
 rename_i h1
 split at h
 case isFalse=>cases h
 rename_i h2
 obtain ⟨hc,hl,ha⟩:=RJ h1;obtain ⟨vn,h0,h3⟩:=Uj hc;have hw:w ((l.length:Int) - 1)=(l.length:Int) - 1:=yT (by omega) (by omega);rw [hw] at h2;simp only [bF] at h2;have i1:=xu.1 h2.1;have i2:=xu.1 h2.2;have hi:a.toNat < l.length:=by omega
 have hk:b.toNat < l.length:=by omega
 obtain ⟨a1,a2⟩:=MC (ha _ (dM hi));obtain ⟨b1,b2⟩:=MC (ha _ (dM hk));exact ⟨a.toNat,b.toNat,hi,hk,by omega,by omega,vn,h0,a1,b1,fun y hy=>by have:=(vJ (a2 y hy)).1;omega,fun y hy=>by have:=(vJ (b2 y hy)).1;omega,vn.len,h3,fun q hq=>by have:=PI _ _ _ hq;simpa using this⟩
end Go.Sh
namespace Go.Sh
open Go.Lx
set_option linter.unusedVariables false
set_option linter.unusedSimpArgs false
set_option linter.deprecated false
def itN {β:Type} (f:Nat→β→β) (n:Nat) (a:β):β:=(List.range n).foldl (fun b i=>f i b) a
theorem zN {β:Type} (f:Nat→β→β) (n:Nat) (a:β):itN f (n+1) a=f n (itN f n a):=by
 unfold itN;rw [List.range_succ,List.foldl_append];rfl
theorem O7 {β:Type} (f:Nat→β→β) (n:Nat) (a:β):∀ m,itN f (n+m) a=itN (fun i=>f (n+i)) m (itN f n a)
 | 0=>by simp [itN]
 | m+1=>by rw [← lH,zN,zN,O7 f n a m]
theorem Tn {β:Type} {f:Nat→β→β} {n:Nat} (Inv:Nat→β→Prop) (h:∀ i,i < n→∀ b,Inv i b→Inv (i+1) (f i b)) {a:β} (h0:Inv 0 a):Inv n (itN f n a):=by
 have:∀ m,m≤n→Inv m (itN f m a):=by
  intro m
  induction m with
  | zero=>intro _;exact h0
  | succ m ih=>intro hm;rw [zN];exact h m (by omega) _ (ih (by omega))
 exact this n (bu _)
theorem yu {β σ τ:Type} {step:σ→Option (Sum σ τ)} (n:Nat) (mk:Int→β→σ) (fin:β→τ) (f:Nat→β→β) (Inv:Nat→β→Prop) {a:β} {s:σ} (hs:s=mk 0 a)
  (h:∀ i,i < n→∀ b,Inv i b→step (mk i b)=some (.inl (mk ((i+1:Nat):Int) (f i b)))∧Inv (i+1) (f i b))
  (hend:∀ b,Inv n b→step (mk n b)=some (.inr (fin b))) (hI:Inv 0 a) (hn:n < 1152921504606846976) :
  gB step s=some (fin (itN f n a))∧Inv n (itN f n a):=by
 refine ⟨?_,Tn Inv (fun i hi b hb=>(h i hi b hb).2) hI⟩;unfold itN;refine rQ (List.range n) mk fin (fun b i=>f i b) Inv hs (fun i hi b hb=>?_) (fun b hb=>?_) hI (by simpa using hn)
 ·have hi':i < n:=by simpa using hi
  rw [List.getElem_range];exact h i hi' b hb
 ·rw [List.length_range] at hb ⊢;exact hend b hb
def fwd (S:List Int) (a b:Int):Bool:=match S.find? (fun z=>z != 0) with | some s=>decide (s > 0) | none=>decide (a < b)
def RI (p:List au) (l:List ai) (x:aT):Int :=
 if pe p l x.From x.To=0 then
  match l[x.From.toNat]?,l[x.To.toNat]? with
  | some a,some b=>if ig a b=true then (if (x.Signs.length:Int)=(p.length:Int) then (if x.Signs.all (fun z=>aB z (-1) 1)=true then (if fwd x.Signs x.From x.To=true then 0 else 9) else 2) else 10) else 13
  | _,_=>0
 else pe p l x.From x.To
def nzF (i:Nat) (_:Unit) (x:Int):Sum (Nat×Int) Unit:=if (x != 0)=true then .inl (i,x) else .inr ()
theorem L9:∀ (S:List Int) (i:Nat),match lN nzF i S () with | .inl r=>i≤r.1∧S[r.1 - i]?=some r.2∧S.find? (fun z=>z != 0)=some r.2 | .inr _=>S.find? (fun z=>z != 0)=none
 | [],i=>rfl
 | x::S,i=>by
  simp only [lN,nzF];by_cases e:(x != 0)=true
  ·simp only [e,aS];exact ⟨bu _,by simp,by rw [List.find?_cons,e]⟩
  ·simp only [e,aI,aN];have ih:=L9 S (i+1);have e2:(x::S).find? (fun z=>z != 0)=S.find? (fun z=>z != 0):=by
    have e4:(x != 0)=false:=by simpa using e
    rw [List.find?_cons,e4]
   have e3:lN (fun i (_:Unit) (x:Int)=>if (x != 0)=true then (Sum.inl (i,x):Sum (Nat×Int) Unit) else .inr ()) (i+1) S ()=lN nzF (i+1) S ():=rfl;change (match lN nzF (i+1) S () with | .inl r=>_ | .inr _=>_);generalize lN nzF (i+1) S ()=q at ih;cases q with
   | inl r =>
    obtain ⟨h1,h2,h3⟩:=ih;refine ⟨by omega,?_,by rw [e2];exact h3⟩;rw [show r.1 - i=(r.1 - (i+1))+1 by omega];simpa using h2
   | inr u=>rw [e2];exact ih
theorem Uz {S:List Int} (h:S.length < 16777216):∃ k:Int,bH S=some k∧((0≤k∧∃ z,at_ S k=some z∧S.find? (fun z=>z != 0)=some z)∨(k < 0∧S.find? (fun z=>z != 0)=none)):=by
 unfold bH;rw [ng (step:=bH.s1 S) S (fun i (_:Unit)=>i) (fun r => .inr (r.1:Int)) (fun _ => .inl ()) nzF (fun _ _=>True) (a:=()) rfl ?_ ?_ trivial (by omega)]
 ·have:=L9 S 0;generalize lN nzF 0 S ()=q at this;cases q with
  | inl r =>
   obtain ⟨h1,h2,h3⟩:=this;refine ⟨(r.1:Int),rfl, .inl ⟨by omega,r.2,?_,h3⟩⟩;rw [Ot];simpa using h2
  | inr u=>exact ⟨-1,rfl, .inr ⟨by omega,this⟩⟩
 ·intro i hi b _;refine ⟨?_,fun _ _=>trivial⟩;simp only [bH.s1,jY hi,aS,jc hi,ag,oU,nzF];by_cases e:(S[i] != 0)=true
  ·simp only [e,aS]
  ·simp only [e,aI,aN];rw [wn (by omega)]
 ·intro b _;simp only [bH.s1,eP,aI]
theorem PD {S:List Int} (h:S.length < 16777216):fE S=some (!(S.all (fun z=>aB z (-1) 1))):=by
 unfold fE bP;obtain ⟨k,hk⟩:=IM (step:=bP.s1 S) S (fun c=>!aB c (-1) 1) (fun i=>Sum.inr i) (Sum.inl ()) (s:=0) rfl (fun i hi=>by
  simp only [bP.s1,jY hi,aS,jc hi,ag,oQ];by_cases e:(!aB S[i] (-1) 1)=true
  ·simp only [e,aS]
  ·simp only [e,aI,aN];rw [wn (by omega)]) (by simp only [bP.s1,eP,aI]) (by omega)
 rw [hk];have e2:(!(S.all (fun z=>aB z (-1) 1)))=S.any (fun c=>!aB c (-1) 1):=by rw [List.not_all_eq_any_not]
 rw [e2];by_cases e:S.any (fun c=>!aB c (-1) 1)=true
 ·simp only [e,aS,ag];have:(k:Int)≥0:=by omega
  simp [this]
 ·simp only [e,aI,ag,aN];simp at e ⊢
theorem Ux {S:List Int} (h:S.length < 16777216) (a b:Int):jR S a b=some (fwd S a b):=by
 unfold jR fwd;rw [ng (step:=jR.s1 S) S (fun i (_:Unit)=>i) (fun r => .inr (decide (r.2 > 0))) (fun _ => .inl ()) nzF (fun _ _=>True) (a:=()) rfl ?_ ?_ trivial (by omega)]
 ·have:=L9 S 0;generalize lN nzF 0 S ()=q at this;cases q with
  | inl r=>rw [this.2.2];rfl
  | inr u=>rw [this];rfl
 ·intro i hi b _;refine ⟨?_,fun _ _=>trivial⟩;simp only [jR.s1,jY hi,aS,jc hi,ag,nzF];by_cases e:S[i]=0
  ·simp only [e,iT,aI,bne_self_eq_false,aN];rw [wn (by omega)]
  ·have e2:(S[i] != 0)=true:=by simpa using e
   simp only [e,e2,bQ,aS]
 ·intro b _;simp only [jR.s1,eP,aI]
theorem Jg {p:List au} {l:List ai} (S:Sm p l) {x:aT} (hx:x.Signs.length < 16777216):jJ p l x=some (RI p l x):=by
 unfold jJ RI;rw [NY S];simp only [ag];by_cases h:pe p l x.From x.To=0
 ·obtain ⟨i,k,hi,hk,e1,e2,_⟩:=Tv h;have a1:at_ l x.From=some l[i]:=by rw [e1];exact jc hi
  have a2:at_ l x.To=some l[k]:=by rw [e2];exact jc hk
  have b1:l[x.From.toNat]?=some l[i]:=by rw [e1];simp [hi]
  have b2:l[x.To.toNat]?=some l[k]:=by rw [e2];simp [hk]
  simp only [h,iT,aI,aS,b1,b2];rw [PD hx];obtain ⟨q,hq,hc⟩:=Uz hx;rw [hq];simp only [ag];have hj:∀ a5:Bool,a5=fwd x.Signs x.From x.To→jJ.j1 p l x (!(x.Signs.all (fun z=>aB z (-1) 1))) a5=some (if ig l[i] l[k]=true then (if (x.Signs.length:Int)=(p.length:Int) then (if x.Signs.all (fun z=>aB z (-1) 1)=true then (if fwd x.Signs x.From x.To=true then 0 else 9) else 2) else 10) else 13):=by
   intro a5 h5;subst h5;unfold jJ.j1;rw [a1,a2];simp only [ag];rw [SN];simp only [ag,beq_iff_eq,Bool.not_not]
  rcases hc with ⟨h0,z,hz,hf⟩ | ⟨h0,hf⟩
  ·rw [if_pos (by omega)];have hmx:mx 0 q=q:=by unfold mx;split<;>omega
   rw [hmx,hz];simp only [ag];refine hj _ ?_;unfold fwd;rw [hf];have:¬ q < 0:=by omega
   simp [this]
  ·rw [if_neg (by omega)];refine hj _ ?_;unfold fwd;rw [hf];simp [h0]
 ·simp only [h,bQ,aS,aI]
theorem JY {p:List au} {l:List ai} (S:Sm p l) {x:aT} (hx:x.Signs.length < 16777216):kS p l x=some (RI p l x):=by
 unfold kS RI;rw [IX S];simp only [ag];by_cases h:pe p l x.From x.To=0
 ·obtain ⟨i,k,hi,hk,e1,e2,_⟩:=Tv h;have a1:at_ l x.From=some l[i]:=by rw [e1];exact jc hi
  have a2:at_ l x.To=some l[k]:=by rw [e2];exact jc hk
  have b1:l[x.From.toNat]?=some l[i]:=by rw [e1];simp [hi]
  have b2:l[x.To.toNat]?=some l[k]:=by rw [e2];simp [hk]
  simp only [h,iT,aI,aS,b1,b2,a1,a2,ag];have hm:xB l[i] l[k]=ig l[i] l[k]:=rfl;rw [hm];by_cases h1:ig l[i] l[k]=true
  case neg=>simp only [h1,bQ,aS,aI];rfl
  by_cases h2:(x.Signs.length:Int)=(p.length:Int)
  case neg=>simp only [h1,h2,iT,bQ,aS,aI]
  simp only [h1,h2,iT,aS,aI];rw [qL (step:=kS.s1 x) x.Signs (fun z=>if (!aB z (-1) 1)=true then some () else none) (fun _ => .inr 2) (.inl ()) rfl ?_ ?_ (by omega),tX]
  ·have e2:x.Signs.any (fun c=>!aB c (-1) 1)=(!(x.Signs.all (fun z=>aB z (-1) 1))):=by rw [List.not_all_eq_any_not]
   rw [e2];by_cases h3:x.Signs.all (fun z=>aB z (-1) 1)=true
   ·simp only [h3,Bool.not_true,aN,aI,aS,ag];rw [Ux hx];simp only [ag];by_cases h4:fwd x.Signs x.From x.To=true<;>simp [h4]
   ·have h3':x.Signs.all (fun z=>aB z (-1) 1)=false:=by simpa using h3
    simp only [h3',Bool.not_false,aN,aI,aS,ag]
  ·intro j hj;simp only [kS.s1,jY hj,aS,jc hj,ag,xH];by_cases e:aB x.Signs[j] (-1) 1=true
   ·simp only [e,iT,aI,Bool.not_true,aN];rw [wn (by omega)]
   ·have:aB x.Signs[j] (-1) 1=false:=by simpa using e
    simp [this]
  ·simp only [kS.s1,eP,aI]
 ·simp only [h,bQ,aS,aI]
theorem MZ {n:Nat} (h:n≤16777216):G9 (n:Int) (0:Int)=some (List.replicate n 0):=by unfold G9;rw [if_pos (by omega)];simp
theorem Eu {ρ:Type} {g:Int→Int→Int} (t:Nat):∀ (cs:List Int) (i:Nat) (pre mid post:List Int),pre.length=t+i→mid.length=cs.length →
  lN (ρ:=ρ) (fun i (b:List Int) x => .inr (b.set (t+i) (g (b.getD (t+i) 0) x))) i cs (pre++(mid++post)) = .inr (pre++(List.zipWith g mid cs++post))
 | [],i,pre,[],post,_,_=>by simp [lN]
 | [],i,pre,m::mid,post,_,h=>by simp at h
 | c::cs,i,pre,[],post,_,h=>by simp at h
 | c::cs,i,pre,m::mid,post,h,hm=>by
  have e1:(pre++(m::mid++post)).getD (t+i) 0=m:=by
   rw [jA,dY (by omega)];simp [h]
  have e2:(pre++(m::mid++post)).set (t+i) (g m c)=(pre++[g m c])++(mid++post):=by
   rw [List.set_append_right _ _ (by omega)];simp [h]
  simp only [lN];rw [e1,e2,Eu t cs (i+1) (pre++[g m c]) mid post (by simp;omega) (by simpa using hm)];simp
def CP (W t:Nat) (a:Int) (cs:List Int):List Int:=List.replicate t 0++(cs.map (fun c=>w (a * c))++List.replicate (W - t - cs.length) 0)
theorem Em {W t:Nat} {a:Int} {cs:List Int} (h:t+cs.length≤W):(CP W t a cs).length=W:=by unfold CP;simp;omega
theorem wE {g:Int→Int→Int}:∀ cs:List Int,List.zipWith g (List.replicate cs.length 0) cs=cs.map (g 0)
 | []=>rfl
 | c::cs=>by simp only [lm,List.replicate_succ,List.zipWith_cons_cons,iL,wE cs]
theorem Hw {W t:Nat} {a:Int} {f:ah} (h:t+f.Coefs.length≤W) (hW:W≤16777216):jf W t a f=some ⟨CP W t a f.Coefs,w (a * f.Const),false⟩:=by
 unfold jf;rw [MZ hW];simp only [ag];rw [ng (ρ:=Empty) (step:=jf.s1 t a f) f.Coefs (fun i (b:List Int)=>(i,b)) (fun e=>e.elim) (fun b=>b) (fun i b x => .inr (b.set (t+i) ((fun _ x=>w (a * x)) (b.getD (t+i) 0) x))) (fun _ b=>b.length=W) (a:=List.replicate W 0) rfl ?_ ?_ (by simp) (by omega)]
 ·have e:List.replicate W (0:Int)=List.replicate t 0++(List.replicate f.Coefs.length 0++List.replicate (W - t - f.Coefs.length) 0):=by
   rw [List.replicate_append_replicate,List.replicate_append_replicate]
   congr 1;omega
  rw [e,Eu (g:=fun _ x=>w (a * x)) t f.Coefs 0 (List.replicate t 0) (List.replicate f.Coefs.length 0) (List.replicate (W - t - f.Coefs.length) 0) (by simp) (by simp),wE];rfl
 ·intro i hi b hb;have hw:w ((t:Int)+(i:Int))=((t+i:Nat):Int):=by rw [yT (by omega) (by omega)];omega
  constructor
  ·simp only [jf.s1,jY hi,aS,jc hi,ag,hw];rw [jc (by omega)];simp only [ag,Int.toNat_natCast];rw [wn (by omega)]
  ·intro b' hb';cases hb';simpa using hb
 ·intro b _;simp only [jf.s1,eP,aI]
theorem MP (W t a:Int) (f:ah) (b:List ae):iD f t a W b=jf W t a f:=by
 unfold iD jf jv;cases G9 W (0:Int) with
 | none=>rfl
 | some x=>rfl
theorem F8 {c:Int} {e:Bool} {k:Nat} {by_:Int} {b:List Int} (h:k < b.length):mV c e k by_ b=some (⟨b.set k (w (b.getD k 0+by_)),c,e⟩,b.set k (w (b.getD k 0+by_))):=by
 unfold mV;rw [jc h];simp only [ag,Int.toNat_natCast];rw [jA,ax h];rfl
theorem Kq (W k:Nat):(List.replicate W (0:Int)).getD k 0=0:=by
 rw [jA];by_cases h:k < W
 ·rw [ax (by simpa using h)];simp
 ·rw [kW (by simpa using h)];rfl
def Rw (W n:Nat) (b:List ae):Prop:=b.length≤n∧∀ r,r∈b→r.Coefs.length=W
theorem Rw.mono {W n m:Nat} {b:List ae} (h:Rw W n b) (hm:n≤m):Rw W m b:=⟨Nat.le_trans h.1 hm,h.2⟩
theorem Rw.two {W n:Nat} {b:List ae} (h:Rw W n b) {r s:ae} (hr:r.Coefs.length=W) (hs:s.Coefs.length=W):Rw W (n+2) (b++[r,s]):=by
 refine ⟨by have:=h.1;simp;omega,fun x hx=>?_⟩;rcases aU.1 hx with hx | hx
 ·exact h.2 x hx
 ·simp only [iM,List.not_mem_nil,or_false] at hx;rcases hx with rfl | rfl
  ·exact hr
  ·exact hs
theorem Rw.snoc {W n:Nat} {b:List ae} (h:Rw W n b) {r:ae} (hr:r.Coefs.length=W):Rw W (n+1) (b++[r]):=by
 refine ⟨by have:=h.1;simp;omega,fun x hx=>?_⟩;rcases aU.1 hx with hx | hx
 ·exact h.2 x hx
 ·simp only [iM,List.not_mem_nil,or_false] at hx;subst hx;exact hr
theorem DN {r:ae} {W:Int} {b:List ae} (h:b.length < 16777216):ik r W b=some (b++[r]):=by
 unfold ik;rw [vw h];rfl
def U8 (W t i:Nat) (l:au):ae:=⟨(CP W t (-1) l.Low.Coefs).set (t+i) (w ((CP W t (-1) l.Low.Coefs).getD (t+i) 0+1)),w (-1 * l.Low.Const),false⟩
def Ti (W t i:Nat) (l:au):ae:=⟨(CP W t 1 l.High.Coefs).set (t+i) (w ((CP W t 1 l.High.Coefs).getD (t+i) 0 - 1)),w (1 * l.High.Const),false⟩
def vX (p:List au) (W t:Nat) (i:Nat) (b:List ae):List ae:=match p[i]? with | some l=>b++[U8 W t i l,Ti W t i l] | none=>b
theorem getD_at {xs:List Int} {k:Nat} (h:k < xs.length):at_ xs (k:Int)=some (xs.getD k 0):=by
 rw [jc h,jA,ax h];rfl
section
variable {p:List au} (vn:VN p) {t:Nat} (ht:t≤p.length)
include vn ht
theorem L8 {W:Nat} (hW:W=2 * p.length) {i:Nat} (hi:i < p.length) :
  jf (W:Int) (t:Int) (-1) ⟨p[i].Low.Coefs,p[i].Low.Const⟩=some ⟨CP W t (-1) p[i].Low.Coefs,w (-1 * p[i].Low.Const),false⟩∧(CP W t (-1) p[i].Low.Coefs).length=W ∧
  jf (W:Int) (t:Int) 1 ⟨p[i].High.Coefs,p[i].High.Const⟩=some ⟨CP W t 1 p[i].High.Coefs,w (1 * p[i].High.Const),false⟩∧(CP W t 1 p[i].High.Coefs).length=W:=by
 obtain ⟨l1,l2⟩:=vn.lens hi;have hl:=vn.len;exact ⟨Hw (f:=⟨p[i].Low.Coefs,p[i].Low.Const⟩) (by show t+p[i].Low.Coefs.length≤W;omega) (by omega),Em (by omega),Hw (f:=⟨p[i].High.Coefs,p[i].High.Const⟩) (by show t+p[i].High.Coefs.length≤W;omega) (by omega),Em (by omega)⟩
theorem Na {W:Nat} (hW:W=2 * p.length) {i n:Nat} (hi:i < p.length) {b:List ae} (hb:Rw W n b):Rw W (n+2) (vX p W t i b):=by
 obtain ⟨_,h2,_,h4⟩:=L8 vn ht hW hi;unfold vX;rw [ax hi];exact hb.two (by simp [U8,h2]) (by simp [Ti,h4])
theorem Pv {W:Nat} (hW:W=2 * p.length) {n:Nat} (hn:n≤100) {b:List ae} (hb:Rw W n b) :
  fV p t W b=some (itN (vX p W t) p.length b)∧Rw W (n+2 * p.length) (itN (vX p W t) p.length b):=by
 have hl:=vn.len;unfold fV;obtain ⟨h1,h2⟩:=yu (step:=fV.s1 p t W) p.length (fun i (b:List ae)=>(i,b)) (fun b=>b) (vX p W t) (fun i b=>Rw W (n+2 * i) b) (a:=b) rfl (fun i hi c hc=>by
  obtain ⟨r1,r2,r3,r4⟩:=L8 vn ht hW hi;have hc1:=hc.1;refine ⟨?_,by have:=Na vn ht hW hi hc;rw [show n+2 * (i+1)=n+2 * i+2 by omega];exact this⟩;have hw:w ((t:Int)+(i:Int))=((t+i:Nat):Int):=by rw [yT (by omega) (by omega)];omega
  simp only [fV.s1,jY hi,aS,jc hi,ag,MP];rw [r1];simp only [ag];rw [r3];simp only [ag,hw];rw [getD_at (by omega),getD_at (by omega)];simp only [ag,Int.toNat_natCast];rw [DN (by omega)];simp only [ag];rw [DN (by simp;omega)];simp only [ag];rw [wn (by omega)];unfold vX;rw [ax hi,List.append_assoc];rfl) (fun c _=>by simp only [fV.s1,eP,aI]) hb (by omega)
 rw [h1];exact ⟨rfl,h2⟩
theorem Dy {W:Nat} (hW:W=2 * p.length) {n:Nat} (hn:n≤100) {b:List ae} (hb:Rw W n b) (k:Nat) (hk:k * p.length=t) (c0:List ae) :
  gB (aZ.s2 p ((k:Int),c0)) (0,b)=some (itN (vX p W t) p.length b):=by
 have hl:=vn.len;have hk2:w ((k:Int) * (p.length:Int))=(t:Int):=by
  have:(k:Int) * (p.length:Int)=((k * p.length:Nat):Int):=by simp
  rw [this,hk,yT (by omega) (by omega)]
 have hw2:w (2 * (p.length:Int))=(W:Int):=by rw [yT (by omega) (by omega)];omega
 refine (yu (step:=aZ.s2 p ((k:Int),c0)) p.length (fun i (b:List ae)=>(i,b)) (fun b=>b) (vX p W t) (fun i b=>Rw W (n+2 * i) b) (a:=b) rfl (fun i hi c hc=>?_) (fun c _=>by simp only [aZ.s2,eP,aI]) hb (by omega)).1;obtain ⟨r1,r2,r3,r4⟩:=L8 vn ht hW hi;have hc1:=hc.1;refine ⟨?_,by have:=Na vn ht hW hi hc;rw [show n+2 * (i+1)=n+2 * i+2 by omega];exact this⟩;have hw:w ((t:Int)+(i:Int))=((t+i:Nat):Int):=by rw [yT (by omega) (by omega)];omega
 simp only [aZ.s2,jY hi,aS,jc hi,ag,hk2,hw2];rw [r1];simp only [ag,hw];rw [F8 (by omega)];simp only [ag];rw [r3];simp only [ag];rw [F8 (by omega)];simp only [ag];rw [Om (by simp;omega)];simp only [ag];rw [wn (by omega)];unfold vX;rw [ax hi];simp only [U8,Ti,Int.sub_eq_add_neg]
end
def zr (W:Nat):List Int:=List.replicate W 0
theorem Gg (W:Nat):(zr W).length=W:=by simp [zr]
theorem QI (W:Nat):CP W 0 1 []=zr W:=by simp [CP,zr]
theorem row_zero {W:Nat} (hW:W≤16777216) (c:Int):jf (W:Int) 0 1 ⟨[],c⟩=some ⟨zr W,w (1 * c),false⟩:=by
 rw [← QI W];exact Hw (t:=0) (f:=⟨[],c⟩) (by simp) hW
theorem F6 {W:Nat} (hW:W≤16777216) (b:List ae):jv (W:Int) b=some ⟨zr W,0,false⟩:=by
 unfold jv zr;rw [MZ hW];rfl
theorem MB {W:Nat} {c:Int} {e:Bool} {k:Nat} {v:Int} (h:k < W) (h1 : -9223372036854775808≤v) (h2:v≤9223372036854775807):mV c e k v (zr W)=some (⟨(zr W).set k v,c,e⟩,(zr W).set k v):=by
 rw [F8 (by rw [Gg];exact h)];unfold zr;rw [Kq,Int.zero_add,yT h1 h2]
def BN (hs:List aV) (W:Nat) (v:Nat) (b:List ae):List ae:=match hs[v % hs.length]? with
 | some h=>b++[⟨(zr W).set v 1,w (0 - h.Low),false⟩,⟨(zr W).set v (-1),h.High,false⟩]
 | none=>b
theorem MR {hs:List aV} {W n v:Nat} {b:List ae} (hb:Rw W n b):Rw W (n+2) (BN hs W v b):=by
 unfold BN;split
 ·exact hb.two (by simp [Gg]) (by simp [Gg])
 ·exact hb.mono (by omega)
theorem Fh {hs:List aV} {W:Nat} (hW:W=2 * hs.length) (hl:hs.length≤3) {t:Nat} (ht:t=0∨t=hs.length) {n:Nat} (hn:n≤100) {b:List ae} (hb:Rw W n b) :
  fG hs t W b=some (itN (fun i=>BN hs W (t+i)) hs.length b)∧Rw W (n+2 * hs.length) (itN (fun i=>BN hs W (t+i)) hs.length b):=by
 unfold fG;obtain ⟨h1,h2⟩:=yu (step:=fG.s1 hs t W) hs.length (fun i (b:List ae)=>(i,b)) (fun b=>b) (fun i=>BN hs W (t+i)) (fun i b=>Rw W (n+2 * i) b) (a:=b) rfl (fun i hi c hc=>by
  have hc1:=hc.1;refine ⟨?_,by have:=MR (hs:=hs) (v:=t+i) hc;rw [show n+2 * (i+1)=n+2 * i+2 by omega];exact this⟩;have hw:w ((t:Int)+(i:Int))=((t+i:Nat):Int):=by rw [yT (by omega) (by omega)];omega
  have hm:(t+i) % hs.length=i:=by
   rcases ht with h | h
   ·rw [h,gW,Nat.mod_eq_of_lt hi]
   ·rw [h,Nat.add_mod_left,Nat.mod_eq_of_lt hi]
  have hz:=Gg W;simp only [fG.s1,jY hi,aS,jc hi,ag];rw [F6 (by omega)];simp only [ag,hw];rw [jc (i:=t+i) (xs:=zr W) (by omega)];simp only [ag,Int.toNat_natCast];rw [DN (by omega)];simp only [ag];rw [DN (by simp;omega)];simp only [ag];rw [wn (by omega)];unfold BN;rw [hm,ax hi,List.append_assoc];rfl) (fun c _=>by simp only [fG.s1,eP,aI]) hb (by omega)
 rw [h1];exact ⟨rfl,h2⟩
theorem Gw {p:List au} {hs:List aV} (hp:p.length=hs.length) {W:Nat} (hW:W=2 * hs.length) (hl:hs.length≤3) (hh:∀ h,h∈hs → -1000≤h.Low∧h.Low≤1000 ∧ -1000≤h.High∧h.High≤1000) {n:Nat} (hn:n≤100) {b:List ae} (hb:Rw W n b) :
  gB (aZ.s3 p hs) (0,b)=some (itN (BN hs W) W b):=by
 have hw2:w (2 * (p.length:Int))=(W:Int):=by rw [yT (by omega) (by omega)];omega
 refine (yu (step:=aZ.s3 p hs) W (fun i (b:List ae)=>(i,b)) (fun b=>b) (BN hs W) (fun i b=>Rw W (n+2 * i) b) (a:=b) rfl (fun i hi c hc=>?_) (fun c _=>by simp only [aZ.s3,hw2,Int.lt_irrefl,aI]) hb (by omega)).1;have hc1:=hc.1;refine ⟨?_,by have:=MR (hs:=hs) (v:=i) hc;rw [show n+2 * (i+1)=n+2 * i+2 by omega];exact this⟩;have h0:0 < hs.length:=by omega
 have hlt:((i:Int) < (W:Int))=True:=eq_true (by omega);have hr:rem (i:Int) (p.length:Int)=some ((i % hs.length:Nat):Int):=by
  unfold rem;rw [if_neg (by omega),hp];rfl
 have hm:i % hs.length < hs.length:=Nat.mod_lt _ h0;obtain ⟨g1,g2,g3,g4⟩:=hh _ (dM hm);simp only [aZ.s3,hw2,hlt,aS,hr,ag];rw [jc hm];simp only [ag];rw [row_zero (by omega)];simp only [ag];rw [MB hi (by omega) (by omega)];simp only [ag];rw [row_zero (by omega)];simp only [ag];rw [MB hi (by omega) (by omega)];simp only [ag];rw [Om (by simp;omega)];simp only [ag];rw [wn (by omega)];unfold BN;rw [ax hm];have e1:w (1 * w (0 - hs[i % hs.length].Low))=w (0 - hs[i % hs.length].Low):=by
  rw [Int.one_mul,yT (n:=0 - _) (by omega) (by omega),yT (by omega) (by omega)]
 have e2:w (1 * hs[i % hs.length].High)=hs[i % hs.length].High:=by rw [Int.one_mul,yT (by omega) (by omega)]
 rw [e1,e2]
def eqR (f g:ah):ae:=⟨f.Coefs.map (fun c=>w (1 * c))++g.Coefs.map (fun c=>w (-1 * c)),w (w (1 * f.Const)+w (-1 * g.Const)),true⟩
def eqF (A B:ai) (i:Nat) (b:List ae):List ae:=match A.Subscripts[i]?,B.Subscripts[i]? with
 | some f,some g=>b++[eqR f g]
 | _,_=>b
structure Sub (A:ai) (d:Nat):Prop where
 n:A.Subscripts.length≤7
 f:∀ y,y∈A.Subscripts→Bf y d=0
theorem RP {A B:ai} {d W n i:Nat} (hW:W=2 * d) (ha:Sub A d) (hb:Sub B d) {b:List ae} (h:Rw W n b):Rw W (n+1) (eqF A B i b):=by
 unfold eqF;split
 ·rename_i f g h1 h2
  have f1:=(vJ (ha.f _ (dm h1))).1;have f2:=(vJ (hb.f _ (dm h2))).1;exact h.snoc (by simp [eqR];omega)
 ·exact h.mono (by omega)
section
variable {p:List au} {l:List ai} {x:aT} {A B:ai} (hd:p.length≤3) (ha:Sub A p.length) (hb:Sub B p.length) (hto:at_ l x.To=some B) (hlen:A.Subscripts.length=B.Subscripts.length)
include hd ha hb hlen
theorem TD {W:Nat} (hW:W=2 * p.length) {n:Nat} (hn:n≤100) {b:List ae} (hr:Rw W n b) (hto:at_ l x.To=some B) :
  gB (bT.s1 p l x A) (0,b)=some (itN (eqF A B) A.Subscripts.length b)∧Rw W (n+A.Subscripts.length) (itN (eqF A B) A.Subscripts.length b):=by
 have hw2:w (2 * (p.length:Int))=(W:Int):=by rw [yT (by omega) (by omega)];omega
 have hA:=ha.n;refine yu (step:=bT.s1 p l x A) A.Subscripts.length (fun i (b:List ae)=>(i,b)) (fun b=>b) (eqF A B) (fun i b=>Rw W (n+i) b) (a:=b) rfl (fun i hi c hc=>?_) (fun c _=>by simp only [bT.s1,eP,aI]) hr (by omega);have hc1:=hc.1;have hi2:i < B.Subscripts.length:=by omega
 refine ⟨?_,RP hW ha hb hc⟩;have f1:=(vJ (ha.f _ (dM hi))).1;have f2:=(vJ (hb.f _ (dM hi2))).1;have q1:jf (W:Int) 0 1 A.Subscripts[i]=some ⟨CP W 0 1 A.Subscripts[i].Coefs,w (1 * A.Subscripts[i].Const),false⟩:=Hw (t:=0) (by omega) (by omega);have q2:jf (W:Int) (p.length:Int) (-1) B.Subscripts[i]=some ⟨CP W p.length (-1) B.Subscripts[i].Coefs,w (-1 * B.Subscripts[i].Const),false⟩:=Hw (by omega) (by omega);simp only [bT.s1,jY hi,aS,jc hi,ag,hw2,MP,hto,jc hi2];rw [q1];simp only [ag];rw [q2];simp only [ag];have hys:(B.Subscripts[i].Coefs.map (fun c=>w (-1 * c))).length=p.length:=by rw [jS];omega
 have hl:gB (bT.s2 p ⟨CP W p.length (-1) B.Subscripts[i].Coefs,w (-1 * B.Subscripts[i].Const),false⟩) ((p.length:Int),CP W 0 1 A.Subscripts[i].Coefs)=some (A.Subscripts[i].Coefs.map (fun c=>w (1 * c))++B.Subscripts[i].Coefs.map (fun c=>w (-1 * c))):=by
  rw [ng (ρ:=Empty) (step:=bT.s2 p ⟨CP W p.length (-1) B.Subscripts[i].Coefs,w (-1 * B.Subscripts[i].Const),false⟩) (B.Subscripts[i].Coefs.map (fun c=>w (-1 * c))) (fun i (b:List Int)=>((p.length:Int)+i,b)) (fun e=>e.elim) (fun b=>b) (fun i b x => .inr (b.set (p.length+i) ((fun _ x=>x) (b.getD (p.length+i) 0) x))) (fun _ b=>b.length=W) (a:=CP W 0 1 A.Subscripts[i].Coefs) (by simp) ?_ ?_ (Em (by omega)) (by omega)]
  ·have e:CP W 0 1 A.Subscripts[i].Coefs=A.Subscripts[i].Coefs.map (fun c=>w (1 * c))++(List.replicate (B.Subscripts[i].Coefs.map (fun c=>w (-1 * c))).length 0++[]):=by
    unfold CP;rw [hys,show W - 0 - A.Subscripts[i].Coefs.length=p.length by omega];simp
   rw [e,Eu (g:=fun _ x=>x) p.length (B.Subscripts[i].Coefs.map (fun c=>w (-1 * c))) 0 (A.Subscripts[i].Coefs.map (fun c=>w (1 * c))) (List.replicate (B.Subscripts[i].Coefs.map (fun c=>w (-1 * c))).length 0) [] (by simp;omega) (by simp),wE];simp
  ·intro j hj b' hb';have hj2:j < p.length:=by omega
   have hj3:j < B.Subscripts[i].Coefs.length:=by omega
   have hlt:(((p.length:Int)+(j:Int)) < (W:Int))=True:=eq_true (by omega);have hcast:(p.length:Int)+(j:Int)=((p.length+j:Nat):Int):=by omega
   have hg:at_ (CP W p.length (-1) B.Subscripts[i].Coefs) ((p.length+j:Nat):Int)=some (w (-1 * B.Subscripts[i].Coefs[j])):=by
    rw [Ot];unfold CP;rw [dY (by simp),cZ (by simp;omega)];simp [hj3]
   constructor
   ·simp only [bT.s2,hw2,hlt,aS];rw [hcast,hg,jc (i:=p.length+j) (xs:=b') (by omega)];simp only [ag,Int.toNat_natCast];rw [wn (by omega)];rw [List.getElem_map]
    congr 4
   ·intro b'' hb'';cases hb'';simpa using hb'
  ·intro b' _;have hlt:¬ (((p.length:Int)+((B.Subscripts[i].Coefs.map (fun c=>w (-1 * c))).length:Int)) < (W:Int)):=by omega
   simp only [bT.s2,hw2,hlt,aI]
 rw [hl];simp only [ag];rw [DN (by omega)];simp only [ag];rw [wn (by omega)];unfold eqF;rw [ax hi,ax hi2];rfl
theorem N7 {W:Nat} (hW:W=2 * p.length) {n:Nat} (hn:n≤100) {b:List ae} (hr:Rw W n b) :
  gB (aZ.s4 p A B) (0,b)=some (itN (eqF A B) A.Subscripts.length b):=by
 have hw2:w (2 * (p.length:Int))=(W:Int):=by rw [yT (by omega) (by omega)];omega
 have hA:=ha.n;refine (yu (step:=aZ.s4 p A B) A.Subscripts.length (fun i (b:List ae)=>(i,b)) (fun b=>b) (eqF A B) (fun i b=>Rw W (n+i) b) (a:=b) rfl (fun i hi c hc=>?_) (fun c _=>by simp only [aZ.s4,eP,aI]) hr (by omega)).1;have hc1:=hc.1;have hi2:i < B.Subscripts.length:=by omega
 refine ⟨?_,RP hW ha hb hc⟩;obtain ⟨f1,_,k1,k2⟩:=vJ (ha.f _ (dM hi));obtain ⟨f2,c2,k3,k4⟩:=vJ (hb.f _ (dM hi2));have q1:jf (W:Int) 0 1 A.Subscripts[i]=some ⟨CP W 0 1 A.Subscripts[i].Coefs,w (1 * A.Subscripts[i].Const),false⟩:=Hw (t:=0) (by omega) (by omega);simp only [aZ.s4,jY hi,aS,jc hi,ag,hw2,jc hi2];rw [q1];simp only [ag];have hl:∀ K:Int,gB (aZ.s5 p B ((i:Int),c)) (0,K,false,CP W 0 1 A.Subscripts[i].Coefs)=some (K,false,A.Subscripts[i].Coefs.map (fun c=>w (1 * c))++B.Subscripts[i].Coefs.map (fun c=>w (-1 * c))):=by
  intro K;rw [ng (ρ:=Empty) (step:=aZ.s5 p B ((i:Int),c)) B.Subscripts[i].Coefs (fun j (b:List Int)=>(j,K,false,b)) (fun e=>e.elim) (fun b=>(K,false,b)) (fun i b x => .inr (b.set (p.length+i) ((fun o x=>w (o+w (0 - x))) (b.getD (p.length+i) 0) x))) (fun _ b=>b.length=W) (a:=CP W 0 1 A.Subscripts[i].Coefs) rfl ?_ ?_ (Em (by omega)) (by omega)]
  ·have e:CP W 0 1 A.Subscripts[i].Coefs=A.Subscripts[i].Coefs.map (fun c=>w (1 * c))++(List.replicate B.Subscripts[i].Coefs.length 0++[]):=by
    unfold CP;rw [show W - 0 - A.Subscripts[i].Coefs.length=B.Subscripts[i].Coefs.length by omega];simp
   rw [e,Eu (g:=fun o x=>w (o+w (0 - x))) p.length B.Subscripts[i].Coefs 0 (A.Subscripts[i].Coefs.map (fun c=>w (1 * c))) (List.replicate B.Subscripts[i].Coefs.length 0) [] (by simp;omega) (by simp),wE];simp only [lY];have:B.Subscripts[i].Coefs.map (fun x=>w (0+w (0 - x)))=B.Subscripts[i].Coefs.map (fun c=>w (-1 * c)):=by
    refine List.map_congr_left (fun y hy=>?_);have:=c2 y hy;rw [yT (n:=0 - y) (by omega) (by omega)]
    congr 1
    omega
   rw [this]
  ·intro j hj b' hb';have hj2:j < p.length:=by omega
   have hw:w ((p.length:Int)+(j:Int))=((p.length+j:Nat):Int):=by rw [yT (by omega) (by omega)];omega
   constructor
   ·simp only [aZ.s5,jY hj2,aS,jc hi2,ag,jc hj,hw];rw [F8 (by omega)];simp only [ag];rw [wn (by omega)]
   ·intro b'' hb'';cases hb'';simpa using hb'
  ·intro b' _;have hlt:¬ ((B.Subscripts[i].Coefs.length:Int) < (p.length:Int)):=by omega
   simp only [aZ.s5,hlt,aI]
 rw [hl];simp only [ag];rw [Om (by simp;omega)];simp only [ag];rw [wn (by omega)];unfold eqF;rw [ax hi,ax hi2];simp only [eqR];rw [Int.one_mul,yT (n:=A.Subscripts[i].Const) (by omega) (by omega),yT (n := -1 * B.Subscripts[i].Const) (by omega) (by omega)];rw [show A.Subscripts[i].Const + -1 * B.Subscripts[i].Const=A.Subscripts[i].Const - B.Subscripts[i].Const by omega]
end
def sgF (S:List Int) (W d:Nat) (i:Nat) (b:List ae):List ae:=match S[i]? with
 | some s=>b++[⟨((zr W).set i (if s = -1 then 1 else -1)).set (d+i) (if s = -1 then -1 else 1),if s=0 then 0 else -1,s==0⟩]
 | none=>b
theorem Sr {S:List Int} {W d n i:Nat} {b:List ae} (h:Rw W n b):Rw W (n+1) (sgF S W d i b):=by
 unfold sgF;split
 ·exact h.snoc (by simp [Gg])
 ·exact h.mono (by omega)
theorem VV {xs:List Int} {i j:Nat} (h:i≠j) (a b c e:Int):(((xs.set i a).set j b).set i c).set j e=(xs.set i c).set j e:=by
 rw [List.set_comm b c h.symm,List.set_set,List.set_set]
theorem Mc {p:List au} {x:aT} (hd:p.length≤3) (h0:0 < p.length) (hS:x.Signs.length=p.length) {W:Nat} (hW:W=2 * p.length) {n:Nat} (hn:n≤100) {b:List ae} (hr:Rw W n b) :
  gB (bT.s3 p x) (0,b)=some (itN (sgF x.Signs W p.length) p.length b)∧Rw W (n+p.length) (itN (sgF x.Signs W p.length) p.length b):=by
 have hw2:w (2 * (p.length:Int))=(W:Int):=by rw [yT (by omega) (by omega)];omega
 refine yu (step:=bT.s3 p x) p.length (fun i (b:List ae)=>(i,b)) (fun b=>b) (sgF x.Signs W p.length) (fun i b=>Rw W (n+i) b) (a:=b) rfl (fun i hi c hc=>?_) (fun c _=>?_) hr (by omega)
 ·have hc1:=hc.1;have hi2:i < x.Signs.length:=by omega
  refine ⟨?_,Sr hc⟩;have hz:=Gg W;have hw:w ((p.length:Int)+(i:Int))=((p.length+i:Nat):Int):=by rw [yT (by omega) (by omega)];omega
  simp only [bT.s3,jY hi2,aS,jc hi2,ag,hw2];rw [F6 (by omega)];simp only [ag,hw];rw [jc (i:=i) (xs:=zr W) (by omega)];simp only [ag,Int.toNat_natCast];rw [jc (i:=p.length+i) (xs:=(zr W).set i (-1)) (by simp;omega)];simp only [ag];unfold sgF;rw [ax hi2];generalize x.Signs[i]=s;by_cases s0:s=0
  ·subst s0;rw [if_pos rfl,DN (by omega)];simp only [ag];rw [wn (by omega)];rfl
  ·rw [if_neg s0];by_cases s1:s = -1
   ·subst s1;rw [if_pos rfl,jc (i:=i) (by simp;omega)];simp only [ag];rw [jc (i:=p.length+i) (by simp;omega)];simp only [ag];rw [DN (by omega)];simp only [ag];rw [wn (by omega),VV (by omega)];rfl
   ·rw [if_neg s1,DN (by omega)];simp only [ag];rw [wn (by omega)];simp only [s0,s1,aI]
 ·have:((p.length:Int) < (x.Signs.length:Int))=False:=eq_false (by omega);simp only [bT.s3,this,aI]
theorem Gx {p:List au} {x:aT} (hd:p.length≤3) (h0:0 < p.length) (hS:x.Signs.length=p.length) (hs:∀ s,s∈x.Signs→s = -1∨s=0∨s=1) {W:Nat} (hW:W=2 * p.length) {n:Nat} (hn:n≤100) {b:List ae} (hr:Rw W n b) :
  gB (aZ.s6 p x) (0,b)=some (itN (sgF x.Signs W p.length) p.length b):=by
 have hw2:w (2 * (p.length:Int))=(W:Int):=by rw [yT (by omega) (by omega)];omega
 refine (yu (step:=aZ.s6 p x) p.length (fun i (b:List ae)=>(i,b)) (fun b=>b) (sgF x.Signs W p.length) (fun i b=>Rw W (n+i) b) (a:=b) rfl (fun i hi c hc=>?_) (fun c _=>by simp only [aZ.s6,eP,aI]) hr (by omega)).1;have hc1:=hc.1;have hi2:i < x.Signs.length:=by omega
 refine ⟨?_,Sr hc⟩;have hz:=Gg W;have hw:w ((p.length:Int)+(i:Int))=((p.length+i:Nat):Int):=by rw [yT (by omega) (by omega)];omega
 have hs2:=hs _ (dM hi2);have hj:∀ (s a:Int),(-1≤s∧s≤1)→(a=1∨a = -1)→aZ.j7 p ((i:Int),c) s a=some (.inl (((i+1:Nat):Int),c++[⟨((zr W).set i (-a)).set (p.length+i) a,if s=0 then 0 else -1,s==0⟩])):=by
  intro s a h1 h2;unfold aZ.j7;simp only [hw2,hw];rw [row_zero (by omega)];simp only [ag];rw [MB (by omega) (by omega) (by omega)];simp only [ag];rw [F8 (by simp;omega)];simp only [ag];rw [vw (by omega)];simp only [ag];rw [wn (by omega)];have e1:((zr W).set (p.length+i) a).getD i 0=0:=by
   rw [jA,List.getElem?_set_ne (by omega),← jA];exact Kq W i
  rw [e1,Int.zero_add,yT (n:=0 - a) (by omega) (by omega),yT (n:=0 - a) (by omega) (by omega),List.set_comm _ _ (by omega),Int.zero_sub];have e2:w (1 * w (0 - ui s))=if s=0 then 0 else -1:=by
   have:s = -1∨s=0∨s=1:=by omega
   have w1:w 1=1:=yT (by omega) (by omega);have w0:w 0=0:=yT (by omega) (by omega);have wm:w (-1) = -1:=yT (by omega) (by omega);rcases this with rfl | rfl | rfl<;>simp [ui,w1,w0,wm]
  rw [e2]
 simp only [aZ.s6,jY hi,aS,jc hi2,ag];unfold sgF;rw [ax hi2];generalize x.Signs[i]=s at hs2;rcases hs2 with rfl | rfl | rfl
 ·rw [if_pos (by omega),hj _ _ (by omega) (by omega)];rfl
 ·rw [if_neg (by omega),hj _ _ (by omega) (by omega)];rfl
 ·rw [if_neg (by omega),hj _ _ (by omega) (by omega)];rfl
theorem Nq {v:Int} {b:List ae} {W n:Nat} (h:Rw W n b) (hn:n < 16777216) (hW:W < 16777216):iO ⟨v,b⟩ ⟨v,b⟩=some true:=by
 have h1:=h.1;unfold iO;rw [if_neg (by simp)];rw [qL (step:=iO.s1 ⟨v,b⟩ ⟨v,b⟩) b (fun _=>(none:Option Bool)) (fun c=>Sum.inr c) (Sum.inl ()) rfl ?_ ?_ (by omega)]
 ·have:b.findSome? (fun _=>(none:Option Bool))=none:=by simp
  rw [this];rfl
 ·intro i hi;have h2:=h.2 _ (dM hi);simp only [iO.s1,jY hi,aS,jc hi,ag];rw [Tm (by omega) (by omega)];simp only [ag,beq_self_eq_true,iT,aI,bne_self_eq_false,aN];rw [wn (by omega)]
 ·simp only [iO.s1,eP,aI]
theorem Qy {p:List au} (h:(cnR p).2=0):∀ x,x∈hls p → -1000≤x.Low∧x.Low≤1000 ∧ -1000≤x.High∧x.High≤1000:=by
 unfold cnR at h;split at h
 ·cases h
 split at h
 ·cases h
 split at h
 ·rename_i r hf
  exact absurd h (QE p 0 r hf)
 ·split at h
  ·cases h
  rename_i hb
  intro x hx;have hb2:(hls p).any Nv=false:=by simpa using hb
  have:=List.any_eq_false.1 hb2 x hx;unfold Nv at this;simp only [jl,Bool.not_eq_true',not_or,Bool.not_eq_false] at this;have i1:=xu.1 this.1;have i2:=xu.1 this.2;omega
theorem SH {p:List au} {l:List ai} {x:aT} (h:RI p l x=0):∃ (A B:ai),at_ l x.From=some A∧at_ l x.To=some B∧VN p∧0 < p.length∧Sub A p.length∧Sub B p.length∧A.Subscripts.length=B.Subscripts.length∧x.Signs.length=p.length∧(∀ s,s∈x.Signs→s = -1∨s=0∨s=1)∧(cnR p).2=0:=by
 unfold RI at h;split at h
 case isFalse hne=>exact absurd h hne
 rename_i hp
 obtain ⟨i,k,hi,hk,e1,e2,vn,h0,_⟩:=Tv hp;have hp2:=hp;unfold pe at hp2;split at hp2
 case isFalse hne=>exact absurd hp2 hne
 rename_i hcb
 obtain ⟨hc,hl,hacc⟩:=RJ hcb;have a1:at_ l x.From=some l[i]:=by rw [e1];exact jc hi
 have a2:at_ l x.To=some l[k]:=by rw [e2];exact jc hk
 have b1:l[x.From.toNat]?=some l[i]:=by rw [e1];simp [hi]
 have b2:l[x.To.toNat]?=some l[k]:=by rw [e2];simp [hk]
 rw [b1,b2] at h;simp only at h;by_cases h1:ig l[i] l[k]=true
 case neg=>rw [if_neg h1] at h;cases h
 rw [if_pos h1] at h;by_cases h2:(x.Signs.length:Int)=(p.length:Int)
 case neg=>rw [if_neg h2] at h;cases h
 rw [if_pos h2] at h;by_cases h3:x.Signs.all (fun z=>aB z (-1) 1)=true
 case neg=>rw [if_neg h3] at h;cases h
 obtain ⟨s1,s2⟩:=MC (hacc _ (dM hi));obtain ⟨s3,s4⟩:=MC (hacc _ (dM hk));refine ⟨l[i],l[k],a1,a2,vn,h0,⟨s1,s2⟩,⟨s3,s4⟩,?_,by omega,fun s hs=>?_,hc⟩
 ·unfold ig at h1;simp only [bF,beq_iff_eq] at h1;have:=h1.1.2;omega
 ·have:=xu.1 (aW.1 h3 s hs);omega
theorem Og {p:List au} {l:List ai} (S:Sm p l) {x:aT} (hx:x.Signs.length < 16777216) (h:RI p l x=0):∃ (y:aK) (W n:Nat),bT p l x=some (y,0)∧aZ p l x=some y∧Rw W n y.Rows∧n < 16777216∧W < 16777216:=by
 obtain ⟨A,B,a1,a2,vn,h0,sA,sB,hAB,hS,hs,hc⟩:=SH h;have hd:=vn.len;have hW:(2 * p.length)=2 * p.length:=rfl;generalize hWd:2 * p.length=W at *
 have hW:W=2 * p.length:=hWd.symm;have hw2:w (2 * (p.length:Int))=(W:Int):=by rw [yT (by omega) (by omega)];omega
 have hlen:=LC p;have hA:=sA.n;obtain ⟨n1,r1⟩:=Pv vn (t:=0) (by omega) hW (n:=0) (by omega) (b:=[]) ⟨by simp,fun r hr=>by cases hr⟩;have m1:=Dy vn (t:=0) (by omega) hW (n:=0) (by omega) (b:=[]) ⟨by simp,fun r hr=>by cases hr⟩ 0 (by omega) [];obtain ⟨n2,r2⟩:=Pv vn (t:=p.length) (by omega) hW (by omega) r1;have m2:=Dy vn (t:=p.length) (by omega) hW (by omega) r1 1 (by omega) (itN (vX p W 0) p.length []);obtain ⟨n3,r3⟩:=Fh (hs:=hls p) (W:=W) (by omega) (by omega) (t:=0) (.inl rfl) (by omega) r2;obtain ⟨n4,r4⟩:=Fh (hs:=hls p) (W:=W) (by omega) (by omega) (t:=(hls p).length) (.inr rfl) (by omega) r3;have m3:=Gw (hs:=hls p) hlen.symm (W:=W) (by omega) (by omega) (Qy hc) (by omega) r2;have e3:itN (BN (hls p) W) W (itN (vX p W p.length) p.length (itN (vX p W 0) p.length []))=itN (fun i=>BN (hls p) W ((hls p).length+i)) (hls p).length (itN (fun i=>BN (hls p) W (0+i)) (hls p).length (itN (vX p W p.length) p.length (itN (vX p W 0) p.length []))):=by
  rw [show itN (BN (hls p) W) W=itN (BN (hls p) W) ((hls p).length+(hls p).length) by rw [show W=(hls p).length+(hls p).length by omega],O7];simp only [gW]
 rw [e3] at m3;obtain ⟨n5,r5⟩:=TD (x:=x) (l:=l) hd sA sB hAB hW (by omega) r4 a2;have m5:=N7 hd sA sB hAB hW (by omega) r4;obtain ⟨n6,r6⟩:=Mc (x:=x) hd h0 hS hW (by omega) r5;have m6:=Gx (x:=x) hd h0 hS hs hW (by omega) r5;refine ⟨⟨(W:Int),_⟩,W,_,?_,?_,r6,by omega,by omega⟩
 ·unfold bT;rw [Jg S hx,h];simp only [ag,iT,aI,hw2];rw [show fV p 0 (W:Int) []=_ from n1];simp only [ag];rw [n2,MS vn];simp only [ag];rw [show fG (hls p) 0 (W:Int) _=_ from n3];simp only [ag];have hcast:((hls p).length:Int)=(p.length:Int):=by omega
  rw [hcast] at n4;rw [n4,a1];simp only [ag];rw [n5];simp only [ag];rw [n6];rfl
 ·unfold aZ;have hn2:gB (aZ.s1 p) (0,[])=some (itN (vX p W p.length) p.length (itN (vX p W 0) p.length [])):=by
   have:=(yu (step:=aZ.s1 p) 2 (fun i (b:List ae)=>(i,b)) (fun b=>b) (fun k=>itN (vX p W (k * p.length)) p.length) (fun i b=>b=itN (fun k=>itN (vX p W (k * p.length)) p.length) i []) (a:=[]) rfl (fun i hi c hc=>by
    refine ⟨?_,by rw [hc];exact (zN (fun k=>itN (vX p W (k * p.length)) p.length) i []).symm⟩;have hlt:((i:Int) < 2)=True:=eq_true (by omega);simp only [aZ.s1,hlt,aS];have e:i=0∨i=1:=by omega
    rcases e with rfl | rfl
    ·have hc':c=[]:=hc;subst hc';have m1':=Dy vn (t:=0) (by omega) hW (n:=0) (by omega) (b:=[]) ⟨by simp,fun r hr=>by cases hr⟩ 0 (by omega) [];rw [m1'];simp only [ag,Nat.zero_mul];rw [wn (by omega)]
    ·have hc':c=itN (vX p W 0) p.length []:=by rw [hc];simp [itN]
     subst hc';rw [m2];simp only [ag,kD];rw [wn (by omega)]) (fun c _=>by simp [aZ.s1]) rfl (by omega)).1
   rw [this];have e2:=zN (fun k=>itN (vX p W (k * p.length)) p.length) 1 [];have e1:=zN (fun k=>itN (vX p W (k * p.length)) p.length) 0 [];rw [gW] at e1;rw [show (2:Nat)=1+1 from rfl,e2,e1];simp only [kD,Nat.zero_mul];rfl
  rw [hn2,FW vn];simp only [ag];rw [m3];simp only [ag,a1,a2];rw [m5];simp only [ag];rw [m6];simp only [ag,hw2];rfl
theorem Bh (p:List au) (l:List ai) (x:aT):oI p l x=some true:=by
 unfold oI;rw [Qs];simp only [ag,iT,aI];obtain ⟨r,hr,hf⟩:=QF p l;rw [hr];simp only [ag];by_cases ht:r=true
 case neg => 
  have:((!r) || (decide ((x.Signs.length:Int) > 10)))=true:=by simp [ht]
  rw [if_pos this]
 by_cases h10:(x.Signs.length:Int) > 10
 ·have:((!r) || (decide ((x.Signs.length:Int) > 10)))=true:=by simp [h10]
  rw [if_pos this]
 have:¬ ((!r) || (decide ((x.Signs.length:Int) > 10)))=true:=by simp [h10,ht]
 rw [if_neg this];have F:=hf ht;have hn:=F.n;have hm:=F.m;have S:Sm p l:=⟨by omega,by omega,fun x hx=>by have:=F.f x hx;omega,fun x hx=>⟨by have:=F.a x hx;omega,fun y hy=>by have:=(F.a x hx).2 y hy;omega⟩⟩
 have hcb:gm l=some l:=KW S.m (fun x hx=>⟨(S.a x hx).1,fun y hy=>by have:=(S.a x hx).2 y hy;omega⟩);have hcn:jq p=some p:=KX S.n (fun x hx=>by have:=S.f x hx;omega);have hxl:x.Signs.length < 16777216:=by omega
 rw [hcn];simp only [ag];rw [hcb];simp only [ag];rw [vz (by omega)];simp only [ag];have hxe:aT.mk x.From x.To x.Signs=x:=rfl;rw [hxe,JY S hxl];by_cases he:RI p l x=0
 ·obtain ⟨y,W,n,h1,h2,h3,h4,h5⟩:=Og S hxl he;rw [h1,h2];simp only [ag,he,iT,aI,aS];rw [Nq h3 h4 h5];rfl
 ·unfold bT;rw [Jg S hxl];simp only [ag,he,bQ,aS];rw [Nq (W:=0) (n:=0) ⟨by simp,fun r hr=>by cases hr⟩ (by omega) (by omega)];rfl
end Go.Sh
