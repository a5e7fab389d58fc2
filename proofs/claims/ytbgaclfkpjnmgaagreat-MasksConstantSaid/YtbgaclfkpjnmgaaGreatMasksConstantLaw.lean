/- What the functions compute answers as the statement says. -/
import Derived.Test.YtbgaclfkpjnmgaaGreatMasksConstantSh
set_option linter.all false
namespace Go.Sh
open Go.Lx
set_option linter.unusedVariables false
set_option linter.unusedSimpArgs false
theorem eU {i n:Nat} (h:i < n):((i:Int) < (n:Int))=True:=eq_true (by omega)
theorem bu (n:Nat):((n:Int) < (n:Int))=False:=eq_false (by omega)
theorem Ho {p:List aj} (h:p.length≤16777216):kS p=some p:=by
 unfold kS;rw [Gn h];rfl
theorem sZ {p:List Int} (h:p.length≤16777216):jI p=some p:=by
 unfold jI;rw [Ro h];simp [Ns]
theorem FB {p:List aj} (h:p.length < 16777216):fJ p=some (p.map aH):=by
 unfold fJ;rw [qm p aH (fun i b=>(i,b)) (fun b=>b) rfl ?_ ?_ (by omega)]
 ·rfl
 ·intro i hi b hb;simp only [fJ.s1,eU hi,if_true,fD hi,Option.bind_some];rw [iQ (by omega),wn (by omega)];rfl
 ·intro b;simp only [fJ.s1,bu,if_false]
theorem yG {p:List aj} (h:p.length < 16777216):fO p=some (p.map aH):=by
 unfold fO;rw [qm p aH (fun i b=>(i,b)) (fun b=>b) rfl ?_ ?_ (by omega)]
 ·rfl
 ·intro i hi b hb;simp only [fO.s1,eU hi,if_true,fD hi,Option.bind_some];rw [iQ (by omega),wn (by omega)];rfl
 ·intro b;simp only [fO.s1,bu,if_false]
theorem PD (p:List Int) (v:Int) (h:p.length < 16777216):∃ k:Nat,slices_Index_int p v=some (if p.any (fun x=>v==x)=true then (k:Int) else -1):=by
 unfold slices_Index_int;obtain ⟨k,hk⟩:=wJ (step:=slices_Index_int.s1 p v) p (fun x=>v==x) (fun i=>Sum.inr i) (Sum.inl ()) (s:=0) rfl (fun i hi=>by
  simp only [slices_Index_int.s1,eU hi,if_true,fD hi,Option.bind_some];by_cases e:v=p[i]
  ·simp [e]
  ·simp only [e,if_false,beq_iff_eq];rw [wn (by omega)]) (by simp only [slices_Index_int.s1,bu,if_false]) (by omega)
 refine ⟨k,?_⟩;rw [hk];by_cases e:p.any (fun x=>v==x)=true
 ·rw [if_pos e,if_pos e];rfl
 ·rw [if_neg e,if_neg e];rfl
theorem KL {p:List Int} {v:Int} (h:p.length < 16777216):slices_Contains_int p v=some (p.any (fun x=>v==x)):=by
 unfold slices_Contains_int;obtain ⟨k,hk⟩:=PD p v h;rw [hk];by_cases e:p.any (fun x=>v==x)=true
 ·rw [if_pos e,e];simp
 ·rw [if_neg e,eq_false_of_ne_true e];rfl
def U7 (xs:List Int):Int:=xs.foldl (fun a x=>mn (w (a * mn x 513)) 513) 1
def iC (xs:List Int):Int:=if xs.any (fun x=>0==x)=true then 0 else U7 xs
theorem Fb {p:List Int} (h:p.length < 16777216):fK p=some (iC p):=by
 unfold fK;rw [kU (step:=fK.s1 p) p (fun i b=>(b,i)) (fun b=>b) (fun a x=>mn (w (a * mn x 513)) 513) (fun _ _=>True) (a:=1) rfl ?_ ?_ trivial (by omega)]
 ·simp only [Option.bind_some,KL h];unfold iC U7;split<;>rfl
 ·intro i hi b _;refine ⟨?_,trivial⟩;simp only [fK.s1,eU hi,if_true,fD hi,Option.bind_some];rw [wn (by omega)]
 ·intro b _;simp only [fK.s1,bu,if_false]
theorem Jk:∀ (xs:List Int) (i:Nat) (a:Int),dJ (ρ:=Unit) (fun _ (b:Int) x=>if x=0 then .inl () else .inr (mn (w (b * mn x 513)) 513)) i xs a=(if xs.any (fun x=>0==x)=true then .inl () else .inr (xs.foldl (fun a x=>mn (w (a * mn x 513)) 513) a))
 | [],i,a=>rfl
 | x::xs,i,a=>by
  simp only [dJ,List.any_cons,List.foldl_cons];by_cases e:x=0
  ·subst e;simp
  ·have e':(0==x)=false:=by simp;exact fun q=>e q.symm
   simp only [e,if_false,e',Bool.false_or];exact Jk xs (i+1) _
theorem sV {p:List Int} (h:p.length < 16777216):fP p=some (iC p):=by
 unfold fP;rw [iI (step:=fP.s1 p) p (fun i b=>(b,i)) (fun (_:Unit)=>Sum.inr 0) (fun b=>Sum.inl b) (fun _ (b:Int) x=>if x=0 then .inl () else .inr (mn (w (b * mn x 513)) 513)) (fun _ _=>True) (a:=1) rfl ?_ ?_ trivial (by omega)]
 ·rw [Jk];unfold iC U7;by_cases e:p.any (fun x=>0==x)=true
  ·simp only [e,if_true];rfl
  ·simp only [e,if_false];rfl
 ·intro i hi b _;refine ⟨?_,fun _ _=>trivial⟩;simp only [fP.s1,eU hi,if_true,fD hi,Option.bind_some];by_cases e:p[i]=0
  ·simp only [e,if_true]
  ·simp only [e,if_false];rw [wn (by omega)]
 ·intro b _;simp only [fP.s1,bu,if_false]
def num (b:aj):Bool:=aJ b.Low&&aJ b.High
def GV (p:List aj):Int:=if (p.length:Int) > 7 then 32 else if p.any (fun b=>!num b)=true then 2 else if p.any (fun b=>decide (aH b > 512))=true then 8 else if iC (p.map aH) > 512 then 8 else 0
theorem yJ (a b c:Int):bV a b c=aI a b c:=by
 unfold bV aI;simp only [Bool.not_or,← decide_not]
 congr 1<;>exact decide_eq_decide.2 (by omega)
theorem pF {α ρ:Type} {p:α→Bool} {c:ρ}:∀ xs:List α,xs.findSome? (fun x=>if p x=true then some c else none)=if xs.any p=true then some c else none
 | []=>rfl
 | x::xs=>by
  simp only [List.findSome?_cons,List.any_cons];by_cases e:p x=true
  ·simp [e]
  ·simp only [e,if_false,Bool.false_or];exact pF xs
theorem NZ (b:Bool) (c:Int):dF [aA.mk b c]=some (if b=true then 0 else c):=by
 unfold dF;rw [jy (step:=dF.s1 [aA.mk b c]) [aA.mk b c] (fun r=>if r.holds=true then none else some r.code) (fun c=>Sum.inr c) (Sum.inl ()) rfl ?_ ?_ (by simp)]
 ·cases b<;>rfl
 ·intro i hi;simp only [dF.s1,eU hi,if_true,fD hi,Option.bind_some];have:i=0:=by simpa using hi
  subst this;cases b<;>simp [w,IntKind.wrap]<;>rfl
 ·rfl
theorem Ol (p:List aj) (h:p.length < 16777216):bU p=some (p.any (fun b=>!num b)):=by
 unfold bU aP;obtain ⟨k,hk⟩:=wJ (step:=aP.s1 p) p (fun b=>!num b) (fun i=>Sum.inr i) (Sum.inl ()) (s:=0) rfl (fun i hi=>by
  simp only [aP.s1,eU hi,if_true,fD hi,Option.bind_some];have:iL p[i]=!num p[i]:=by unfold iL num;simp
  rw [this,wn (by omega)];split<;>rfl) (by simp only [aP.s1,bu,if_false]) (by omega)
 rw [hk];by_cases e:p.any (fun b=>!num b)=true
 ·rw [if_pos e,e];simp
 ·rw [if_neg e,eq_false_of_ne_true e];rfl
theorem N8 (p:List aj) (h:p.length < 16777216):bT p=some (p.any (fun b=>decide (aH b > 512))):=by
 unfold bT aQ;obtain ⟨k,hk⟩:=wJ (step:=aQ.s1 p) p (fun b=>decide (aH b > 512)) (fun i=>Sum.inr i) (Sum.inl ()) (s:=0) rfl (fun i hi=>by
  simp only [aQ.s1,eU hi,if_true,fD hi,Option.bind_some];unfold jq;rw [wn (by omega)];split<;>rfl) (by simp only [aQ.s1,bu,if_false]) (by omega)
 rw [hk];by_cases e:p.any (fun b=>decide (aH b > 512))=true
 ·rw [if_pos e,e];simp
 ·rw [if_neg e,eq_false_of_ne_true e];rfl
theorem size_eq {p:List aj} (h:p.length < 16777216):oU p=some (iC (p.map aH)):=by
 unfold oU;rw [FB h];simp only [Option.bind_some];rw [Fb (by simpa using h)];rfl
theorem AL (p:List aj):jF p=some (GV p):=by
 unfold jF GV;by_cases h7:(p.length:Int) > 7
 ·simp only [h7,if_true]
 ·have h:p.length < 16777216:=by omega
  simp only [h7,if_false,Ol p h,N8 p h,size_eq h,NZ,Option.bind_some];by_cases e1:p.any (fun b=>!num b)=true
  ·simp only [e1,if_true]
  ·simp only [e1,if_false];by_cases e2:p.any (fun b=>decide (aH b > 512))=true
   ·simp [e2]
   ·simp only [e2,if_false];by_cases e3:iC (p.map aH) > 512
    ·have:¬ iC (p.map aH)≤512:=by omega
     simp [e3,this]
    ·have:iC (p.map aH)≤512:=by omega
     simp [e3,this]
theorem vk (p:List aj):dm p=some (GV p):=by
 unfold dm GV;by_cases h7:(p.length:Int) > 7
 ·simp only [h7,if_true]
 ·have h:p.length < 16777216:=by omega
  simp only [h7,if_false,yG h,Option.bind_some];rw [jy (step:=dm.s1 p) p (fun b=>if (!num b)=true then some (2:Int) else none) (fun c=>Sum.inr c) (Sum.inl ()) rfl ?_ ?_ (by omega),pF]
  ·by_cases e1:p.any (fun b=>!num b)=true
   ·simp only [e1,if_true,Option.bind_some]
   ·simp only [e1,if_false,Option.bind_some];rw [jy (step:=dm.s2 (p.map aH)) (p.map aH) (fun x=>if (decide (x > 512))=true then some (8:Int) else none) (fun c=>Sum.inr c) (Sum.inl ()) rfl ?_ ?_ (by simp;omega),pF,List.any_map]
    ·by_cases e2:p.any (fun b=>decide (aH b > 512))=true
     ·have e2':p.any ((fun x=>decide (x > 512)) ∘ aH)=true:=e2;simp only [e2,e2',if_true,Option.bind_some,Bool.false_eq_true,if_false]
     ·have e2':¬ p.any ((fun x=>decide (x > 512)) ∘ aH)=true:=e2;simp only [e2,e2',if_false,Option.bind_some,Bool.false_eq_true];rw [sV (by simpa using h)];simp only [Option.bind_some];split<;>rfl
    ·intro i hi;simp only [dm.s2,eU hi,if_true,fD hi,Option.bind_some];by_cases e:(p.map aH)[i] > 512
     ·simp only [e,if_true,decide_true]
     ·simp only [e,if_false,decide_false,Bool.false_eq_true];rw [wn (by simp at hi;omega)]
    ·simp only [dm.s2,bu,if_false]
  ·intro i hi;simp only [dm.s1,eU hi,if_true,fD hi,Option.bind_some,bJ,yJ,num,aJ];rw [wn (by omega)];by_cases e1:aI p[i].Low (-2147483647) 2147483647=true
   ·by_cases e2:aI p[i].High (-2147483647) 2147483647=true
    ·simp [e1,e2]
    ·simp [e1,e2]
   ·simp [e1]
  ·simp only [dm.s1,bu,if_false]
set_option linter.unusedVariables false
set_option linter.unusedSimpArgs false
theorem Jm:∀ (n:Nat) (a b:List Int),a.length < n→n≤16777217→b.length < 16777216→∃ r,bW.N n a b=some r∧(r=true→a≠b)
 | 0,a,b,h,_,_=>absurd h (Nat.not_lt_zero _)
 | n+1,a,b,h,hn,hb=>by
  show ∃ r,bW.F (bW.N n) a b=some r∧_
  unfold bW.F
  match a,b with
  | [],b=>exact ⟨_,rfl,fun h=>by simp at h;intro q;subst q;simp at h⟩
  | x::a,[]=>exact ⟨_,rfl,fun h=>by simp at h;omega⟩
  | x::a,y::b =>
   have e0:¬ ((((x::a).length:Int)==0) || (((y::b).length:Int)==0))=true:=by simp;omega
   have c1:cut (x::a) 1 ((x::a).length:Int)=some a:=by unfold cut;rw [if_pos (by simp;omega)];simp
   have c2:cut (y::b) 1 ((y::b).length:Int)=some b:=by unfold cut;rw [if_pos (by simp;omega)];simp
   have a1:at_ (x::a) 0=some x:=rfl;have a2:at_ (y::b) 0=some y:=rfl;rw [if_neg e0];simp only [a1,a2,Option.bind_some];by_cases h1:x < y
   ·exact ⟨true,by simp [h1],fun _ q=>by simp at q;omega⟩
   ·by_cases h2:x=y
    ·obtain ⟨r,h3,h4⟩:=Jm n a b (by simp at h;omega) (by omega) (by simp at hb;omega);refine ⟨r,?_,fun hr q=>h4 hr (by simp at q;exact q.2)⟩;subst h2;rw [if_neg h1,if_pos rfl,c1,c2];simp only [Option.bind_some,h3]
    ·exact ⟨false,by simp [h1,h2],fun q=>by cases q⟩
theorem Fp:∀ (n m:Nat) (a b:List Int),bW.N n a b=some false→bW.N m b a=some false→a.length=b.length→a=b
 | 0,m,a,b,h,_,_=>by cases h
 | n+1,0,a,b,_,h,_=>by cases h
 | n+1,m+1,a,b,h,k,hl=>by
  change bW.F (bW.N n) a b=some false at h;change bW.F (bW.N m) b a=some false at k;unfold bW.F at h k
  match a,b,hl with
  | [],[],_=>rfl
  | x::a,y::b,hl =>
   have e0:¬ ((((x::a).length:Int)==0) || (((y::b).length:Int)==0))=true:=by simp;omega
   have e1:¬ ((((y::b).length:Int)==0) || (((x::a).length:Int)==0))=true:=by simp;omega
   have c1:cut (x::a) 1 ((x::a).length:Int)=some a:=by unfold cut;rw [if_pos (by simp;omega)];simp
   have c2:cut (y::b) 1 ((y::b).length:Int)=some b:=by unfold cut;rw [if_pos (by simp;omega)];simp
   have a1:at_ (x::a) 0=some x:=rfl;have a2:at_ (y::b) 0=some y:=rfl;rw [if_neg e0] at h;rw [if_neg e1] at k;simp only [a1,a2,Option.bind_some,c1,c2] at h k;by_cases h1:x < y
   ·simp [h1] at h
   ·by_cases h2:y < x
    ·simp [h2] at k
    ·have h3:x=y:=by omega
     subst h3;simp only [h1,if_false,if_true] at h k;obtain ⟨r,hr,h⟩:=Option.bind_eq_some_iff.1 h;obtain ⟨r',hr',k⟩:=Option.bind_eq_some_iff.1 k;cases h;cases k;rw [Fp n m a b hr hr' (by simpa using hl)]
theorem Jw {a b:List Int} (ha:a.length < 16777216) (hb:b.length < 16777216):lG a b=some (a==b):=by
 unfold lG;have hF:(16777217:Nat)≤FUEL:=by unfold FUEL;omega
 have step:∀ (n:Nat) (a b:List Int) (r:Bool),bW.N n a b=some r→bW.N (n+1) a b=some r:=by
  intro n
  induction n with
  | zero=>intro a b r h;cases h
  | succ n ih =>
   intro a b r h;change bW.F (bW.N n) a b=some r at h
   show bW.F (bW.N (n+1)) a b=some r
   unfold bW.F at h ⊢;split
   ·rename_i hc;rw [if_pos hc] at h;exact h
   ·rename_i hc
    rw [if_neg hc] at h;obtain ⟨x4,h4,h⟩:=Option.bind_eq_some_iff.1 h;obtain ⟨x5,h5,h⟩:=Option.bind_eq_some_iff.1 h;rw [h4,h5];simp only [Option.bind_some];split
    ·rename_i hd;rw [if_pos hd] at h;exact h
    ·rename_i hd
     rw [if_neg hd] at h;rw [h4,h5] at h;simp only [Option.bind_some] at h ⊢;split
     ·rename_i he
      rw [if_pos he] at h;obtain ⟨x6,h6,h⟩:=Option.bind_eq_some_iff.1 h;obtain ⟨x7,h7,h⟩:=Option.bind_eq_some_iff.1 h;obtain ⟨x8,h8,h⟩:=Option.bind_eq_some_iff.1 h;rw [h6,h7];simp only [Option.bind_some];rw [ih _ _ _ h8];exact h
     ·rename_i he;rw [if_neg he] at h;exact h
 have up:∀ (n m:Nat) (a b:List Int) (r:Bool),n≤m→bW.N n a b=some r→bW.N m a b=some r:=by
  intro n m a b r hnm h
  induction hnm with
  | refl=>exact h
  | step _ ih=>exact step _ _ _ _ ih
 have get:∀ a b:List Int,a.length < 16777216→b.length < 16777216→∃ r,bW a b=some r∧(r=true→a≠b):=by
  intro a b ha hb;obtain ⟨r,h1,h2⟩:=Jm 16777217 a b (by omega) (Nat.le_refl _) hb;exact ⟨r,up _ _ _ _ _ hF h1,h2⟩
 by_cases hl:(a.length:Int)=(b.length:Int)
 ·rw [if_pos hl];obtain ⟨r,h1,h2⟩:=get a b ha hb;obtain ⟨r',h3,h4⟩:=get b a hb ha;rw [h1,h3];simp only [Option.bind_some];cases r with
  | true=>simp;exact h2 rfl
  | false =>
   cases r' with
   | true=>simp;exact fun q=>h4 rfl q.symm
   | false=>simp;exact Fp _ _ _ _ h1 h3 (by omega)
 ·rw [if_neg hl];have:a≠b:=fun q=>hl (by rw [q])
  simp [this]
set_option linter.unusedVariables false
set_option linter.unusedSimpArgs false
def P:List Int→Int
 | []=>1
 | x::xs=>x * P xs
def H:List Int→List Int→Int
 | e::es,d::ds=>d+e * H es ds
 | _,_=>0
def dig:List Int→Int→List Int
 | [],_=>[]
 | e::es,n=>n % e::dig es (n / e)
def inBase:List Int→List Int→Prop
 | e::es,d::ds=>0≤d∧d < e∧inBase es ds
 | [],[]=>True
 | _,_=>False
theorem ML:∀ {es:List Int},(∀ e,e∈es→1≤e)→1≤P es
 | [],_=>Int.le_refl 1
 | e::es,h=>by
  have h1:=h e (.head _);have h2:=ML (es:=es) fun x hx=>h x (.tail _ hx)
  have:=Int.mul_le_mul h1 h2 (by omega) (by omega);simpa [P] using this
theorem U4 {e:Int} {es:List Int} (h:∀ x,x∈e::es→1≤x):P es≤P (e::es):=by
 have h1:=h e (.head _);have h2:=ML (es:=es) fun x hx=>h x (.tail _ hx)
 have:=Int.mul_le_mul h1 (Int.le_refl (P es)) (by omega) (by omega);simpa [P] using this
theorem zG:∀ {es ds:List Int},inBase es ds→∀ e,e∈es→1≤e
 | [],_,_,e,h=>by cases h
 | e::es,[],h,_,_=>by cases h
 | e::es,d::ds,⟨h1,h2,h3⟩,x,hx=>by
  cases hx with
  | head=>omega
  | tail _ hx=>exact zG h3 x hx
theorem FY:∀ {es ds:List Int},inBase es ds→0≤H es ds∧H es ds < P es
 | [],[],_=>by simp [H,P]
 | [],_::_,h=>by cases h
 | e::es,[],h=>by cases h
 | e::es,d::ds,⟨h1,h2,h3⟩=>by
  obtain ⟨i1,i2⟩:=FY h3;have a1:0≤e * H es ds:=Int.mul_nonneg (by omega) i1;have a2:e * H es ds≤e * (P es - 1):=Int.mul_le_mul_of_nonneg_left (by omega) (by omega);rw [Int.mul_sub,Int.mul_one] at a2;simp only [H,P];omega
theorem TB:∀ {es:List Int} {n:Int},(∀ e,e∈es→1≤e)→0≤n→n < P es→inBase es (dig es n)∧H es (dig es n)=n
 | [],n,_,h1,h2=>by simp [P] at h2;simp [inBase,dig,H];omega
 | e::es,n,h,h1,h2=>by
  have he:=h e (.head _);have g1:0≤n / e:=Int.ediv_nonneg h1 (by omega);have g2:n / e < P es:=Int.ediv_lt_of_lt_mul (by omega) (by simp only [P] at h2;rw [Int.mul_comm];exact h2);obtain ⟨i1,i2⟩:=TB (es:=es) (fun x hx=>h x (.tail _ hx)) g1 g2;refine ⟨⟨Int.emod_nonneg _ (by omega),Int.emod_lt_of_pos _ (by omega),i1⟩,?_⟩;simp only [dig,H,i2];exact Int.emod_add_mul_ediv n e
theorem Pg:∀ (es:List Int) (n:Int),(dig es n).length=es.length
 | [],n=>rfl
 | e::es,n=>by simp [dig,Pg es]
theorem Oh:∀ {es:List Int},(∃ e,e∈es∧e=0)→P es=0
 | [],h=>by obtain ⟨e,h,_⟩:=h;cases h
 | e::es,h=>by
  obtain ⟨x,hx,rfl⟩:=h;cases hx with
  | head=>simp [P]
  | tail _ hx=>rw [P,Oh ⟨0,hx,rfl⟩];simp
theorem min_mul {a b m:Int} (ha:1≤a) (hb:1≤b) (hm:0≤m):min (min a m * b) m=min (a * b) m:=by
 rcases Int.le_total a m with h | h
 ·rw [Int.min_eq_left h]
 ·rw [Int.min_eq_right h];have h1:m * 1≤m * b:=Int.mul_le_mul_of_nonneg_left hb hm;have h2:m * b≤a * b:=Int.mul_le_mul_of_nonneg_right h (by omega);omega
theorem KI:∀ {xs:List Int} {a:Int},(∀ x,x∈xs→1≤x∧x≤512)→1≤a→a≤513→xs.foldl (fun a x=>mn (w (a * mn x 513)) 513) a=min (a * P xs) 513
 | [],a,_,h1,h2=>by simp [P];omega
 | x::xs,a,h,h1,h2=>by
  obtain ⟨g1,g2⟩:=h x (.head _);have m1:mn x 513=x:=by unfold mn;rw [if_neg (by omega)]
  have b1:1 * 1≤a * x:=Int.mul_le_mul h1 g1 (by omega) (by omega);have b2:a * x≤513 * 512:=Int.mul_le_mul h2 g2 (by omega) (by omega);have m2:mn (w (a * x)) 513=min (a * x) 513:=by
   rw [uI (by omega) (by omega)];unfold mn;split<;>omega
  rw [List.foldl_cons,m1,m2,KI (fun y hy=>h y (.tail _ hy)) (by omega) (by omega)];have hp:=ML (es:=xs) fun y hy=>(h y (.tail _ hy)).1
  rw [min_mul (by omega) hp (by omega),P,Int.mul_assoc]
structure Ok (p:List aj):Prop where
 len:p.length≤7
 num:∀ b,b∈p→num b=true
 big:∀ b,b∈p→aH b≤512
 pos:∀ b,b∈p→0≤aH b
 sz:iC (p.map aH)≤512
theorem NG (b:aj):0≤aH b:=by unfold aH mx;split<;>omega
theorem uX {p:List aj} (h:GV p=0):Ok p:=by
 unfold GV at h;split at h
 ·cases h
 split at h
 ·cases h
 split at h
 ·cases h
 split at h
 ·cases h
 rename_i h1 h2 h3 h4
 refine ⟨by omega,fun b hb=>?_,fun b hb=>?_,fun b _=>NG b,by omega⟩
 ·simp only [List.any_eq_true,not_exists,not_and,Bool.not_eq_true',Bool.not_eq_false] at h2;exact h2 b hb
 ·simp only [List.any_eq_true,not_exists,not_and,decide_eq_true_eq] at h3;have:=h3 b hb;omega
theorem Ij {b:aj} (h:num b=true) : -2147483647≤b.Low∧b.Low≤2147483647 ∧ -2147483647≤b.High∧b.High≤2147483647:=by
 simp [num,aJ,aI] at h;omega
theorem TS {b:aj} (h:num b=true):aH b=max 0 (b.High - b.Low+1):=by
 have:=Ij h;unfold aH mx;rw [uI (n:=b.High - b.Low) (by omega) (by omega),uI (by omega) (by omega)];split<;>omega
theorem J9 {xs:List Int} (h:∀ x,x∈xs→0≤x∧x≤512) (hs:iC xs≤512):iC xs=P xs∧0≤P xs:=by
 unfold iC at hs ⊢;by_cases h0:xs.any (fun x=>0==x)=true
 ·rw [if_pos h0];have:P xs=0:=Oh (by
   simp only [List.any_eq_true,beq_iff_eq] at h0;obtain ⟨x,h1,h2⟩:=h0;exact ⟨x,h1,h2.symm⟩)
  omega
 ·rw [if_neg h0] at hs ⊢;have hx:∀ x,x∈xs→1≤x∧x≤512:=fun x hx=>by
   obtain ⟨h1,h2⟩:=h x hx;simp only [List.any_eq_true,not_exists,not_and,beq_iff_eq] at h0;have:=h0 x hx;omega
  have:=KI (a:=1) hx (by omega) (by omega);unfold U7 at hs ⊢;have hp:=ML fun x hq=>(hx x hq).1
  omega
theorem Ok.size {p:List aj} (h:Ok p):iC (p.map aH)=P (p.map aH)∧0≤P (p.map aH)∧P (p.map aH)≤512:=by
 have:=J9 (xs:=p.map aH) (fun x hx=>by
  obtain ⟨b,hb,rfl⟩:=List.mem_map.1 hx;exact ⟨h.pos b hb,h.big b hb⟩) h.sz
 have hs:=h.sz;omega
def allIn:List aj→List Int→Bool
 | b::bs,x::xs=>aI x b.Low b.High&&allIn bs xs
 | _,_=>true
def QQ (bs:List aj) (xs:List Int):List Int:=(xs.zip bs).map fun p=>w (p.1 - p.2.Low)
def exs (bs:List aj):List Int:=bs.map aH
theorem Sl {b:aj} {bs:List aj}:exs (b::bs)=aH b::exs bs:=rfl
theorem PY {b:aj} {bs:List aj} {x:Int} {xs:List Int}:QQ (b::bs) (x::xs)=w (x - b.Low)::QQ bs xs:=rfl
theorem LU {b:aj} {x:Int} (hn:num b=true) (h:aI x b.Low b.High=true):w (x - b.Low)=x - b.Low∧0≤x - b.Low∧x - b.Low < aH b:=by
 have:=Ij hn;have he:=TS hn;simp [aI] at h;refine ⟨uI (by omega) (by omega),by omega,by omega⟩
theorem wG:∀ {bs:List aj} {xs:List Int},bs.length=xs.length→(∀ b,b∈bs→num b=true)→allIn bs xs=true→inBase (exs bs) (QQ bs xs)
 | [],[],_,_,_=>trivial
 | b::bs,x::xs,hl,hn,h=>by
  simp only [allIn,Bool.and_eq_true] at h;obtain ⟨h1,h2,h3⟩:=LU (hn b (.head _)) h.1;refine ⟨by show 0≤w (x - b.Low);rw [h1];exact h2,by show w (x - b.Low) < _;rw [h1];exact h3,wG (by simpa using hl) (fun c hc=>hn c (.tail _ hc)) h.2⟩
 | [],_::_,hl,_,_=>by cases hl
 | _::_,[],hl,_,_=>by cases hl
def str:Int→List Int→List Int
 | _,[]=>[]
 | s,e::es=>s::str (w (s * e)) es
theorem JO:∀ (es:List Int) (s:Int),(str s es).length=es.length
 | [],s=>rfl
 | e::es,s=>by simp [str,JO es]
theorem LP:∀ (es:List Int) (s:Int) (acc:List Int),(es.foldl (fun (b:Int×List Int) e=>(w (b.1 * e),b.2++[b.1])) (s,acc)).2=acc++str s es
 | [],s,acc=>by simp [str]
 | e::es,s,acc=>by rw [List.foldl_cons,LP es];simp [str]
theorem Nk {p:List Int} (h:p.length < 16777216):gp p=some (str 1 p):=by
 unfold gp;rw [kU (step:=gp.s1 p) p (fun i (b:Int×List Int)=>(b.1,i,b.2)) (fun b=>b.2) (fun b e=>(w (b.1 * e),b.2++[b.1])) (fun i b=>b.2.length=i) (a:=(1,[])) rfl ?_ ?_ rfl (by omega)]
 ·simp only [Option.bind_some];rw [LP];rfl
 ·intro i hi b hb;refine ⟨?_,by simp [hb]⟩;simp only [gp.s1,eU hi,if_true,fD hi,Option.bind_some];rw [iQ (by omega),wn (by omega)];rfl
 ·intro b _;simp only [gp.s1,bu,if_false]
def Q7 (_:Nat) (a:Int) (t:Int×aj×Int):Sum Unit Int:=if aI t.1 t.2.1.Low t.2.1.High=true then .inr (w (a+w (t.2.2 * w (t.1 - t.2.1.Low)))) else .inl ()
theorem L6:∀ (bs:List aj) (xs:List Int) (s a:Int) (i:Nat),bs.length=xs.length→(∀ b,b∈bs→num b=true) →
  (allIn bs xs=false→dJ Q7 i (xs.zip (bs.zip (str s (exs bs)))) a = .inl ()) ∧
  (allIn bs xs=true→1≤s→s * P (exs bs)≤512→0≤a→a+512 * bs.length≤5000→dJ Q7 i (xs.zip (bs.zip (str s (exs bs)))) a = .inr (a+s * H (exs bs) (QQ bs xs)))
 | [],[],s,a,i,_,_=>⟨fun h=>(by cases h),fun _ _ _ _ _=>by simp [dJ,exs,QQ,H]⟩
 | [],_::_,_,_,_,hl,_=>by cases hl
 | _::_,[],_,_,_,hl,_=>by cases hl
 | b::bs,x::xs,s,a,i,hl,hn=>by
  have ih:=fun s a=>L6 bs xs s a (i+1) (by simpa using hl) (fun c hc=>hn c (.tail _ hc))
  simp only [Sl,str,List.zip_cons_cons,dJ];by_cases hi:aI x b.Low b.High=true
  ·have hf:Q7 i a (x,b,s) = .inr (w (a+w (s * w (x - b.Low)))):=by unfold Q7;rw [if_pos hi]
   rw [hf];refine ⟨fun h=>(ih _ _).1 (by simpa [allIn,hi] using h),fun h h1 h2 h3 h4=>?_⟩;have ha:allIn bs xs=true:=by simpa [allIn,hi] using h
   obtain ⟨d1,d2,d3⟩:=LU (hn b (.head _)) hi;have hb:=wG (by simpa using hl) (fun c hc=>hn c (.tail _ hc)) ha;have hp:1≤P (exs bs):=ML (zG hb);have e0:s * P (aH b::exs bs)=s * aH b * P (exs bs):=by simp [P,Int.mul_assoc]
   have e1:1 * 1≤s * aH b:=Int.mul_le_mul h1 (by omega) (by omega) (by omega);have e2:s * aH b * 1≤s * aH b * P (exs bs):=Int.mul_le_mul_of_nonneg_left hp (by omega);have e3:s * (x - b.Low)≤s * aH b:=Int.mul_le_mul_of_nonneg_left (by omega) (by omega);have e4:0≤s * (x - b.Low):=Int.mul_nonneg (by omega) d2;rw [e0] at h2;simp only [List.length_cons] at h4;have w1:w (s * aH b)=s * aH b:=uI (by omega) (by omega);have w2:w (s * w (x - b.Low))=s * (x - b.Low):=by rw [d1];exact uI (by omega) (by omega)
   have w3:w (a+s * (x - b.Low))=a+s * (x - b.Low):=uI (by omega) (by omega);simp only [w1,w2,w3];have:=(ih (s * aH b) (a+s * (x - b.Low))).2 ha (by omega) h2 (by omega) (by omega);rw [this,PY,H,d1,Int.mul_add,← Int.mul_assoc,Int.add_assoc]
  ·have hf:Q7 i a (x,b,s) = .inl ():=by unfold Q7;rw [if_neg hi]
   rw [hf];exact ⟨fun _=>rfl,fun h=>by simp [allIn,hi] at h⟩
def VF (bs:List aj) (xs:List Int):Int:=if GV bs≠0 then GV bs else if (xs.length:Int)≠(bs.length:Int) then 32 else if allIn bs xs=true then 0 else 33
def off (bs:List aj) (xs:List Int):Int:=H (exs bs) (QQ bs xs)
set_option linter.unusedVariables false
set_option linter.unusedSimpArgs false
theorem JK {p:List aj} (h:p.length < 16777216):fJ p=some (exs p):=FB h
theorem wY {p:List aj} (h:p.length < 16777216):fO p=some (exs p):=yG h
theorem Ec:∀ {es ds:List Int},inBase es ds→P es≤512→(∀ e,e∈es→e≤512)→(es.zip ds).foldr (fun (t:Int×Int) b=>w (w (b * t.1)+t.2)) 0=H es ds
 | [],[],_,_,_=>rfl
 | [],_::_,h,_,_=>by cases h
 | _::_,[],h,_,_=>by cases h
 | e::es,d::ds,h,hp,hb=>by
  have hpos:=zG h;have ht:=U4 hpos;have hr:=FY h;obtain ⟨h1,h2,h3⟩:=h;have hq:=FY h3;rw [List.zip_cons_cons,List.foldr_cons,Ec h3 (by omega) (fun x hx=>hb x (.tail _ hx))];simp only [H] at hr ⊢;rw [Int.mul_comm e] at hr;have e0:0≤H es ds * e:=Int.mul_nonneg hq.1 (by omega);have e1:w (H es ds * e)=H es ds * e:=uI (by omega) (by omega);rw [e1,uI (by omega) (by omega),Int.mul_comm e];omega
theorem Kt {es ds:List Int} (h:inBase es ds) (hp:P es≤512) (hb:∀ e,e∈es→e≤512) (hl:es.length=ds.length) (hn:es.length < 16777216):jc es ds=some (H es ds):=by
 unfold jc;have hlen:(es.zip ds).reverse.length=es.length:=by simp;omega
 rw [kU (step:=jc.s1 es ds) (es.zip ds).reverse (fun i (b:Int)=>(b,(es.length:Int) - 1 - i)) (fun b=>b) (fun b (t:Int×Int)=>w (w (b * t.1)+t.2)) (fun _ _=>True) (a:=0) (by rw [uI (by omega) (by omega)];simp) ?_ ?_ trivial (by omega)]
 ·rw [List.foldl_reverse,Ec h hp hb];rfl
 ·intro i hi b _;refine ⟨?_,trivial⟩;rw [hlen] at hi;have c:((es.length:Int) - 1 - (i:Int))=((es.length - 1 - i:Nat):Int):=by omega
  have k:es.length - 1 - i < es.length:=by omega
  have k2:es.length - 1 - i < ds.length:=by omega
  simp only [jc.s1,c];rw [if_pos (by omega),fD k,fD k2];simp only [Option.bind_some];have hz:(es.zip ds).reverse[i]'(by omega)=(es[es.length - 1 - i],ds[es.length - 1 - i]):=by
   rw [List.getElem_reverse];simp only [List.getElem_zip,List.length_zip];have:min es.length ds.length - 1 - i=es.length - 1 - i:=by omega
   simp only [this]
  rw [hz];have e2:w (((es.length - 1 - i:Nat):Int) - 1)=(es.length:Int) - 1 - ((i+1:Nat):Int):=by rw [uI (by omega) (by omega)];omega
  rw [e2]
 ·intro b _;rw [hlen];simp only [jc.s1];rw [if_neg (by omega)]
theorem IC {bs:List aj} {xs:List Int} (h:VF bs xs=0):iV bs xs=some (off bs xs):=by
 unfold VF at h;split at h
 ·rename_i hb;exact absurd h hb
 rename_i hb
 split at h
 ·cases h
 rename_i hl
 split at h
 ·rename_i ha
  have ok:=uX (Classical.not_not.1 hb);have hl7:=ok.len;have hll:bs.length=xs.length:=by omega
  have hlen:(xs.zip bs).length=bs.length:=by simp;omega
  unfold iV;rw [qm (step:=iV.s1 bs xs) (xs.zip bs) (fun p=>w (p.1 - p.2.Low)) (fun i b=>(i,b)) (fun b=>b) rfl ?_ ?_ (by omega)]
  ·simp only [Option.bind_some];rw [wY (by omega)];simp only [Option.bind_some];have hsz:=ok.size
   show ((jc (exs bs) (QQ bs xs)).bind fun x8=>some x8)=_
   rw [Kt (es:=exs bs) (ds:=QQ bs xs) (wG hll ok.num ha) hsz.2.2 (fun e he=>by obtain ⟨b,hb,rfl⟩:=List.mem_map.1 he;exact ok.big b hb) (by simp [exs,QQ];omega) (by simp [exs];omega)];rfl
  ·intro i hi b hbl;rw [hlen] at hi;have h1:i < xs.length:=by omega
   simp only [iV.s1,eU hi,if_true,fD hi,fD h1,Option.bind_some,List.getElem_zip];rw [iQ (by omega),wn (by omega)];rfl
  ·intro b;rw [hlen];simp only [iV.s1,bu,if_false]
 ·cases h
theorem GI:∀ (es:List Int) (n:Int) (acc:List Int),(es.foldl (fun (b:Int×List Int) e=>(b.1 / e,b.2++[b.1 % e])) (n,acc)).2=acc++dig es n
 | [],n,acc=>by simp [dig]
 | e::es,n,acc=>by rw [List.foldl_cons,GI es];simp [dig]
theorem Tn {n e:Int} (hn:0≤n) (hb:n≤4611686018427387904) (he:1≤e):rem n e=some (n % e)∧quo .i64 n e=some (n / e)∧0≤n / e∧n / e≤n:=by
 have h0:¬ e=0:=by omega
 have h1:0≤n / e:=Int.ediv_nonneg hn (by omega);have h2:n / e≤n:=Int.ediv_le_self e hn;refine ⟨by unfold rem;rw [if_neg h0,Int.tmod_eq_emod_of_nonneg hn],?_,h1,h2⟩;unfold quo;rw [if_neg h0,Int.tdiv_eq_ediv_of_nonneg hn];exact congrArg some (uI (n:=n / e) (by omega) (by omega))
theorem Oi {es:List Int} {n:Int} (h:∀ e,e∈es→1≤e) (h0:0≤n) (hb:n≤4611686018427387904) (hl:es.length < 16777216):iq es n=some (dig es n):=by
 unfold iq;rw [kU (step:=iq.s1 es) es (fun i (b:Int×List Int)=>(b.1,i,b.2)) (fun b=>b.2) (fun b e=>(b.1 / e,b.2++[b.1 % e])) (fun i b=>b.2.length=i∧0≤b.1∧b.1≤4611686018427387904) (a:=(n,[])) rfl ?_ ?_ ⟨rfl,h0,hb⟩ (by omega)]
 ·simp only [Option.bind_some];rw [GI];rfl
 ·rintro i hi b ⟨k1,k2,k3⟩
  obtain ⟨d1,d2,d3,d4⟩:=Tn k2 k3 (h es[i] (List.getElem_mem hi));refine ⟨?_,by simp [k1],d3,by simp only;omega⟩;simp only [iq.s1,eU hi,if_true,fD hi,Option.bind_some,d1,d2];rw [iQ (by omega),wn (by omega)];rfl
 ·intro b _;simp only [iq.s1,bu,if_false]
theorem Hq {es:List Int} {n:Int} (h:∀ e,e∈es→1≤e) (h0:0≤n) (hb:n≤4611686018427387904) (hl:es.length < 16777216):ik es n=some (dig es n):=by
 unfold ik;rw [kU (step:=ik.s1 es) es (fun i (b:Int×List Int)=>(b.1,i,b.2)) (fun b=>b.2) (fun b e=>(b.1 / e,b.2++[b.1 % e])) (fun i b=>b.2.length=i∧0≤b.1∧b.1≤4611686018427387904) (a:=(n,[])) rfl ?_ ?_ ⟨rfl,h0,hb⟩ (by omega)]
 ·simp only [Option.bind_some];rw [GI];rfl
 ·rintro i hi b ⟨k1,k2,k3⟩
  obtain ⟨d1,d2,d3,d4⟩:=Tn k2 k3 (h es[i] (List.getElem_mem hi));refine ⟨?_,by simp [k1],d3,by simp only;omega⟩;simp only [ik.s1,eU hi,if_true,fD hi,Option.bind_some,d1,d2];rw [iQ (by omega)];simp only [Option.bind_some];rw [wn (by omega)]
 ·intro b _;simp only [ik.s1,bu,if_false]
set_option linter.unusedVariables false
set_option linter.unusedSimpArgs false
def RJ (xs:List Int):Sum Nat Unit:=dJ (fun i b x=>if bK x=true then .inr b else .inl i) 0 xs ()
def chk (a:ag):Int×Int :=
 if GV a.Bounds≠0 then (0,GV a.Bounds)
 else if (a.Elements.length:Int)≠iC (exs a.Bounds) then (0,10)
 else match RJ a.Elements with | .inl i=>((i:Int),2) | .inr _=>(0,0)
theorem I9 (x:Int):gZ x=bK x:=by unfold gZ bK;exact yJ _ _ _
theorem Gl {a:ag} (h:a.Elements.length < 16777216):kE a=some (chk a):=by
 unfold kE chk;rw [AL];simp only [Option.bind_some];by_cases hb:GV a.Bounds=0
 ·have hl7:=(uX hb).len;simp only [hb,not_true,if_false,ne_eq];rw [size_eq (by omega)];simp only [Option.bind_some];by_cases hl:(a.Elements.length:Int)=iC (exs a.Bounds)
  ·have hl':(a.Elements.length:Int)=iC (a.Bounds.map aH):=hl;simp only [hl',hl,not_true,if_false];unfold aV;rw [iI (step:=aV.s1 a.Elements) a.Elements (fun i (_:Unit)=>i) (fun k:Nat=>Sum.inr ((k:Int),2)) (fun _=>Sum.inl ()) (fun i b x=>if bK x=true then .inr b else .inl i) (fun _ _=>True) (a:=()) rfl ?_ ?_ trivial (by omega)]
   ·unfold RJ;cases dJ (fun i b x=>if bK x=true then Sum.inr b else Sum.inl i) 0 a.Elements ()<;>simp [hl,exs]
   ·intro i hi b _;refine ⟨?_,fun _ _=>trivial⟩;simp only [aV.s1,eU hi,if_true,fD hi,Option.bind_some,jS,NZ];by_cases hq:bK a.Elements[i]=true
    ·simp only [hq,if_true,not_true,if_false];rw [wn (by omega)]
    ·simp only [hq,if_false,Bool.false_eq_true];simp
   ·intro b _;simp only [aV.s1,bu,if_false]
  ·have hl':¬ (a.Elements.length:Int)=iC (a.Bounds.map aH):=hl;simp [hl',hl,exs]
 ·simp [hb]
theorem JM {a:ag} (h:a.Elements.length < 16777216):jA a=some (chk a):=by
 unfold jA chk;rw [vk];simp only [Option.bind_some];by_cases hb:GV a.Bounds=0
 ·have hl7:=(uX hb).len;simp only [hb,not_true,if_false,ne_eq];rw [wY (by omega)];simp only [Option.bind_some];rw [sV (by simp [exs];omega)];simp only [Option.bind_some];by_cases hl:(a.Elements.length:Int)=iC (exs a.Bounds)
  ·simp only [hl,not_true,if_false];rw [iI (step:=jA.s1 a) a.Elements (fun i (_:Unit)=>i) (fun k:Nat=>Sum.inr ((k:Int),2)) (fun _=>Sum.inl ()) (fun i b x=>if bK x=true then .inr b else .inl i) (fun _ _=>True) (a:=()) rfl ?_ ?_ trivial (by omega)]
   ·unfold RJ;cases dJ (fun i b x=>if bK x=true then Sum.inr b else Sum.inl i) 0 a.Elements ()<;>rfl
   ·intro i hi b _;refine ⟨?_,fun _ _=>trivial⟩;simp only [jA.s1,eU hi,if_true,fD hi,Option.bind_some,I9];by_cases hq:bK a.Elements[i]=true
    ·simp only [hq,if_true,not_true,if_false];rw [wn (by omega)]
    ·simp only [hq,if_false,Bool.false_eq_true,not_false_eq_true,if_true]
   ·intro b _;simp only [jA.s1,bu,if_false]
  ·simp [hl]
 ·simp [hb]
theorem O9 {a:ag} (h:a.Elements.length < 16777216):vJ a=some (chk a).2:=by
 unfold vJ;rw [JM h];rfl
theorem NR {a:ag} (h1:a.Bounds.length≤16777216) (h:a.Elements.length < 16777216):sJ a=some a:=by
 unfold sJ;rw [Ho h1,sZ (by omega)];rfl
set_option linter.unusedVariables false
set_option linter.unusedSimpArgs false
theorem TP (a b c:Bool):dF [aA.mk a 3,aA.mk b 11,aA.mk c 2]=some (if a=true then (if b=true then (if c=true then 0 else 2) else 11) else 3):=by
 cases a<;>cases b<;>cases c<;>decide +kernel
def TK (s:au):Bool:=(((s.Kind != 2) || (s.Low==0))&&((s.Kind==1) || ((s.High==0)&&(s.Step==0))))&&((s.Kind==2) || ((s.List.length:Int)==0))
def nums (s:au):Bool:=aJ s.Low&&aJ s.High&&aJ s.Step
def P5 (s:au):Int:=if ¬ aI s.Kind 0 2=true then 15 else if TK s=false then 3 else if (s.Kind==1&&s.Step==0)=true then 11 else if nums s=true then 0 else 2
theorem D7 (s:au):jv s=some (P5 s):=by
 unfold jv P5;have hf:((((s.Kind != 2) || (s.Low==0))&&((s.Kind==1) || ((s.High==0)&&(s.Step==0))))&&((s.Kind==2) || ((s.List.length:Int)==0)))=TK s:=rfl;simp only [hf,TP];by_cases hk:aI s.Kind 0 2=true
 ·simp only [hk,not_true,if_false];unfold nums;cases TK s
  ·simp only [Bool.false_eq_true,if_false,if_true,Option.bind_some]
   repeat' split
   all_goals rfl
  ·by_cases h1:s.Kind=1
   ·by_cases h2:s.Step=0
    ·simp [h1,h2]
    ·by_cases h3:aJ s.Low=true
     ·by_cases h4:aJ s.High=true
      ·by_cases h5:aJ s.Step=true<;>simp [h1,h2,h3,h4,h5]
      ·simp [h1,h2,h3,h4]
     ·simp [h1,h2,h3]
   ·by_cases h3:aJ s.Low=true
    ·by_cases h4:aJ s.High=true
     ·by_cases h5:aJ s.Step=true<;>simp [h1,h3,h4,h5]
     ·simp [h1,h3,h4]
    ·simp [h1,h3]
 ·simp only [hk,not_false_eq_true,if_true,Bool.false_eq_true]
theorem Fg {a b:Int} (hb:1≤b) : -(a.natAbs:Int)≤a.tdiv b∧a.tdiv b≤a.natAbs:=by
 rcases Int.le_total 0 a with h | h
 ·rw [Int.tdiv_eq_ediv_of_nonneg h];have h1:0≤a / b:=Int.ediv_nonneg h (by omega);have h2:a / b≤a:=Int.ediv_le_self b h;omega
 ·have e:a.tdiv b = -((-a).tdiv b):=by rw [Int.neg_tdiv];omega
  rw [e,Int.tdiv_eq_ediv_of_nonneg (by omega)];have h1:0≤(-a) / b:=Int.ediv_nonneg (by omega) (by omega);have h2:(-a) / b ≤ -a:=Int.ediv_le_self b (by omega);omega
theorem Pi {a b:Int} (ha : -1099511627776≤a∧a≤1099511627776) (hb:1≤b):quo .i64 a b=some (a.tdiv b):=by
 have:=Fg (a:=a) hb;unfold quo;rw [if_neg (by omega)];exact congrArg some (uI (n:=a.tdiv b) (by omega) (by omega))
theorem LM {a b:Int} (ha : -1099511627776≤a∧a≤1099511627776) (hb:1≤b):qw a b=some (a / b):=by
 unfold qw;rw [Pi ha hb];have hr:rem a b=some (a.tmod b):=by unfold rem;rw [if_neg (by omega)]
 rw [hr];simp only [Option.bind_some];have t:=Fg (a:=a) hb;have e1:=Int.tdiv_eq_ediv (a:=a) (b:=b);have e2:=Int.tmod_eq_emod (a:=a) (b:=b);have m1:=Int.emod_nonneg a (b:=b) (by omega);have m2:=Int.emod_lt_of_pos a (b:=b) (by omega);have sg:b.sign=1:=Int.sign_eq_one_of_pos (by omega);have nb:(b.natAbs:Int)=b:=by omega
 unfold qc;by_cases hd:0≤a∨b ∣ a
 ·rw [if_pos hd] at e1 e2;have:¬ a.tmod b < 0:=by omega
  simp only [this,decide_false,Bool.false_eq_true,if_false];rw [uI (by omega) (by omega)];exact congrArg some (by omega)
 ·rw [if_neg hd] at e1 e2;have:a.tmod b < 0:=by omega
  simp only [this,decide_true,if_true];rw [uI (by omega) (by omega)];exact congrArg some (by omega)
def cnt (s:au):Int:=if s.Step < 0 then max 0 ((s.Low - s.High) / (-s.Step)+1) else max 0 ((s.High - s.Low) / s.Step+1)
theorem Fa {s:au} (h:nums s=true):(-2147483647≤s.Low∧s.Low≤2147483647)∧(-2147483647≤s.High∧s.High≤2147483647)∧(-2147483647≤s.Step∧s.Step≤2147483647):=by
 simp [nums,aJ,aI] at h;omega
theorem Lh {a:Int}:mx 0 a=max 0 a:=by unfold mx;split<;>omega
theorem Dt {d s:Int} (hs:1≤s):max 0 ((d+s).tdiv s)=max 0 (d / s+1):=by
 have e:(d+s) / s=d / s+1:=Int.add_ediv_of_dvd_right (Int.dvd_refl s) |>.trans (by rw [Int.ediv_self (by omega)])
 rcases Int.le_total 0 (d+s) with h | h
 ·rw [Int.tdiv_eq_ediv_of_nonneg h,e]
 ·have e1:(d+s).tdiv s = -((-(d+s)).tdiv s):=by rw [Int.neg_tdiv];omega
  have e2:0≤(-(d+s)).tdiv s:=by rw [Int.tdiv_eq_ediv_of_nonneg (by omega)];exact Int.ediv_nonneg (by omega) (by omega)
  have e3:(d+s) / s≤0:=by
   have:=Int.ediv_le_ediv (a:=d+s) (b:=0) (c:=s) (by omega) h;simpa using this
  omega
theorem count_eq {s:au} (h:nums s=true) (hs:s.Step≠0):pM s=some (cnt s):=by
 obtain ⟨r1,r2,r3⟩:=Fa h;unfold pM cnt;by_cases hp:s.Step > 0
 ·rw [if_pos hp,if_neg (by omega)];rw [uI (n:=s.High - s.Low) (by omega) (by omega),uI (by omega) (by omega),Pi (by omega) (by omega)];simp only [Option.bind_some];rw [Lh,Dt (by omega)]
 ·rw [if_neg hp,if_pos (by omega)];rw [uI (n:=s.Low - s.High) (by omega) (by omega),uI (by omega) (by omega),uI (n:=0 - s.Step) (by omega) (by omega),Pi (by omega) (by omega)];simp only [Option.bind_some];have e:s.Low - s.High - s.Step=s.Low - s.High + -s.Step:=by omega
  have e':0 - s.Step = -s.Step:=by omega
  rw [Lh,e,e',Dt (by omega)]
theorem I7 {s:au} (h:nums s=true) (hs:s.Step≠0):0≤cnt s:=by unfold cnt;split<;>omega
def SX (s:au):List Int:=if s.Kind=0 then [s.Low] else if s.Kind=1 then (List.range (cnt s).toNat).map (fun i:Nat=>w (s.Low+w ((i:Int) * s.Step))) else s.List
def sel (b:aj) (s:au):List Int×Int :=
 if P5 s≠0 then ([],P5 s)
 else if s.Kind=1∧cnt s > 512 then ([],8)
 else if s.Kind=2∧(s.List.length:Int) > 512 then ([],8)
 else if (SX s).any (fun x=>!aI x b.Low b.High)=true then ([],33)
 else (SX s,0)
theorem Ei (b:aj) {l:List Int} (h:l.length < 16777216):dC.j1 b l=some (if l.any (fun x=>!aI x b.Low b.High)=true then ([],33) else (l,0)):=by
 unfold dC.j1 dH aX;obtain ⟨k,hk⟩:=wJ (step:=aX.s1 l b) l (fun x=>!aI x b.Low b.High) (fun i=>Sum.inr i) (Sum.inl ()) (s:=0) rfl (fun i hi=>by
  simp only [aX.s1,eU hi,if_true,fD hi,Option.bind_some];have e1:jX l[i] b=!aI l[i] b.Low b.High:=rfl;rw [wn (by omega),e1];by_cases hq:(!aI l[i] b.Low b.High)=true
  ·rw [if_pos hq,if_pos hq]
  ·rw [if_neg hq,if_neg hq]) (by simp only [aX.s1,bu,if_false]) (by omega)
 rw [hk];by_cases e:l.any (fun x=>!aI x b.Low b.High)=true
 ·rw [if_pos e,if_pos e];simp
 ·rw [if_neg e,if_neg e];rfl
theorem Ah (b:aj) {l:List Int} (h:l.length < 16777216):bn.j1 b l=some (if l.any (fun x=>!aI x b.Low b.High)=true then ([],33) else (l,0)):=by
 unfold bn.j1;rw [jy (step:=bn.s2 b l) l (fun x=>if (!aI x b.Low b.High)=true then some (([]:List Int),(33:Int)) else none) (fun c=>Sum.inr c) (Sum.inl ()) rfl ?_ ?_ (by omega),pF]
 ·by_cases e:l.any (fun x=>!aI x b.Low b.High)=true
  ·rw [if_pos e,if_pos e];rfl
  ·rw [if_neg e,if_neg e];rfl
 ·intro i hi;simp only [bn.s2,eU hi,if_true,fD hi,Option.bind_some,yJ];by_cases hq:aI l[i] b.Low b.High=true
  ·simp only [hq,not_true,if_false,Bool.not_true,Bool.false_eq_true];rw [wn (by omega)]
  ·simp only [hq,not_false_eq_true,if_true,Bool.not_false,Bool.false_eq_true]
 ·simp only [bn.s2,bu,if_false]
theorem EW {τ:Type} {step:Int×List Int→Option (Sum (Int×List Int) τ)} (n:Int) (g:Nat→Int) (fin:List Int→τ) (h0:0≤n) (hn:n < 16777216)
  (h:∀ i:Nat,(i:Int) < n→∀ b:List Int,b.length=i→step (i,b)=some (.inl (((i+1:Nat):Int),b++[g i]))) (hend:∀ b,step (n,b)=some (.inr (fin b))) :
  dO step (0,[])=some (fin ((List.range n.toNat).map g)):=by
 have hl:(List.range n.toNat).length=n.toNat:=by simp
 have hc:((List.range n.toNat).length:Int)=n:=by rw [hl];omega
 refine qm (step:=step) (List.range n.toNat) g (fun i b=>(i,b)) fin rfl ?_ ?_ (by omega)
 ·intro i hi b hb;have:(List.range n.toNat)[i]=i:=by simp
  rw [this];exact h i (by omega) b hb
 ·intro b;rw [hc];exact hend b
theorem zY {s:au} (h:P5 s=0):(s.Kind=0∨s.Kind=1∨s.Kind=2)∧TK s=true∧(s.Kind=1→s.Step≠0)∧nums s=true:=by
 unfold P5 at h;split at h
 ·cases h
 rename_i h1
 split at h
 ·cases h
 rename_i h2
 split at h
 ·cases h
 rename_i h3
 split at h
 ·rename_i h4
  refine ⟨?_,by simpa using h2,?_,h4⟩
  ·simp [aI] at h1;omega
  ·intro q1 q2;exact h3 (by simp [q1,q2])
 ·cases h
theorem NQ (b:aj) (s:au) (hl:s.List.length < 16777216):dC b s=some (sel b s):=by
 unfold dC sel;rw [D7];simp only [Option.bind_some];by_cases he:P5 s=0
 ·obtain ⟨hk,hf,hs,hn⟩:=zY he;simp only [he,not_true,if_false,ne_eq];unfold SX;rcases hk with k | k | k
  ·simp only [k,if_true];rw [Ei b (by simp)];simp
  ·have hz:=hs k;simp only [k,if_true,show ¬ (1:Int)=0 by decide,if_false,show ¬ (1:Int)=2 by decide,false_and,true_and];rw [count_eq hn hz];simp only [Option.bind_some];by_cases hc:cnt s > 512
   ·simp only [hc,if_true]
   ·simp only [hc,if_false];rw [EW (step:=dC.s2 s (cnt s)) (cnt s) (fun i:Nat=>w (s.Low+w ((i:Int) * s.Step))) (fun b=>b) (I7 hn hz) (by omega) ?_ ?_]
    ·simp only [Option.bind_some];rw [Ei b (by simp;omega)]
    ·intro i hi b hb;simp only [dC.s2,hi,if_true];rw [iQ (by omega)];simp only [Option.bind_some];rw [wn (by omega)]
    ·intro b;simp only [dC.s2,Int.lt_irrefl,if_false]
  ·simp only [k,show ¬ (2:Int)=0 by decide,if_false,show ¬ (2:Int)=1 by decide,false_and,true_and];by_cases hc:(s.List.length:Int) > 512
   ·simp only [hc,if_true]
   ·simp only [hc,if_false];unfold slices_Clone_int;rw [Gn (by omega)];simp only [Option.bind_some];rw [Ei b (by omega)]
 ·simp [he]
theorem TI (s:au):((((s.Kind != 1)&&((s.High != 0) || (s.Step != 0))) || ((s.Kind==2)&&(s.Low != 0))) || ((s.Kind != 2)&&(decide ((s.List.length:Int) > 0))))=!TK s:=by
 unfold TK;have e:decide ((s.List.length:Int) > 0)=!((s.List.length:Int)==0):=by
  by_cases h:(s.List.length:Int)=0
  ·simp [h]
  ·have h1:(s.List.length:Int) > 0:=by omega
   have h2:((s.List.length:Int)==0)=false:=by simpa using h
   rw [h2,decide_eq_true h1];rfl
 rw [e];simp only [bne];generalize (s.Kind==1)=a;generalize (s.Kind==2)=b;generalize (s.High==0)=c;generalize (s.Step==0)=d;generalize (s.Low==0)=f;generalize ((s.List.length:Int)==0)=g;cases a<;>cases b<;>cases c<;>cases d<;>cases f<;>cases g<;>rfl
theorem KG (b:aj) (s:au) (hl:s.List.length < 16777216):bn b s=some (if num b=true then sel b s else ([],2)):=by
 unfold bn;rw [TI];simp only [yJ,bJ];have hb:((!(aI b.Low (-2147483647) 2147483647)) || (!(aI b.High (-2147483647) 2147483647)))=!num b:=by unfold num aJ;simp
 have hs:(((!(aI s.Low (-2147483647) 2147483647)) || (!(aI s.High (-2147483647) 2147483647))) || (!(aI s.Step (-2147483647) 2147483647)))=!nums s:=by unfold nums aJ;simp
 rw [hb,hs];by_cases hn:num b=true
 ·simp only [hn,Bool.not_true,Bool.false_eq_true,if_false,if_true];unfold sel;by_cases he:P5 s=0
  ·obtain ⟨hk,hf,hst,hnn⟩:=zY he;have hin:aI s.Kind 0 2=true:=by simp [aI];omega
   have hks:((s.Kind==1)&&(s.Step==0))=false:=by
    by_cases k:s.Kind=1
    ·simp [k,hst k]
    ·simp [k]
   simp only [hin,not_true,if_false,hf,Bool.not_true,Bool.false_eq_true,hks,hnn,he,ne_eq];unfold SX;obtain ⟨r1,r2,r3⟩:=Fa hnn;rcases hk with k | k | k
   ·simp only [k,if_true];rw [Ah b (by simp)];simp
   ·have hz:=hst k;simp only [k,if_true,show ¬ (1:Int)=0 by decide,if_false,show ¬ (1:Int)=2 by decide,false_and,true_and];have j3:bn.j3 b s (cnt s)=some (if cnt s > 512 then ([],8) else if ((List.range (cnt s).toNat).map (fun i:Nat=>w (s.Low+w ((i:Int) * s.Step)))).any (fun x=>!aI x b.Low b.High)=true then ([],33) else ((List.range (cnt s).toNat).map (fun i:Nat=>w (s.Low+w ((i:Int) * s.Step))),0)):=by
     unfold bn.j3;by_cases hc:cnt s > 512
     ·simp only [hc,if_true]
     ·simp only [hc,if_false];rw [EW (step:=bn.s4 s (cnt s)) (cnt s) (fun i:Nat=>w (s.Low+w ((i:Int) * s.Step))) (fun b=>b) (I7 hnn hz) (by omega) ?_ ?_]
      ·simp only [Option.bind_some];rw [Ah b (by simp;omega)]
      ·intro i hi b hb;simp only [bn.s4,hi,if_true];rw [iQ (by omega)];simp only [Option.bind_some];rw [wn (by omega)]
      ·intro b;simp only [bn.s4,Int.lt_irrefl,if_false]
    have sz:gG s.Step=if s.Step < 0 then -s.Step else s.Step:=by
     unfold gG;split
     ·rw [uI (by omega) (by omega)];omega
     ·rfl
    have sz1:1≤gG s.Step∧gG s.Step≤2147483647:=by rw [sz];split<;>omega
    rw [uI (n:=s.High - s.Low) (by omega) (by omega),uI (n:=s.Low - s.High) (by omega) (by omega),LM (by omega) (by omega),LM (by omega) (by omega)];simp only [Option.bind_some];have div_le:∀ a:Int, -4294967296≤a→a≤4294967296 → -4294967297≤a / gG s.Step∧a / gG s.Step≤4294967296:=by
     intro a h1 h2;refine ⟨?_,?_⟩
     ·have:(-4294967297) * gG s.Step≤a:=by
       have:=Int.mul_le_mul_of_nonneg_left (a:=1) (b:=gG s.Step) (c:=4294967297) sz1.1 (by omega);omega
      exact (Int.le_ediv_iff_mul_le (by omega)).2 this
     ·have:a / gG s.Step < 4294967297:=Int.ediv_lt_of_lt_mul (by omega) (by
       have:=Int.mul_le_mul_of_nonneg_left (a:=1) (b:=gG s.Step) (c:=4294967297) sz1.1 (by omega);omega)
      omega
    have d1:=div_le (s.High - s.Low) (by omega) (by omega);have d2:=div_le (s.Low - s.High) (by omega) (by omega);rw [uI (n:=(s.High - s.Low) / gG s.Step+1) (by omega) (by omega),uI (n:=(s.Low - s.High) / gG s.Step+1) (by omega) (by omega),Lh,Lh];by_cases hneg:s.Step < 0
    ·rw [if_pos hneg];have:max 0 ((s.Low - s.High) / gG s.Step+1)=cnt s:=by unfold cnt;rw [if_pos hneg,sz,if_pos hneg]
     rw [this,j3]
    ·rw [if_neg hneg];have:max 0 ((s.High - s.Low) / gG s.Step+1)=cnt s:=by unfold cnt;rw [if_neg hneg,sz,if_neg hneg]
     rw [this,j3]
   ·simp only [k,show ¬ (2:Int)=0 by decide,if_false,show ¬ (2:Int)=1 by decide,false_and,true_and];by_cases hc:(s.List.length:Int) > 512
    ·simp only [hc,if_true]
    ·simp only [hc,if_false];rw [sZ (by omega)];simp only [Option.bind_some];rw [Ah b (by omega)]
  ·simp only [he,not_false_eq_true,if_true,ne_eq];unfold P5 at he ⊢;by_cases h1:aI s.Kind 0 2=true
   ·simp only [h1,not_true,if_false] at he ⊢;cases hf:TK s
    ·simp
    ·simp only [hf,Bool.true_eq_false,if_false,Bool.not_true,Bool.false_eq_true] at he ⊢;by_cases h2:((s.Kind==1)&&(s.Step==0))=true
     ·simp only [h2,if_true]
     ·simp only [h2,if_false,Bool.false_eq_true] at he ⊢;by_cases h3:nums s=true
      ·simp [h3] at he
      ·simp [h3]
   ·simp only [h1,not_false_eq_true,if_true,Bool.false_eq_true]
 ·simp [hn]
set_option linter.unusedVariables false
set_option linter.unusedSimpArgs false
abbrev Sec:=List Int×List (List Int)×List Int
def Hr (_:Nat) (v:Sec) (t:aj×au):Sum Int Sec :=
 if (sel t.1 t.2).2≠0 then .inl (sel t.1 t.2).2
 else .inr (if t.2.Kind≠0 then v.1++[((sel t.1 t.2).1.length:Int)] else v.1,v.2.1++[(sel t.1 t.2).1],v.2.2++[((sel t.1 t.2).1.length:Int)])
def Lc (i:Nat) (v:Sec):Prop:=v.1.length≤i∧v.2.1.length=i∧v.2.2.length=i
theorem CE {i:Nat} {v v':Sec} {t:aj×au} (h:Lc i v) (e:Hr i v t = .inr v'):Lc (i+1) v':=by
 obtain ⟨h1,h2,h3⟩:=h;unfold Hr at e;split at e
 ·cases e
 ·cases e;refine ⟨?_,by simp [h2],by simp [h3]⟩;simp only;split
  ·simp;omega
  ·omega
theorem Ti:∀ {T:List (aj×au)} {i:Nat} {v v':Sec},dJ Hr i T v = .inr v' →
  v'.2.1=v.2.1++T.map (fun t=>(sel t.1 t.2).1)∧v'.2.2=v.2.2++T.map (fun t=>((sel t.1 t.2).1.length:Int))∧∀ t,t∈T→(sel t.1 t.2).2=0
 | [],i,v,v',h=>by cases h;simp
 | t::T,i,v,v',h=>by
  simp only [dJ] at h;cases hf:Hr i v t with
  | inl e=>rw [hf] at h;cases h
  | inr v2 =>
   rw [hf] at h;obtain ⟨g1,g2,g3⟩:=Ti h;unfold Hr at hf;split at hf
   ·cases hf
   ·rename_i hs
    cases hf;refine ⟨by rw [g1];simp,by rw [g2];simp,?_⟩;intro u hu;cases hu with
    | head=>exact Classical.not_not.1 hs
    | tail _ hu=>exact g3 u hu
def ut (p:List aj) (q:List au):Sum Int Sec:=dJ Hr 0 (p.zip q) ([],[],[])
def picks (lists:List (List Int)) (ds:List Int):List Int:=ds.mapIdx fun j d=>(((lists[j]?).getD [])[d.toNat]?).getD 0
theorem DK (lists:List (List Int)) (ds:List Int):(picks lists ds).length=ds.length:=by simp [picks]
theorem ND (l:List Int) (lists:List (List Int)) (d:Int) (ds:List Int):picks (l::lists) (d::ds)=((l[d.toNat]?).getD 0)::picks lists ds:=by
 simp [picks,List.mapIdx_cons]
theorem Ld:∀ {bs:List aj} {lists:List (List Int)} {ds:List Int},bs.length=lists.length→(∀ t,t∈bs.zip lists→∀ x,x∈t.2→aI x t.1.Low t.1.High=true)→inBase (lists.map fun l=>(l.length:Int)) ds→allIn bs (picks lists ds)=true∧(picks lists ds).length=bs.length
 | [],[],[],_,_,_=>⟨rfl,rfl⟩
 | [],[],_::_,_,_,h=>by cases h
 | [],_::_,_,h,_,_=>by cases h
 | _::_,[],_,h,_,_=>by cases h
 | _::_,_::_,[],_,_,h=>by cases h
 | b::bs,l::lists,d::ds,hl,hin,h=>by
  obtain ⟨h1,h2,h3⟩:=h;obtain ⟨i1,i2⟩:=Ld (bs:=bs) (by simpa using hl) (fun t ht=>hin t (by simp;exact .inr (by simpa using ht))) h3;have hd:d.toNat < l.length:=by have h2':d < (l.length:Int):=h2;omega
  have hx:(l[d.toNat]?).getD 0=l[d.toNat]:=by simp [hd]
  have hi:=hin (b,l) (by simp) l[d.toNat] (List.getElem_mem hd);rw [ND,hx];refine ⟨?_,by simp [i2]⟩;simp only [allIn,i1,Bool.and_true];exact hi
def Vh (a:Int) (t:Int×aj×Int):Int:=w (a+w (t.2.2 * w (t.1 - t.2.1.Low)))
theorem scan_fold:∀ (bs:List aj) (xs:List Int) (ss:List Int) (a:Int) (i:Nat),allIn bs xs=true→dJ Q7 i (xs.zip (bs.zip ss)) a = .inr ((xs.zip (bs.zip ss)).foldl Vh a)
 | [],xs,ss,a,i,_=>by simp [dJ]
 | b::bs,[],ss,a,i,_=>by simp [dJ]
 | b::bs,x::xs,[],a,i,_=>by simp [dJ]
 | b::bs,x::xs,s::ss,a,i,h=>by
  simp only [allIn,Bool.and_eq_true] at h;have hf:Q7 i a (x,b,s) = .inr (Vh a (x,b,s)):=by unfold Q7;rw [if_pos h.1];rfl
  simp only [List.zip_cons_cons,dJ,hf,List.foldl_cons];exact scan_fold bs xs ss _ _ h.2
theorem QO {bs:List aj} {xs:List Int} (ok:Ok bs) (hl:bs.length=xs.length) (ha:allIn bs xs=true):(xs.zip (bs.zip (str 1 (exs bs)))).foldl Vh 0=off bs xs:=by
 have h1:=scan_fold bs xs (str 1 (exs bs)) 0 0 ha;have hl7:=ok.len;have sz:=ok.size;have h2:=(L6 bs xs 1 0 0 hl ok.num).2 ha (by omega) (by have:P (exs bs)≤512:=sz.2.2;omega) (by omega) (by omega);rw [h1] at h2;have:=Sum.inr.inj h2;rw [this];unfold off;omega
theorem has_eq {l:List Int} {v:Int} (h:l.length < 16777216):mV l v=some (l.any fun x=>x==v):=by
 unfold mV;rw [kU (step:=mV.s1 l v) l (fun i (b:Bool)=>(b,i)) (fun b=>b) (fun b x=>b || (x==v)) (fun _ _=>True) (a:=false) rfl ?_ ?_ trivial (by omega)]
 ·have key:∀ (l:List Int) (b:Bool),l.foldl (fun b x=>b || (x==v)) b=(b || l.any fun x=>x==v):=by
   intro l
   induction l with
   | nil=>intro b;simp
   | cons x l ih=>intro b;rw [List.foldl_cons,ih,List.any_cons,Bool.or_assoc]
  rw [key];simp
 ·intro i hi b _;refine ⟨?_,trivial⟩;simp only [mV.s1,eU hi,if_true,fD hi,Option.bind_some];rw [wn (by omega)]
 ·intro b _;simp only [mV.s1,bu,if_false]
theorem OJ (m:List (Int×Bool)) (k:Int) (v:Bool) (z:Int):Jp (QW m k v) z=if k=z then some v else Jp m z:=by
 induction m with
 | nil=>simp [QW,Jp]
 | cons p m ih =>
  obtain ⟨a,c⟩:=p;simp only [QW];by_cases e:a=k
  ·subst e;by_cases q:a=z
   ·simp [Jp,q]
   ·simp [Jp,q]
  ·rw [if_neg e];simp only [Jp,ih];by_cases q:a=z
   ·have:¬ k=z:=fun r=>e (by rw [q,r])
    simp [q,this]
   ·simp [q]
def RQ (o:Nat→Int) (v:Bool×List Int×List (Int×Bool)) (k:Nat):Bool×List Int×List (Int×Bool):=(v.1 || (Jp v.2.2 (o k)).getD false,v.2.1++[o k],QW v.2.2 (o k) true)
def wM (o:Nat→Int) (v:Bool×List Int) (k:Nat):Bool×List Int:=(v.1 || v.2.any (fun x=>x==o k),v.2++[o k])
theorem Iw (o:Nat→Int):∀ (ks:List Nat) (a:Bool) (l:List Int) (m:List (Int×Bool)),(∀ z,(Jp m z).getD false=l.any (fun x=>x==z)) →
  ((ks.foldl (RQ o) (a,l,m)).1,(ks.foldl (RQ o) (a,l,m)).2.1)=ks.foldl (wM o) (a,l)
 | [],a,l,m,h=>rfl
 | k::ks,a,l,m,h=>by
  rw [List.foldl_cons,List.foldl_cons];have e2:wM o (a,l) k=(a || (Jp m (o k)).getD false,l++[o k]):=by unfold wM;rw [h]
  rw [e2];refine Iw o ks _ _ _ fun z=>?_
  rw [OJ,List.any_append];by_cases e:o k=z
  ·simp [e]
  ·simp [e,h]
def tX (p:List aj) (v:Sec) (k:Nat):Int:=off p (picks v.2.1 (dig v.2.2 k))
def KR (p:List aj) (v:Sec):ay×Int :=
 if iC v.2.2 > 512 then (⟨[],[],false⟩,8)
 else (⟨v.1,((List.range (iC v.2.2).toNat).foldl (wM (tX p v)) (false,[])).2,((List.range (iC v.2.2).toNat).foldl (wM (tX p v)) (false,[])).1⟩,0)
theorem Ed (o:Nat→Int):∀ (ks:List Nat) (v:Bool×List Int),(ks.foldl (wM o) v).2.length=v.2.length+ks.length
 | [],v=>rfl
 | k::ks,v=>by rw [List.foldl_cons,Ed o ks];simp [wM];omega
theorem KF {b:aj} {s:au} (h:(sel b s).2=0):(sel b s).1.length≤512∧∀ x,x∈(sel b s).1→aI x b.Low b.High=true:=by
 unfold sel at h ⊢;by_cases he:P5 s=0
 ·simp only [he,ne_eq,not_true,if_false] at h ⊢;by_cases h1:s.Kind=1∧cnt s > 512
  ·simp [h1] at h
  ·simp only [h1,if_false] at h ⊢;by_cases h2:s.Kind=2∧(s.List.length:Int) > 512
   ·simp [h2] at h
   ·simp only [h2,if_false] at h ⊢;by_cases h3:(SX s).any (fun x=>!aI x b.Low b.High)=true
    ·simp [h3] at h
    ·simp only [h3,if_false,Bool.false_eq_true];refine ⟨?_,?_⟩
     ·obtain ⟨hk,_⟩:=zY he;unfold SX;rcases hk with k | k | k
      ·simp [k]
      ·simp [k] at h1 ⊢;omega
      ·simp [k] at h2 ⊢;omega
     ·intro x hx;simp only [List.any_eq_true,not_exists,not_and,Bool.not_eq_true',Bool.not_eq_false] at h3;exact h3 x hx
 ·simp [he] at h
section
variable {p:List aj} {q:List au} {v:Sec}
structure CG (p:List aj) (q:List au) (v:Sec):Prop where
 lists:v.2.1.length=p.length
 lens:v.2.2=v.2.1.map fun l=>(l.length:Int)
 small:∀ l,l∈v.2.1→l.length≤512
 ins:∀ t,t∈p.zip v.2.1→∀ x,x∈t.2→aI x t.1.Low t.1.High=true
theorem Ut (hl:q.length=p.length) (h:ut p q = .inr v):CG p q v:=by
 obtain ⟨h1,h2,h3⟩:=Ti h;simp only [List.nil_append] at h1 h2;refine ⟨by rw [h1];simp;omega,by rw [h1,h2];simp,?_,?_⟩
 ·intro l hlm;rw [h1] at hlm;obtain ⟨t,ht,rfl⟩:=List.mem_map.1 hlm;exact (KF (h3 t ht)).1
 ·intro t ht x hx;rw [h1] at ht;have key:∀ (p:List aj) (q:List au) (t:aj×List Int),t∈p.zip ((p.zip q).map fun t=>(sel t.1 t.2).1)→∃ s,(t.1,s)∈p.zip q∧t.2=(sel t.1 s).1:=by
   intro p
   induction p with
   | nil=>intro q t ht;simp at ht
   | cons b p ih =>
    intro q t ht;cases q with
    | nil=>simp at ht
    | cons s q =>
     simp only [List.zip_cons_cons,List.map_cons,List.mem_cons] at ht;rcases ht with rfl | ht
     ·exact ⟨s,by simp,rfl⟩
     ·obtain ⟨s',h1,h2⟩:=ih q t ht;exact ⟨s',by simp [h1],h2⟩
  obtain ⟨s,g1,g2⟩:=key p q t ht;rw [g2] at hx;exact (KF (h3 _ g1)).2 x hx
theorem CG.base (h:CG p q v) (k:Nat) (hk:(k:Int) < iC v.2.2) (hs:iC v.2.2≤512):(∀ e,e∈v.2.2→1≤e)∧inBase v.2.2 (dig v.2.2 k)∧(k:Int) < P v.2.2:=by
 have hr:∀ x,x∈v.2.2→0≤x∧x≤512:=by
  intro x hx;rw [h.lens] at hx;obtain ⟨l,hl,rfl⟩:=List.mem_map.1 hx;have:=h.small l hl;omega
 obtain ⟨h1,h2⟩:=J9 hr hs;have hpos:∀ e,e∈v.2.2→1≤e:=by
  intro e he;have h0:=hr e he;rcases Int.lt_or_eq_of_le h0.1 with g | g
  ·omega
  ·have:P v.2.2=0:=Oh ⟨e,he,g.symm⟩;omega
 exact ⟨hpos,(TB hpos (by omega) (by omega)).1,by omega⟩
theorem CG.place (h:CG p q v) (k:Nat) (hk:(k:Int) < iC v.2.2) (hs:iC v.2.2≤512):allIn p (picks v.2.1 (dig v.2.2 k))=true∧(picks v.2.1 (dig v.2.2 k)).length=p.length:=by
 obtain ⟨_,h1,_⟩:=h.base k hk hs;rw [h.lens] at h1 ⊢;exact Ld h.lists.symm h.ins h1
theorem Ff:∀ {es ds:List Int},inBase es ds→es.length=ds.length∧∀ i (h1:i < es.length) (h2:i < ds.length),0≤ds[i]∧ds[i] < es[i]
 | [],[],_=>⟨rfl,fun i h=>by simp at h⟩
 | [],_::_,h=>by cases h
 | _::_,[],h=>by cases h
 | e::es,d::ds,⟨h1,h2,h3⟩=>by
  obtain ⟨i1,i2⟩:=Ff h3;refine ⟨by simp [i1],fun i g1 g2=>?_⟩;cases i with
  | zero=>exact ⟨h1,h2⟩
  | succ i=>simpa using i2 i (by simpa using g1) (by simpa using g2)
theorem CG.Ph (h:CG p q v) (k:Nat) (hk:(k:Int) < iC v.2.2) (hs:iC v.2.2≤512) {i:Nat} (hi:i < p.length) :
  ∃ (h1:i < (dig v.2.2 k).length) (h2:i < v.2.1.length) (h3:i < (picks v.2.1 (dig v.2.2 k)).length),at_ v.2.1[i] (dig v.2.2 k)[i]=some (picks v.2.1 (dig v.2.2 k))[i]:=by
 obtain ⟨_,hb,_⟩:=h.base k hk hs;obtain ⟨g1,g2⟩:=Ff hb;have l1:v.2.2.length=p.length:=by rw [h.lens];simp [h.lists]
 have hd:i < (dig v.2.2 k).length:=by omega
 have hv:i < v.2.1.length:=by rw [h.lists];exact hi
 refine ⟨hd,hv,by rw [DK];exact hd,?_⟩;obtain ⟨r1,r2⟩:=g2 i (by omega) hd;have e:v.2.2[i]'(by omega)=(v.2.1[i].length:Int):=by
  have:v.2.2[i]?=some (v.2.1[i].length:Int):=by rw [h.lens];simp [hv]
  rw [List.getElem?_eq_getElem (by omega)] at this;exact Option.some.inj this
 rw [e] at r2;have hn:(dig v.2.2 k)[i].toNat < v.2.1[i].length:=by omega
 have hx:(picks v.2.1 (dig v.2.2 k))[i]'(by rw [DK];exact hd)=v.2.1[i][(dig v.2.2 k)[i].toNat]:=by
  simp [picks,hv,hn]
 rw [hx];unfold at_;rw [if_pos r1];simp [hn]
theorem JU (ok:Ok p) (h:CG p q v) (hs:iC v.2.2≤512) (hp:0≤iC v.2.2) :
  dO (bP.s2 p v (iC v.2.2) (str 1 (exs p))) (0,false,[],[])=some ((List.range (iC v.2.2).toNat).foldl (wM (tX p v)) (false,[])):=by
 have hlen:(List.range (iC v.2.2).toNat).length=(iC v.2.2).toNat:=by simp
 have hc:((List.range (iC v.2.2).toNat).length:Int)=iC v.2.2:=by omega
 have hl7:=ok.len;rw [kU (step:=bP.s2 p v (iC v.2.2) (str 1 (exs p))) (List.range (iC v.2.2).toNat) (fun i (b:Bool×List Int×List (Int×Bool))=>(i,b)) (fun b=>(b.1,b.2.1)) (RQ (tX p v)) (fun i b=>b.2.1.length=i) (a:=(false,[],[])) rfl ?_ ?_ rfl (by omega)]
 ·rw [Iw];intro z;rfl
 ·intro i hi b hb;have hir:(List.range (iC v.2.2).toNat)[i]=i:=by simp
  have hil:(i:Int) < iC v.2.2:=by omega
  refine ⟨?_,by simp [RQ,hb]⟩;obtain ⟨b1,b2,b3⟩:=h.base i hil hs;obtain ⟨a1,a2⟩:=h.place i hil hs;have l1:v.2.2.length=p.length:=by rw [h.lens];simp [h.lists]
  simp only [bP.s2,hil,if_true,hir];rw [Oi b1 (by omega) (by omega) (by omega)];simp only [Option.bind_some];have T:((picks v.2.1 (dig v.2.2 i)).zip (p.zip (str 1 (exs p)))).length=p.length:=by simp [JO,exs,a2]
  have inner:dO (bP.s3 p v (str 1 (exs p)) (dig v.2.2 i)) (0,0)=some (tX p v i):=by
   rw [kU (step:=bP.s3 p v (str 1 (exs p)) (dig v.2.2 i)) ((picks v.2.1 (dig v.2.2 i)).zip (p.zip (str 1 (exs p)))) (fun i (b:Int)=>(b,i)) (fun b=>b) Vh (fun _ _=>True) (a:=0) rfl ?_ ?_ trivial (by omega)]
   ·rw [QO ok a2.symm a1];rfl
   ·intro j hj b _;refine ⟨?_,trivial⟩;rw [T] at hj;obtain ⟨g1,g2,g3,g4⟩:=h.Ph i hil hs hj;have g5:j < (str 1 (exs p)).length:=by simp [JO,exs];exact hj
    simp only [bP.s3,eU g1,if_true,fD g1,fD g5,fD g2,fD hj,Option.bind_some,g4,List.getElem_zip,Vh];rw [wn (by omega)]
   ·intro b _;have e:((dig v.2.2 i).length:Int)=(((picks v.2.1 (dig v.2.2 i)).zip (p.zip (str 1 (exs p)))).length:Int):=by rw [T,← a2,DK]
    rw [← e];simp only [bP.s3,bu,if_false]
  rw [inner];simp only [Option.bind_some];rw [iQ (by omega)];simp only [Option.bind_some];rw [wn (by omega)];rfl
 ·intro b _;rw [hc];simp only [bP.s2,Int.lt_irrefl,if_false]
theorem EL (hb:GV p=0) (ok:Ok p) (h:CG p q v) (hs:iC v.2.2≤512) (hp:0≤iC v.2.2) :
  dO (bM.s2 p (v.2.1,v.2.2,v.1) (iC v.2.2)) (0,false,[])=some ((List.range (iC v.2.2).toNat).foldl (wM (tX p v)) (false,[])):=by
 have hlen:(List.range (iC v.2.2).toNat).length=(iC v.2.2).toNat:=by simp
 have hc:((List.range (iC v.2.2).toNat).length:Int)=iC v.2.2:=by omega
 have hl7:=ok.len;rw [kU (step:=bM.s2 p (v.2.1,v.2.2,v.1) (iC v.2.2)) (List.range (iC v.2.2).toNat) (fun i (b:Bool×List Int)=>(i,b)) (fun b=>b) (wM (tX p v)) (fun i b=>b.2.length=i) (a:=(false,[])) rfl ?_ ?_ rfl (by omega)]
 ·intro i hi b hbl;have hir:(List.range (iC v.2.2).toNat)[i]=i:=by simp
  have hil:(i:Int) < iC v.2.2:=by omega
  refine ⟨?_,by simp [wM,hbl]⟩;obtain ⟨b1,b2,b3⟩:=h.base i hil hs;obtain ⟨a1,a2⟩:=h.place i hil hs;have l1:v.2.2.length=p.length:=by rw [h.lens];simp [h.lists]
  have dl:(dig v.2.2 i).length=p.length:=by rw [Pg,l1]
  simp only [bM.s2,hil,if_true,hir];rw [Hq b1 (by omega) (by omega) (by omega)];simp only [Option.bind_some];have inner:dO (bM.s3 (v.2.1,v.2.2,v.1)) (0,dig v.2.2 i)=some (picks v.2.1 (dig v.2.2 i)):=by
   rw [QS (step:=bM.s3 (v.2.1,v.2.2,v.1)) (dig v.2.2 i) (fun j d=>(((v.2.1[j]?).getD [])[d.toNat]?).getD 0) (fun i b=>(i,b)) (fun b=>b) rfl ?_ ?_ (by omega)]
   ·rfl
   ·intro j hj b hbl2 hbj;obtain ⟨g1,g2,g3,g4⟩:=h.Ph i hil hs (i:=j) (by omega);have hjb:j < b.length:=by omega
    have hbv:b[j]=(dig v.2.2 i)[j]:=by rw [List.getElem?_eq_getElem hjb] at hbj;exact Option.some.inj hbj
    simp only [bM.s3,eU hjb,if_true,fD g2,fD hjb,Option.bind_some,hbv,g4,Int.toNat_natCast];rw [wn (by omega)];simp [picks]
   ·intro b hbl2;rw [← hbl2];simp only [bM.s3,bu,if_false]
  rw [inner];simp only [Option.bind_some];have hoff:VF p (picks v.2.1 (dig v.2.2 i))=0:=by unfold VF;simp [hb,a2,a1]
  rw [IC hoff];simp only [Option.bind_some];by_cases hm:b.1=true
  ·simp only [hm,if_true];rw [iQ (by omega)];simp only [Option.bind_some];rw [wn (by omega)];simp [wM,hm,tX]
  ·simp only [hm,if_false,Bool.false_eq_true];rw [has_eq (by omega),iQ (by omega)];simp only [Option.bind_some];rw [wn (by omega)];simp [wM,hm,tX]
 ·intro b _;rw [hc];simp only [bM.s2,Int.lt_irrefl,if_false]
theorem CG.pos (h:CG p q v):0≤iC v.2.2:=by
 unfold iC;split
 ·omega
 ·rename_i h0
  have hr:∀ x,x∈v.2.2→1≤x∧x≤512:=by
   intro x hx;have hx':=hx;rw [h.lens] at hx;obtain ⟨l,hl,rfl⟩:=List.mem_map.1 hx;have:=h.small l hl;simp only [List.any_eq_true,not_exists,not_and,beq_iff_eq] at h0;have:=h0 _ hx';omega
  have:=KI (a:=1) hr (by omega) (by omega);have hp:=ML fun x hq=>(hr x hq).1
  unfold U7;omega
end
def jZ (p:List aj) (q:List au):ay×Int :=
 if GV p≠0 then (⟨[],[],false⟩,GV p)
 else if (q.length:Int)≠(p.length:Int) then (⟨[],[],false⟩,32)
 else match ut p q with
  | .inl e=>(⟨[],[],false⟩,e)
  | .inr v=>KR p v
theorem IA (p:List aj) (q:List au) (hq:∀ s,s∈q→s.List.length < 16777216):kN p q=some (jZ p q):=by
 unfold kN jZ;rw [AL];simp only [Option.bind_some];by_cases hb:GV p=0
 ·have ok:=uX hb;have hl7:=ok.len;simp only [hb,not_true,if_false,ne_eq];unfold bP;by_cases hl:(q.length:Int)=(p.length:Int)
  ·simp only [hl,not_true,if_false];have T:(p.zip q).length=q.length:=by simp;omega
   have l1:dO (bP.s1 p q) (0,[],[],[])=some (match ut p q with | .inl e=>Sum.inr (⟨[],[],false⟩,e) | .inr v=>Sum.inl v):=by
    unfold ut;rw [iI (step:=bP.s1 p q) (p.zip q) (fun i (b:Sec)=>(i,b)) (fun e=>Sum.inr (⟨[],[],false⟩,e)) (fun b=>Sum.inl b) Hr Lc (a:=([],[],[])) rfl ?_ ?_ ⟨Nat.le_refl _,rfl,rfl⟩ (by omega)]
    ·cases dJ Hr 0 (p.zip q) ([],[],[])<;>rfl
    ·intro i hi b hI;refine ⟨?_,fun b' e=>CE hI e⟩;obtain ⟨i1,i2,i3⟩:=hI;rw [T] at hi;have h2:i < p.length:=by omega
     simp only [bP.s1,eU hi,if_true,fD hi,fD h2,Option.bind_some,List.getElem_zip,Hr];rw [NQ _ _ (hq _ (List.getElem_mem hi))];simp only [Option.bind_some];by_cases he:(sel p[i] q[i]).2=0
     ·simp only [he,not_true,if_false,ne_eq];rw [iQ (by omega),iQ (by omega)];simp only [Option.bind_some];by_cases hk:q[i].Kind=0
      ·simp only [hk,not_true,if_false];rw [wn (by omega)]
      ·simp only [hk,not_false_eq_true,if_true];rw [iQ (by omega)];simp only [Option.bind_some];rw [wn (by omega)]
     ·simp only [he,not_false_eq_true,if_true,ne_eq]
    ·intro b _;rw [T];simp only [bP.s1,bu,if_false]
   rw [l1];simp only [Option.bind_some];cases hv:ut p q with
   | inl e=>simp
   | inr v =>
    have so:=Ut (by omega) hv;have hp:=so.pos;have hvl:v.2.2.length=p.length:=by rw [so.lens];simp [so.lists]
    simp only [Fb (show v.2.2.length < 16777216 by omega),Option.bind_some];unfold KR;by_cases hs:iC v.2.2 > 512
    ·simp only [hs,if_true,Option.bind_some]
    ·simp only [hs,if_false];rw [JK (by omega)];simp only [Option.bind_some];rw [Nk (by simp [exs];omega)];simp only [Option.bind_some];rw [JU ok so (by omega) hp];simp only [Option.bind_some]
  ·simp [hl]
 ·simp [hb]
theorem zq (p:List aj) (q:List au) (hq:∀ s,s∈q→s.List.length < 16777216):bM p q=some (jZ p q):=by
 unfold bM jZ;rw [vk];simp only [Option.bind_some];by_cases hb:GV p=0
 ·have ok:=uX hb;have hl7:=ok.len;simp only [hb,not_true,if_false,ne_eq];by_cases hl:(q.length:Int)=(p.length:Int)
  ·simp only [hl,not_true,if_false];have T:(p.zip q).length=q.length:=by simp;omega
   have l1:dO (bM.s1 p q) (0,[],[],[])=some (match ut p q with | .inl e=>Sum.inr (⟨[],[],false⟩,e) | .inr v=>Sum.inl (v.2.1,v.2.2,v.1)):=by
    unfold ut;rw [iI (step:=bM.s1 p q) (p.zip q) (fun i (b:Sec)=>(i,b.2.1,b.2.2,b.1)) (fun e=>Sum.inr (⟨[],[],false⟩,e)) (fun b=>Sum.inl (b.2.1,b.2.2,b.1)) Hr Lc (a:=([],[],[])) rfl ?_ ?_ ⟨Nat.le_refl _,rfl,rfl⟩ (by omega)]
    ·cases dJ Hr 0 (p.zip q) ([],[],[])<;>rfl
    ·intro i hi b hI;refine ⟨?_,fun b' e=>CE hI e⟩;obtain ⟨i1,i2,i3⟩:=hI;rw [T] at hi;have h2:i < p.length:=by omega
     simp only [bM.s1,eU hi,if_true,fD hi,fD h2,Option.bind_some,List.getElem_zip,Hr];rw [KG _ _ (hq _ (List.getElem_mem hi)),if_pos (ok.num _ (List.getElem_mem h2))];simp only [Option.bind_some];by_cases he:(sel p[i] q[i]).2=0
     ·simp only [he,not_true,if_false,ne_eq];rw [iQ (by omega),iQ (by omega)];simp only [Option.bind_some];by_cases hk:q[i].Kind=0
      ·simp only [hk,not_true,if_false];rw [wn (by omega)]
      ·simp only [hk,not_false_eq_true,if_true];rw [iQ (by omega)];simp only [Option.bind_some];rw [wn (by omega)]
     ·simp only [he,not_false_eq_true,if_true,ne_eq]
    ·intro b _;rw [T];simp only [bM.s1,bu,if_false]
   rw [l1];simp only [Option.bind_some];cases hv:ut p q with
   | inl e=>simp
   | inr v =>
    have so:=Ut (by omega) hv;have hp:=so.pos;have hvl:v.2.2.length=p.length:=by rw [so.lens];simp [so.lists]
    simp only [sV (show v.2.2.length < 16777216 by omega),Option.bind_some];unfold KR;by_cases hs:iC v.2.2 > 512
    ·simp only [hs,if_true,Option.bind_some]
    ·simp only [hs,if_false];rw [EL hb ok so (by omega) hp];simp only [Option.bind_some]
  ·simp [hl]
 ·simp [hb]
theorem rX {q:List au} (h:q.length < 16777216) (hq:∀ s,s∈q→s.List.length < 16777216):dB q=some q:=by
 unfold dB;rw [qm (step:=dB.s1 q) q (fun s=>s) (fun i b=>(i,b)) (fun b=>b) rfl ?_ ?_ (by omega)]
 ·simp
 ·intro i hi b hb;simp only [dB.s1,eU hi,if_true,fD hi,Option.bind_some];have:=hq _ (List.getElem_mem hi);rw [sZ (by omega)];simp only [Option.bind_some];rw [iQ (by omega),wn (by omega)];rfl
 ·intro b;simp only [dB.s1,bu,if_false]
set_option linter.unusedVariables false
set_option linter.unusedSimpArgs false
structure UC (a:ag):Prop where
 b:GV a.Bounds=0
 len:(a.Elements.length:Int)=P (exs a.Bounds)
 int:∀ x,x∈a.Elements→bK x=true
theorem Jg:∀ (xs:List Int) (i:Nat),(∀ x,x∈xs→bK x=true)↔dJ (fun i b x=>if bK x=true then Sum.inr b else Sum.inl i) i xs () = .inr ()
 | [],i=>by simp [dJ]
 | x::xs,i=>by
  simp only [dJ,List.mem_cons,forall_eq_or_imp];by_cases h:bK x=true
  ·simp only [h,if_true,true_and];exact Jg xs (i+1)
  ·simp [h]
theorem Pv {a:ag} (h:(chk a).2=0):UC a:=by
 unfold chk at h;split at h
 ·rename_i hb;exact absurd h hb
 rename_i hb
 split at h
 ·cases h
 rename_i hl
 have hb':=Classical.not_not.1 hb;have hl':=Classical.not_not.1 hl;have ok:=uX hb';refine ⟨hb',by have:=ok.size;rw [hl'];exact this.1,?_⟩;cases hq:RJ a.Elements with
 | inl i=>rw [hq] at h;cases h
 | inr u=>exact (Jg _ 0).2 hq
theorem D5 (o:Nat→Int):∀ (ks:List Nat) (v:Bool×List Int),(ks.foldl (wM o) v).2=v.2++ks.map o
 | [],v=>by simp
 | k::ks,v=>by rw [List.foldl_cons,D5 o ks];simp [wM]
theorem Du (o:Nat→Int):∀ (ks:List Nat) (a:Bool) (l:List Int),(ks.foldl (wM o) (a,l)).1=false→a=false∧(l.Nodup→(l++ks.map o).Nodup)
 | [],a,l,h=>⟨h,fun hn=>by simpa using hn⟩
 | k::ks,a,l,h=>by
  rw [List.foldl_cons] at h;obtain ⟨h1,h2⟩:=Du o ks _ _ h;simp only [Bool.or_eq_false_iff,List.any_eq_false,beq_iff_eq] at h1;refine ⟨h1.1,fun hn=>?_⟩;have:(l++[o k]).Nodup:=by
   rw [List.nodup_append];refine ⟨hn,by simp,?_⟩;intro x hx y hy;simp only [List.mem_singleton] at hy;subst hy;exact h1.2 x hx
  have:=h2 this;simpa using this
structure Sct (p:List aj) (s:ay):Prop where
 range:∀ o,o∈s.Offsets→0≤o∧o < P (exs p)
 nodup:s.ManyOne=false→s.Offsets.Nodup
 len:(s.Offsets.length:Int)=P s.Extents
 ext:∀ e,e∈s.Extents→0≤e∧e≤512
 dims:s.Extents.length≤7
 small:s.Offsets.length≤512
theorem Rj {b:aj} {s:au} (h:(sel b s).2=0) (hk:s.Kind=0):(sel b s).1.length=1:=by
 unfold sel at h ⊢;by_cases he:P5 s=0
 ·simp only [he,ne_eq,not_true,if_false,hk,show ¬ (0:Int)=1 by decide,show ¬ (0:Int)=2 by decide,false_and] at h ⊢;by_cases h3:(SX s).any (fun x=>!aI x b.Low b.High)=true
  ·simp [h3] at h
  ·simp only [h3,if_false,Bool.false_eq_true];unfold SX;simp [hk]
 ·simp [he] at h
theorem KY (a b:List Int):P (a++b)=P a * P b:=by
 induction a with
 | nil=>simp [P]
 | cons x a ih=>simp [P,ih,Int.mul_assoc]
theorem JC:∀ {T:List (aj×au)} {i:Nat} {v v':Sec},dJ Hr i T v = .inr v'→P v.1=P v.2.2→(∀ e,e∈v.1→0≤e∧e≤512)→P v'.1=P v'.2.2∧(∀ e,e∈v'.1→0≤e∧e≤512)∧v'.1.length≤v.1.length+T.length
 | [],i,v,v',h,h1,h2=>by cases h;exact ⟨h1,h2,by simp⟩
 | t::T,i,v,v',h,h1,h2=>by
  simp only [dJ] at h;cases hf:Hr i v t with
  | inl e=>rw [hf] at h;cases h
  | inr v2 =>
   rw [hf] at h;unfold Hr at hf;split at hf
   ·cases hf
   ·rename_i hs
    have hs:=Classical.not_not.1 hs;cases hf;have hsl:=(KF hs).1;by_cases hk:t.2.Kind=0
    ·simp only [hk,ne_eq,not_true,if_false] at h;have e1:=Rj hs hk;obtain ⟨g1,g2,g3⟩:=JC h (by simp only [KY,e1,P];simp [h1]) h2;exact ⟨g1,g2,by simp at g3 ⊢;omega⟩
    ·simp only [hk,ne_eq,not_false_eq_true,if_true] at h;obtain ⟨g1,g2,g3⟩:=JC h (by simp only [KY,h1]) (by
      intro e he;simp only [List.mem_append,List.mem_singleton] at he;rcases he with he | he
      ·exact h2 e he
      ·omega)
     exact ⟨g1,g2,by simp at g3 ⊢;omega⟩
theorem Nu {p:List aj} {q:List au} (h:(jZ p q).2=0):Sct p (jZ p q).1:=by
 unfold jZ at h ⊢;by_cases hb:GV p=0
 ·have ok:=uX hb;have hl7:=ok.len;simp only [hb,ne_eq,not_true,if_false] at h ⊢;by_cases hl:(q.length:Int)=(p.length:Int)
  ·simp only [hl,not_true,if_false] at h ⊢;cases hv:ut p q with
   | inl e =>
    rw [hv] at h
    exfalso
    have key:∀ (T:List (aj×au)) (i:Nat) (v:Sec) (e:Int),dJ Hr i T v = .inl e→e≠0:=by
     intro T
     induction T with
     | nil=>intro i v e h;cases h
     | cons t T ih =>
      intro i v e h;simp only [dJ] at h;cases hf:Hr i v t with
      | inl e' =>
       rw [hf] at h;cases h;unfold Hr at hf;split at hf
       ·rename_i hs;cases hf;exact hs
       ·cases hf
      | inr v2=>rw [hf] at h;exact ih _ _ _ h
    exact key _ _ _ _ hv h
   | inr v =>
    rw [hv] at h;have so:=Ut (by omega) hv;obtain ⟨x1,x2,x3⟩:=JC hv rfl (fun e he=>by cases he);simp only at h ⊢;unfold KR at h ⊢;by_cases hs:iC v.2.2 > 512
    ·simp [hs] at h
    ·simp only [hs,if_false] at h ⊢;have hp:=so.pos;have hr:∀ x,x∈v.2.2→0≤x∧x≤512:=by
      intro x hx;rw [so.lens] at hx;obtain ⟨l,hl,rfl⟩:=List.mem_map.1 hx;have:=so.small l hl;omega
     obtain ⟨z1,z2⟩:=J9 hr (by omega);have T:(p.zip q).length≤7:=by simp;omega
     refine ⟨?_,?_,?_,x2,by show v.1.length≤7;simp at x3;omega,?_⟩
     ·intro o ho;simp only [D5,List.nil_append] at ho;obtain ⟨k,hk,rfl⟩:=List.mem_map.1 ho;have hk':(k:Int) < iC v.2.2:=by have:=List.mem_range.1 hk;omega
      obtain ⟨a1,a2⟩:=so.place k hk' (by omega);exact FY (wG a2.symm ok.num a1)
     ·intro hm;have:=(Du _ _ _ _ hm).2 (by simp);simp only [D5,List.nil_append] at this ⊢;exact this
     ·simp only [Ed,List.length_nil,List.length_range];omega
     ·simp only [Ed,List.length_nil,List.length_range];omega
  ·simp [hl] at h
 ·simp [hb] at h
theorem NY {a:ag} (h1:a.Bounds.length < 16777216) (h2:a.Elements.length < 16777216):jY a a=some true:=by
 unfold jY;rw [Jw h2 h2];simp only [Option.bind_some,beq_self_eq_true,not_true,if_false];rw [jy (step:=jY.s1 a a) a.Bounds (fun _=>(none:Option Bool)) (fun c=>Sum.inr c) (Sum.inl ()) rfl ?_ ?_ (by omega)]
 ·have:a.Bounds.findSome? (fun _=>(none:Option Bool))=none:=by simp
  rw [this];rfl
 ·intro i hi;simp only [jY.s1,eU hi,if_true,fD hi,Option.bind_some,beq_self_eq_true,Bool.and_self,not_true,if_false];rw [wn (by omega)]
 ·simp only [jY.s1,bu,if_false]
end Go.Sh
set_option linter.all false
namespace Go.Sh
open Go.Lx
theorem Py (rs:List aB) (h:rs.length < 1000):dw rs=some (match rs.findSome? (fun r=>if r.holds=true then none else some r.code) with | some c=>c | none=>0):=by
 unfold dw;rw [jy (step:=dw.s1 rs) rs (fun r=>if r.holds=true then none else some r.code) (fun c=>Sum.inr c) (Sum.inl ()) rfl ?_ ?_ (by omega)]
 ·cases rs.findSome? (fun r=>if r.holds=true then none else some r.code)<;>rfl
 ·intro i hi;simp only [dw.s1,eU hi,if_true,fD hi,Option.bind_some];by_cases e:rs[i].holds=true
  ·simp only [e,not_true,if_false,if_true];rw [wn (by omega)]
  ·simp only [e,not_false_eq_true,if_true];rfl
 ·simp only [dw.s1,bu,if_false]
theorem mZ (b:Bool) (c:Int):dw [aB.mk b c]=some (if b=true then 0 else c):=by
 rw [Py _ (by simp)];cases b<;>rfl
theorem RN (a b:Bool) (c d:Int):dw [aB.mk a c,aB.mk b d]=some (if a=true then (if b=true then 0 else d) else c):=by
 rw [Py _ (by simp)];cases a<;>cases b<;>rfl
theorem VR (x y:Int):dU [x,y]=some (if x=0 then y else x):=by
 unfold dU;rw [jy (step:=dU.s1 [x,y]) [x,y] (fun r=>if r=0 then none else some r) (fun c=>Sum.inr c) (Sum.inl ()) rfl ?_ ?_ (by simp)]
 ·by_cases h:x=0<;>by_cases k:y=0<;>simp [h,k]
 ·intro i hi;simp only [dU.s1,eU hi,if_true,fD hi,Option.bind_some];have hi2:i < 2:=by simpa using hi
  by_cases e:[x,y][i]=0
  ·simp only [e,not_true,if_false,if_true];rw [wn (by omega)]
  ·simp only [e,not_false_eq_true,if_true];rfl
 ·simp only [dU.s1,bu,if_false]
theorem Cb (a b c:Int):bV a b c=aT a b c:=by
 unfold bV aT;simp only [Bool.not_or,← decide_not]
 congr 1<;>exact decide_eq_decide.2 (by omega)
theorem Me {α:Type} {n:Nat} {a:α} (h:n≤16777216):EJ (n:Int) a=some (List.replicate n a):=by unfold EJ;rw [if_pos (by omega)];simp
def clean (n:ae):Bool :=
 (((((((n.Kind==0) || (n.Value==0))&&(((n.Kind==1) || ((n.Kind==8) || (n.Kind==9))) || (n.Var==0)))&&((aU n.Kind) || (n.B==0)))&&(((aU n.Kind) || (n.Kind==7)) || (n.A==0)))&&((n.Kind==1) || ((n.Subscripts.length:Int)==0)))&&((n.Kind==9) || ((n.Forms.length:Int)==0)))
theorem Nb (n:ae):fB n=some (clean n):=by
 unfold fB;by_cases h1:n.Kind=1
 ·rw [if_pos h1];unfold fB.j1 clean;simp [h1]
 ·rw [if_neg h1];by_cases h8:n.Kind=8
  ·rw [if_pos h8];unfold fB.j1 clean;simp [h8]
  ·rw [if_neg h8];unfold fB.j1 clean;have e1:(n.Kind==1)=false:=by simpa using h1
   have e8:(n.Kind==8)=false:=by simpa using h8
   simp only [e1,e8,Bool.false_or]
def NH (i:Nat) (n:ae):Bool:=(cO n).all fun k=>aT k 0 ((i:Int) - 1)
def MC (i:Nat) (n:ae):Int:=if ¬ aT n.Kind 0 9=true then 15 else if (NH i n&&clean n)=true then 0 else 3
def bump (b:List Int) (k:Int):List Int:=b.set k.toNat (w (b.getD k.toNat 0+1))
def OX (b:List Int) (n:ae):List Int:=(cO n).foldl bump b
theorem KW (b:List Int) (k:Int):(bump b k).length=b.length:=by simp [bump]
theorem xu:∀ (ks:List Int) (b:List Int),(ks.foldl bump b).length=b.length
 | [],b=>rfl
 | k::ks,b=>by rw [List.foldl_cons,xu ks,KW]
theorem BO (b:List Int) (n:ae):(OX b n).length=b.length:=xu _ _
theorem ku {a b c:Int}:aT a b c=true↔b≤a∧a≤c:=by unfold aT;simp
theorem at_in {α:Type} [Inhabited α] {xs:List α} {k:Int} {d:α} (h0:0≤k) (h:k < xs.length):at_ xs k=some (xs.getD k.toNat d):=by
 have e:k=((k.toNat:Nat):Int):=by omega
 rw [e,fD (by omega)];simp only [Int.toNat_natCast]
 congr 1
 rw [List.getD_eq_getElem?_getD,List.getElem?_eq_getElem (by omega)];rfl
theorem LV (i:Nat):∀ (ks:List Int) (j:Nat) (b:List Int),dJ (ρ:=Int×List Int) (fun _ b k=>if aT k 0 ((i:Int) - 1)=true then .inr (bump b k) else .inl (3,b)) j ks b =
  if ks.all (fun k=>aT k 0 ((i:Int) - 1))=true then .inr (ks.foldl bump b) else .inl (3,((dJ (ρ:=Int×List Int) (fun _ b k=>if aT k 0 ((i:Int) - 1)=true then .inr (bump b k) else .inl (3,b)) j ks b).elim (fun e=>e.2) id))
 | [],j,b=>by simp [dJ]
 | k::ks,j,b=>by
  simp only [dJ,List.all_cons,List.foldl_cons];by_cases h:aT k 0 ((i:Int) - 1)=true
  ·simp only [h,if_true,Bool.true_and];exact LV i ks (j+1) (bump b k)
  ·simp [h]
theorem U3 {i:Nat} {n:ae} {b:List Int} (hi:i < b.length) (hb:b.length < 1000):∃ b',eH i n b=some (MC i n,b')∧(MC i n=0→b'=OX b n):=by
 unfold eH MC;by_cases hk:aT n.Kind 0 9=true
 ·simp only [hk,not_true,if_false];have hw:w ((i:Int) - 1)=(i:Int) - 1:=uI (by omega) (by omega);have hol:(cO n).length < 3:=by unfold cO;split<;>(try split)<;>simp
  rw [iI (step:=eH.s1 i n) (cO n) (fun j b=>(j,b)) (fun r=>Sum.inr r) (fun b=>Sum.inl b) (fun _ b k=>if aT k 0 ((i:Int) - 1)=true then .inr (bump b k) else .inl (3,b)) (fun _ b'=>b'.length=b.length) (a:=b) rfl ?_ ?_ rfl (by omega)]
  ·rw [LV];unfold NH;by_cases ha:(cO n).all (fun k=>aT k 0 ((i:Int) - 1))=true
   ·simp only [ha,if_true,Option.bind_some,Nb,mZ,Bool.true_and];exact ⟨_,rfl,fun _=>rfl⟩
   ·simp only [ha,Bool.false_eq_true,if_false,Option.bind_some,Bool.false_and];exact ⟨_,rfl,fun h=>by simp at h⟩
  ·intro j hj b' hb';refine ⟨?_,?_⟩
   ·simp only [eH.s1,eU hj,if_true,fD hj,Option.bind_some,hw];by_cases hin:aT (cO n)[j] 0 ((i:Int) - 1)=true
    ·simp only [hin,not_true,if_false,if_true];have hr:=ku.1 hin;rw [at_in (d:=0) hr.1 (by omega),wn (by omega)];rfl
    ·simp only [hin,not_false_eq_true,if_true];rfl
   ·intro b'' e;split at e
    ·cases e;rw [KW];exact hb'
    ·cases e
  ·intro b' hb';simp only [eH.s1,bu,if_false]
 ·simp only [hk,not_false_eq_true,if_true];exact ⟨b,rfl,fun h=>by simp at h⟩
def nX (i:Nat) (b:List Int) (n:ae):Sum Int (List Int):=if MC i n=0 then .inr (OX b n) else .inl (MC i n)
theorem vI {α β ρ τ:Type} {f:Nat→β→α→Sum ρ β} {g:Nat→β→α→Sum τ β} (π:ρ→τ) (Inv:β→Prop) (N:Nat)
  (h:∀ i b x,i < N→Inv b→(match f i b x with | .inl r=>g i b x = .inl (π r) | .inr b'=>g i b x = .inr b'∧Inv b')):∀ (xs:List α) (i:Nat) (b:β),i+xs.length=N→Inv b →
  (match dJ f i xs b with | .inl r=>dJ g i xs b = .inl (π r) | .inr b'=>dJ g i xs b = .inr b')
 | [],i,b,_,_=>rfl
 | x::xs,i,b,hN,hI=>by
  have h1:=h i b x (by simp at hN;omega) hI;simp only [dJ];cases hf:f i b x with
  | inl r=>rw [hf] at h1;simp only at h1 ⊢;rw [h1]
  | inr b' =>
   rw [hf] at h1;simp only at h1 ⊢;rw [h1.1];exact vI π Inv N h xs (i+1) b' (by simp at hN;omega) h1.2
def c1F (i:Nat) (b:List Int) (n:ae):Sum (Int×Int×List Int) (List Int) :=
 match eH i n b with
 | some (c,b')=>if c=0 then .inr b' else .inl ((i:Int),c,b')
 | none => .inr b
theorem Ud (e:List ae) (he:e.length < 1000):∃ k b',aK e (List.replicate e.length 0)=some (k,(match dJ nX 0 e (List.replicate e.length 0) with | .inl c=>c | .inr _=>0),b') ∧
  (∀ b,dJ nX 0 e (List.replicate e.length 0) = .inr b→b'=b)∧(∀ c,dJ nX 0 e (List.replicate e.length 0) = .inl c→c≠0):=by
 have key:∀ i (b:List Int) n,i < e.length→b.length=e.length→(match c1F i b n with | .inl r=>nX i b n = .inl r.2.1∧r.2.1≠0 | .inr b'=>nX i b n = .inr b'∧b'.length=e.length):=by
  intro i b n hi hb;obtain ⟨b',h1,h2⟩:=U3 (n:=n) (show i < b.length by omega) (by omega);unfold c1F nX;rw [h1];by_cases hn:MC i n=0
  ·simp only [hn,if_true];rw [h2 hn];exact ⟨rfl,by rw [BO];exact hb⟩
  ·simp only [hn,if_false];exact ⟨trivial,hn⟩
 unfold aK;rw [iI (step:=aK.s1 e) e (fun i b=>(i,b)) (fun r=>Sum.inr r) (fun b=>Sum.inl b) c1F (fun _ b=>b.length=e.length) (a:=List.replicate e.length 0) rfl ?_ ?_ (by simp) (by omega)]
 ·have h3:=vI (f:=c1F) (g:=nX) (fun r=>r.2.1) (fun b=>b.length=e.length) e.length (fun i b x hi hb=>by
   have:=key i b x hi hb;cases hc:c1F i b x with
   | inl r=>rw [hc] at this;exact this.1
   | inr b'=>rw [hc] at this;exact this) e 0 (List.replicate e.length 0) (by simp) (by simp)
  have h4:=vI (f:=c1F) (g:=fun i b n=>match c1F i b n with | .inl r=>if r.2.1=0 then .inr b else .inl r.2.1 | .inr b' => .inr b') (fun r=>r.2.1) (fun b=>b.length=e.length) e.length (fun i b x hi hb=>by
   have:=key i b x hi hb;cases hc:c1F i b x with
   | inl r=>rw [hc] at this;simp only [this.2,if_false]
   | inr b'=>rw [hc] at this;simp only;exact ⟨trivial,this.2⟩) e 0 (List.replicate e.length 0) (by simp) (by simp)
  have h5:∀ (xs:List ae) (i:Nat) (b:List Int) r,i+xs.length=e.length→b.length=e.length→dJ c1F i xs b = .inl r→r.2.1≠0:=by
   intro xs
   induction xs with
   | nil=>intro i b r _ _ h;cases h
   | cons x xs ih =>
    intro i b r hN hb h;have:=key i b x (by simp at hN;omega) hb;simp only [dJ] at h;cases hc:c1F i b x with
    | inl r'=>rw [hc] at this h;cases h;exact this.2
    | inr b'=>rw [hc] at this h;exact ih (i+1) b' r (by simp at hN;omega) this.2 h
  cases hs:dJ c1F 0 e (List.replicate e.length 0) with
  | inl r =>
   rw [hs] at h3;simp only at h3;rw [h3];refine ⟨r.1,r.2.2,rfl,?_,?_⟩
   ·intro b h;cases h
   ·intro c h;cases h;exact h5 _ _ _ r (by simp) (by simp) hs
  | inr b' =>
   rw [hs] at h3;simp only at h3;rw [h3];refine ⟨0,b',rfl,?_,?_⟩
   ·intro b h;cases h;rfl
   ·intro c h;cases h
 ·intro i hi b hb;have hc:=key i b e[i] hi hb;refine ⟨?_,?_⟩
  ·simp only [aK.s1,eU hi,if_true,fD hi,Option.bind_some];obtain ⟨b',h1,h2⟩:=U3 (n:=e[i]) (show i < b.length by omega) (by omega);unfold c1F;rw [h1];simp only [Option.bind_some];by_cases hn:MC i e[i]=0
   ·simp only [hn,not_true,if_false,if_true];rw [wn (by omega)]
   ·simp only [hn,not_false_eq_true,if_true,if_false]
  ·intro b' h;rw [h] at hc;exact hc.2
 ·intro b hb;simp only [aK.s1,bu,if_false]
def rQ (N:Nat):Nat→List Int→Int
 | _,[]=>0
 | i,x::xs=>if ((i+1=N∧x=0)∨(i+1≠N∧x=1)) then rQ N (i+1) xs else 3
def Bc (e:List ae):Int :=
 if e.length=0 then 17 else if 40 < e.length then 8 else
 match dJ nX 0 e (List.replicate e.length 0) with
 | .inl c=>c
 | .inr b=>rQ e.length 0 b
theorem G9 (N:Nat):∀ (xs:List Int) (i:Nat),dJ (β:=Unit) (ρ:=Int) (fun i b x=>if ((i+1=N∧x=0)∨(i+1≠N∧x=1)) then .inr b else .inl 3) i xs ()=if rQ N i xs=0 then .inr () else .inl 3
 | [],i=>rfl
 | x::xs,i=>by
  simp only [dJ,rQ];by_cases h:((i+1=N∧x=0)∨(i+1≠N∧x=1))
  ·simp only [h,if_true];exact G9 N xs (i+1)
  ·simp [h]
theorem yX (N:Nat):∀ (xs:List Int) (i:Nat),rQ N i xs=0∨rQ N i xs=3
 | [],i => .inl rfl
 | x::xs,i=>by
  simp only [rQ];split
  ·exact yX N xs (i+1)
  ·exact .inr rfl
theorem VL {b:List Int} {N:Nat} (hN:0 < N) (hb:b.length=N) (hl:N < 1000):∃ k,aY b (w ((N:Int) - 1))=some (k,rQ N 0 b):=by
 have hw:w ((N:Int) - 1)=(N:Int) - 1:=uI (by omega) (by omega);rw [hw];unfold aY;rw [iI (step:=aY.s1 b ((N:Int) - 1)) b (fun i (_:Unit)=>i) (fun (r:Int×Int)=>Sum.inr r) (fun _=>Sum.inl ()) (fun i b x=>if ((i+1=N∧x=0)∨(i+1≠N∧x=1)) then .inr b else .inl ((i:Int),3)) (fun _ _=>True) rfl ?_ ?_ trivial (by omega)]
 ·have h3:=vI (f:=fun i (b:Unit) (x:Int)=>if ((i+1=N∧x=0)∨(i+1≠N∧x=1)) then Sum.inr b else Sum.inl ((i:Int),(3:Int))) (g:=fun i b x=>if ((i+1=N∧x=0)∨(i+1≠N∧x=1)) then .inr b else .inl (3:Int)) (fun r=>r.2) (fun _=>True) b.length (fun i b x _ _=>by
   by_cases h:((i+1=N∧x=0)∨(i+1≠N∧x=1))
   ·simp only [h,if_true];exact ⟨trivial,trivial⟩
   ·simp only [h,if_false]) b 0 () (by simp) trivial
  rw [G9] at h3;cases hs:dJ (fun i (b:Unit) (x:Int)=>if ((i+1=N∧x=0)∨(i+1≠N∧x=1)) then Sum.inr b else Sum.inl ((i:Int),(3:Int))) 0 b () with
  | inl r =>
   rw [hs] at h3;simp only at h3;rcases yX N b 0 with h | h
   ·rw [h] at h3;simp at h3
   ·rw [h] at h3 ⊢;simp at h3;obtain ⟨k,c⟩:=r;simp only at h3;subst h3;exact ⟨k,rfl⟩
  | inr u =>
   rw [hs] at h3;simp only at h3;rcases yX N b 0 with h | h
   ·rw [h];exact ⟨0,rfl⟩
   ·rw [h] at h3;simp at h3
 ·intro i hi u _;refine ⟨?_,fun _ _=>trivial⟩;simp only [aY.s1,eU hi,if_true,fD hi,Option.bind_some,mP,mZ];by_cases e1:i+1=N
  ·have e2:((i:Int)==(N:Int) - 1)=true:=by simp;omega
   have e3:((i:Int) != (N:Int) - 1)=false:=by simp;omega
   simp only [e2,e3,Bool.true_and,Bool.false_and,Bool.or_false,e1,true_and,ne_eq,not_true,false_and,or_false];by_cases e4:b[i]=0
   ·simp [e4];rw [wn (by omega)];congr 3
   ·simp [e4]
  ·have e2:((i:Int)==(N:Int) - 1)=false:=by simp;omega
   have e3:((i:Int) != (N:Int) - 1)=true:=by simp;omega
   simp only [e2,e3,Bool.true_and,Bool.false_and,Bool.false_or,e1,false_and,ne_eq,not_false_eq_true,true_and,false_or];by_cases e4:b[i]=1
   ·simp [e4];rw [wn (by omega)];congr 3
   ·simp [e4]
 ·intro u _;simp only [aY.s1,bu,if_false]
theorem BI:∀ (xs:List ae) (i:Nat) (b b':List Int),dJ nX i xs b = .inr b'→b'.length=b.length
 | [],i,b,b',h=>by cases h;rfl
 | x::xs,i,b,b',h=>by
  simp only [dJ,nX] at h;split at h
  ·cases h
  ·rename_i b1 hb1
   split at hb1
   ·cases hb1;rw [BI xs (i+1) _ b' h,BO]
   ·cases hb1
theorem Np (e:List ae) (he:e.length < 1000):oG e=some (Bc e):=by
 unfold oG Bc;rw [RN];by_cases h0:e.length=0
 ·simp [h0]
 ·have h0':decide ((e.length:Int) > 0)=true:=by simp;omega
  rw [if_pos h0',if_neg h0];by_cases h4:40 < e.length
  ·have:decide ((e.length:Int)≤40)=false:=by simp;omega
   rw [this,if_pos h4];rfl
  ·have:decide ((e.length:Int)≤40)=true:=by simp;omega
   rw [this,if_neg h4];simp only [if_true,Option.bind_some,not_true,if_false,Me (show e.length≤16777216 by omega)];obtain ⟨k,b',h1,h2,h3⟩:=Ud e he;rw [h1];simp only [Option.bind_some];cases hs:dJ nX 0 e (List.replicate e.length 0) with
   | inl c=>simp only;rw [if_pos (h3 c hs)]
   | inr b =>
    have:=h2 b hs;subst this;have hl:=BI _ _ _ _ hs;simp only [List.length_replicate] at hl;obtain ⟨k2,h5⟩:=VL (b:=b') (N:=e.length) (by omega) hl (by omega);simp only [not_true,if_false,h5,Option.bind_some]
end Go.Sh
set_option linter.all false
namespace Go.Sh
open Go.Lx
theorem U9 (i N:Nat) (h:i < N) (hN:N < 1000):qc (decide ((i:Int) < w ((N:Int) - 1)))=if i+1=N then 0 else 1:=by
 rw [uI (by omega) (by omega)];unfold qc;by_cases e:i+1=N
 ·have:decide ((i:Int) < (N:Int) - 1)=false:=by simp;omega
  simp [this,e]
 ·have:decide ((i:Int) < (N:Int) - 1)=true:=by simp;omega
  simp [this,e]
theorem NW (e:List ae) (b:List Int) (hb:b.length=e.length) (hl:e.length < 1000):dO (aZ.s4 e b) 0=some (if rQ e.length 0 b=0 then .inl () else .inr (rQ e.length 0 b)):=by
 rw [iI (step:=aZ.s4 e b) b (fun i (_:Unit)=>i) (fun (r:Int)=>Sum.inr r) (fun _=>Sum.inl ()) (fun i b x=>if ((i+1=e.length∧x=0)∨(i+1≠e.length∧x=1)) then .inr b else .inl 3) (fun _ _=>True) rfl ?_ ?_ trivial (by omega)]
 ·rw [G9];rcases yX e.length b 0 with h | h
  ·rw [h];rfl
  ·rw [h];rfl
 ·intro i hi u _;refine ⟨?_,fun _ _=>trivial⟩;simp only [aZ.s4,eU (show i < e.length by omega),if_true,fD hi,Option.bind_some];rw [U9 i e.length (by omega) hl];by_cases e1:i+1=e.length
  ·by_cases e2:b[i]=0
   ·simp only [e1,e2,if_true,not_true,if_false,true_and,true_or];rw [wn (by omega)];rw [← e1]
   ·simp [e1,e2]
  ·by_cases e2:b[i]=1
   ·simp only [e1,e2,if_true,not_true,if_false,ne_eq,not_false_eq_true,true_and,or_true];rw [wn (by omega)]
   ·simp [e1,e2]
 ·intro u _;have:((b.length:Nat):Int)=(e.length:Int):=by omega
  rw [this];simp only [aZ.s4,bu,if_false]
theorem QK {i:Nat} {b:List Int} {n:ae} {a8:Bool×Bool×Bool×Bool×Bool×Bool} (hi:i < b.length) (hb:b.length < 1000) (h:a8.2.2.2.2.2=true→aT n.B 0 ((i:Int) - 1)=true) (b0:List Int) (h0:b0.length=b.length) :
  aZ.j3 ((i:Int),b) n a8 b0=some (.inl (((i+1:Nat):Int),if a8.2.2.2.2.2=true then bump b0 n.B else b0)):=by
 unfold aZ.j3;cases ha:a8.2.2.2.2.2 with
 | true =>
  have hr:=ku.1 (h ha);simp only [if_true];rw [at_in (d:=0) hr.1 (by omega),wn (by omega)];rfl
 | false=>simp only [Bool.false_eq_true,if_false];rw [wn (by omega)]
theorem VX {i:Nat} {b:List Int} {n:ae} {a8:Bool×Bool×Bool×Bool×Bool×Bool} (hi:i < b.length) (hb:b.length < 1000)
  (hops:cO n=(if a8.2.2.2.2.1=true then [n.A] else [])++(if a8.2.2.2.2.2=true then [n.B] else []))
  (hcl:clean n=!(((((((!a8.1)&&(n.Value != 0)) || ((!a8.2.1)&&(n.Var != 0))) || ((!a8.2.2.1)&&(decide ((n.Subscripts.length:Int) > 0)))) || ((!a8.2.2.2.1)&&(decide ((n.Forms.length:Int) > 0)))) || ((!a8.2.2.2.2.1)&&(n.A != 0))) || ((!a8.2.2.2.2.2)&&(n.B != 0)))) (hk:aT n.Kind 0 9=true) :
  aZ.j2 ((i:Int),b) n a8=some (match nX i b n with | .inl c => .inr (.inr c) | .inr b' => .inl (((i+1:Nat):Int),b')):=by
 unfold aZ.j2 nX MC;simp only [hk,not_true,if_false];have hw:w ((i:Int) - 1)=(i:Int) - 1:=uI (by omega) (by omega);have hX:(((((((!a8.1)&&(n.Value != 0)) || ((!a8.2.1)&&(n.Var != 0))) || ((!a8.2.2.1)&&(decide ((n.Subscripts.length:Int) > 0)))) || ((!a8.2.2.2.1)&&(decide ((n.Forms.length:Int) > 0)))) || ((!a8.2.2.2.2.1)&&(n.A != 0))) || ((!a8.2.2.2.2.2)&&(n.B != 0)))=!(clean n):=by rw [hcl,Bool.not_not]
 by_cases hc:clean n=true
 ·rw [if_neg (by rw [hX,hc];simp)];simp only [Cb,hw];unfold NH OX;rw [hops,hc];obtain ⟨a1,a2,a3,a4,a5,a6⟩:=a8;simp only at *
  cases a5<;>cases a6
  ·simp;rw [QK hi hb (by simp) b rfl];simp
  ·by_cases hB:aT n.B 0 ((i:Int) - 1)=true
   ·simp [hB];rw [QK hi hb (by simp [hB]) b rfl];simp
   ·simp [hB]
  ·by_cases hA:aT n.A 0 ((i:Int) - 1)=true
   ·have hr:=ku.1 hA;simp [hA];rw [at_in (d:=0) hr.1 (by omega)];simp only [Option.bind_some];rw [QK hi hb (by simp) _ (by simp)];simp [bump]
   ·simp [hA]
  ·by_cases hA:aT n.A 0 ((i:Int) - 1)=true
   ·by_cases hB:aT n.B 0 ((i:Int) - 1)=true
    ·have hr:=ku.1 hA;simp [hA,hB];rw [at_in (d:=0) hr.1 (by omega)];simp only [Option.bind_some];rw [QK hi hb (by simp [hB]) _ (by simp)];simp [bump]
    ·simp [hA,hB]
   ·simp [hA]
 ·have:clean n=false:=eq_false_of_ne_true hc;rw [if_pos (by rw [hX,this];rfl)];simp [this]
theorem kinds {k:Int} (h:aT k 0 9=true):k=0∨k=1∨k=2∨k=3∨k=4∨k=5∨k=6∨k=7∨k=8∨k=9:=by
 have:=ku.1 h;omega
theorem NK {e:List ae} {i:Nat} (hi:i < e.length) (he:e.length < 1000) {b:List Int} (hb:b.length=e.length) :
  aZ.s1 e ((i:Int),b)=some (match nX i b e[i] with | .inl c => .inr (.inr c) | .inr b' => .inl (((i+1:Nat):Int),b')):=by
 simp only [aZ.s1,eU hi,if_true,fD hi,Option.bind_some,Cb];generalize e[i]=n;by_cases hk:aT n.Kind 0 9=true
 ·simp only [hk,not_true,if_false];have key:=fun (a8:Bool×Bool×Bool×Bool×Bool×Bool) h1 h2=>VX (i:=i) (b:=b) (n:=n) (a8:=a8) (by omega) (by omega) h1 h2 hk
  have hz:∀ m:Nat,decide ((m:Int) > 0)=!((m:Int)==0):=by
   intro m;by_cases h:m=0
   ·subst h;rfl
   ·have h1:decide ((m:Int) > 0)=true:=by simp;omega
    have h2:((m:Int)==0)=false:=by simp;exact h
    rw [h1,h2];rfl
  have hsub:=hz n.Subscripts.length;have hfor:=hz n.Forms.length;rcases kinds hk with q | q | q | q | q | q | q | q | q | q<;>simp only [q,if_true,if_false,show (1:Int)≠0 by omega,show ((2:Int)=0)=False by simp,show ((2:Int)=1)=False by simp,show ((2:Int)=7)=False by simp,show ((2:Int)=8)=False by simp,show ((2:Int)=9)=False by simp,Int.reduceEq] <;>
   (refine key _ ?_ ?_
    ·simp [cO,aU,q]
    ·unfold clean;rw [hsub,hfor];generalize ((n.Subscripts.length:Int)==0)=u1;generalize ((n.Forms.length:Int)==0)=u2;simp only [aU,q,bne];generalize (n.Value==0)=u3;generalize (n.Var==0)=u4;generalize (n.A==0)=u5;generalize (n.B==0)=u6;revert u1 u2 u3 u4 u5 u6;decide)
 ·simp only [hk,not_false_eq_true,if_true];unfold nX MC;simp [hk]
theorem GM (e:List ae) (he:e.length < 1000):aZ e=some (Bc e):=by
 unfold aZ Bc;by_cases h0:e.length=0
 ·simp [h0]
 ·rw [if_neg (by omega),if_neg h0];by_cases h4:40 < e.length
  ·rw [if_pos (by omega),if_pos h4]
  ·rw [if_neg (by omega),if_neg h4];rw [Me (by omega)];simp only [Option.bind_some];rw [iI (step:=aZ.s1 e) e (fun i b=>(i,b)) (fun r=>Sum.inr r) (fun b=>Sum.inl b) nX (fun _ b=>b.length=e.length) (a:=List.replicate e.length 0) rfl ?_ ?_ (by simp) (by omega)]
   ·cases hs:dJ nX 0 e (List.replicate e.length 0) with
    | inl c=>rfl
    | inr b =>
     have hl:=BI _ _ _ _ hs;simp only [List.length_replicate] at hl;simp only [Option.bind_some];rw [NW e b hl he];rcases yX e.length b 0 with h | h<;>rw [h]<;>rfl
   ·intro i hi b hb;refine ⟨?_,?_⟩
    ·rw [NK hi he hb];cases nX i b e[i]<;>rfl
    ·intro b' h;unfold nX at h;split at h
     ·cases h;rw [BO];exact hb
     ·cases h
   ·intro b hb;simp only [aZ.s1,bu,if_false]
end Go.Sh
set_option linter.all false
namespace Go.Sh
open Go.Lx
def OO {ρ τ β γ:Type} (π:ρ→τ) (R:β→γ→Prop):Sum ρ β→Sum τ γ→Prop
 | .inl r, .inl t=>t=π r
 | .inr b, .inr c=>R b c
 | _,_=>False
theorem Jh {α β γ ρ τ:Type} {f:Nat→β→α→Sum ρ β} {g:Nat→γ→α→Sum τ γ} (π:ρ→τ) (R:Nat→β→γ→Prop) (e:List α)
  (h:∀ i (hi:i < e.length) b c,R i b c→OO π (R (i+1)) (f i b e[i]) (g i c e[i])) :
  ∀ (ys:List α) (i:Nat) (b:β) (c:γ),e.drop i=ys→i≤e.length→R i b c→OO π (R e.length) (dJ f i ys b) (dJ g i ys c)
 | [],i,b,c,hd,hi,hR=>by
  have:i=e.length:=by have:=congrArg List.length hd;simp at this;omega
  subst this;exact hR
 | y::ys,i,b,c,hd,hi,hR=>by
  have hlt:i < e.length:=by have:=congrArg List.length hd;simp at this;omega
  have hy:e[i]=y∧e.drop (i+1)=ys:=by
   rw [List.drop_eq_getElem_cons hlt] at hd;injection hd with h1 h2
   exact ⟨h1,h2⟩
  have h1:=h i hlt b c hR;rw [hy.1] at h1;simp only [dJ];cases hf:f i b y with
  | inl r =>
   rw [hf] at h1;cases hg:g i c y with
   | inl t=>rw [hg] at h1;exact h1
   | inr c'=>rw [hg] at h1;exact h1.elim
  | inr b' =>
   rw [hf] at h1;cases hg:g i c y with
   | inl t=>rw [hg] at h1;exact h1.elim
   | inr c'=>rw [hg] at h1;exact Jh π R e h ys (i+1) b' c' hy.2 hlt h1
theorem Ig:∀ (xs:List ae) (i:Nat) (b b':List Int),dJ nX i xs b = .inr b'→∀ k (hk:k < xs.length),MC (i+k) xs[k]=0
 | [],i,b,b',h,k,hk=>by simp at hk
 | x::xs,i,b,b',h,k,hk=>by
  simp only [dJ] at h;cases hs:nX i b x with
  | inl c=>rw [hs] at h;cases h
  | inr b1 =>
   rw [hs] at h;have h0:MC i x=0:=by unfold nX at hs;split at hs;assumption;cases hs
   cases k with
   | zero=>simpa using h0
   | succ k =>
    have:=Ig xs (i+1) b1 b' h k (by simpa using hk);rw [show i+1+k=i+(k+1) by omega] at this;simpa using this
structure Eh (e:List ae):Prop where
 pos:0 < e.length
 len:e.length≤40
 node:∀ i (hi:i < e.length),MC i e[i]=0
 use:∃ b,dJ nX 0 e (List.replicate e.length 0) = .inr b∧rQ e.length 0 b=0
theorem N7:∀ (xs:List ae) (i:Nat) (b:List Int) (c:Int),dJ nX i xs b = .inl c→c≠0
 | [],i,b,c,h=>by cases h
 | x::xs,i,b,c,h=>by
  simp only [dJ] at h;cases hs:nX i b x with
  | inl c'=>rw [hs] at h;cases h;unfold nX at hs;split at hs;cases hs;cases hs;assumption
  | inr b1=>rw [hs] at h;exact N7 xs (i+1) b1 c h
theorem Kr {e:List ae} (h:Bc e=0):Eh e:=by
 unfold Bc at h;split at h
 ·cases h
 ·rename_i h0
  split at h
  ·cases h
  ·rename_i h4
   cases hs:dJ nX 0 e (List.replicate e.length 0) with
   | inl c=>rw [hs] at h;exact absurd h (N7 _ _ _ _ hs)
   | inr b =>
    rw [hs] at h;exact ⟨by omega,by omega,fun i hi=>by have:=Ig e 0 _ b hs i hi;simpa using this,b,hs,h⟩
structure EX (i:Nat) (n:ae):Prop where
 kind:aT n.Kind 0 9=true
 ops:NH i n=true
 cl:clean n=true
theorem TL {i:Nat} {n:ae} (h:MC i n=0):EX i n:=by
 unfold MC at h;split at h
 ·cases h
 ·rename_i h1
  split at h
  ·rename_i h2
   simp only [Bool.and_eq_true] at h2;exact ⟨by simpa using h1,h2.1,h2.2⟩
  ·cases h
theorem EX.A {i:Nat} {n:ae} (h:EX i n) (hk:n.Kind=7∨aU n.Kind=true):0≤n.A∧n.A < i:=by
 have h2:=h.ops;unfold NH cO at h2;rcases hk with q | q
 ·simp [q,aU] at h2;have:=ku.1 h2;omega
 ·simp [q] at h2;have:=ku.1 h2.1;omega
theorem EX.B {i:Nat} {n:ae} (h:EX i n) (hk:aU n.Kind=true):0≤n.B∧n.B < i:=by
 have h2:=h.ops;unfold NH cO at h2;simp [hk] at h2;have:=ku.1 h2.2;omega
theorem Lu {n:ae} (hk:aT n.Kind 0 9=true) (h0:n.Kind≠0) (h1:n.Kind≠1) (h7:n.Kind≠7) (h8:n.Kind≠8) (h9:n.Kind≠9):aU n.Kind=true:=by
 have:=ku.1 hk;unfold aU;simp;omega
def yR:ay:=ay.mk [] [] false
def nY (l:List ag) (v:Int) (q:List au):ay×Int :=
 match at_ l v with
 | none=>(yR,6)
 | some a=>((jZ a.Bounds q).1,if (jZ a.Bounds q).2=0 then (if (jZ a.Bounds q).1.Offsets.length≤60 then 0 else 8) else (jZ a.Bounds q).2)
theorem zH {α:Type} {xs:List α} {k:Int}:at_ xs k=none↔¬ aT k 0 ((xs.length:Int) - 1)=true:=by
 rw [ku];unfold at_;by_cases h:0≤k
 ·rw [if_pos h,List.getElem?_eq_none_iff];omega
 ·rw [if_neg h];simp;omega
theorem LJ {l:List ag} {v:Int} {q:List au} (hl:l.length < 1000) (hq:∀ s,s∈q→s.List.length < 16777216):kw l v q=some (nY l v q):=by
 unfold kw nY;rw [uI (by omega) (by omega)];cases ha:at_ l v with
 | none=>rw [if_pos (zH.1 ha)];rfl
 | some a =>
  have:aT v 0 ((l.length:Int) - 1)=true:=by
   have h1:=mt zH.2 (by rw [ha];simp:¬ at_ l v=none);simpa using h1
  rw [if_neg (by simp [this])];simp only [Option.bind_some,IA a.Bounds q hq,mZ,VR];by_cases h1:(jZ a.Bounds q).1.Offsets.length≤60
  ·have:decide (((jZ a.Bounds q).1.Offsets.length:Int)≤60)=true:=by simp;omega
   simp only [this,h1,if_true]
  ·have:decide (((jZ a.Bounds q).1.Offsets.length:Int)≤60)=false:=by simp;omega
   simp only [this,h1,if_false,Bool.false_eq_true]
def gK (l:List ag) (i:Nat) (out:List (List Int)) (n:ae):Sum Int (List (List Int)) :=
 if n.Kind=0 then (if aT n.Value (-2147483648) 2147483647=true then .inr (out++[[]]) else .inl 2)
 else if n.Kind=1 then (if (nY l n.Var n.Subscripts).2=0 then .inr (out++[(nY l n.Var n.Subscripts).1.Extents]) else .inl (nY l n.Var n.Subscripts).2)
 else if n.Kind=7 then .inr (out++[out.getD n.A.toNat []])
 else if out.getD n.A.toNat []≠[]∧out.getD n.B.toNat []≠[]∧out.getD n.A.toNat []≠out.getD n.B.toNat [] then .inl 10
 else .inr (out++[if out.getD n.A.toNat []=[] then out.getD n.B.toNat [] else out.getD n.A.toNat []])
def shE (l:List ag) (e:List ae):Sum Int (List (List Int)):=dJ (gK l) 0 e []
def odd (n:ae):Bool:=(n.Kind==8) || (n.Kind==9)
def rG (l:List ag) (e:List ae):Int :=
 if Bc e≠0 then Bc e else if e.any odd=true then 15 else match shE l e with | .inl c=>c | .inr _=>0
def Ko (l:List ag) (e:List ae):List (List Int):=match shE l e with | .inl _=>[] | .inr out=>out
theorem Aj {l:List ag} {i:Nat} {out out':List (List Int)} {n:ae} (h:gK l i out n = .inr out'):out'.length=out.length+1:=by
 unfold gK at h
 repeat' split at h
 all_goals first | (cases h;simp) | (cases h;done)
theorem PM {l:List ag} {i:Nat} {out:List (List Int)} {n:ae} {c:Int} (h:gK l i out n = .inl c):c≠0:=by
 unfold gK at h
 repeat' split at h
 all_goals first | (cases h;first | assumption | simp) | (cases h;done)
def Small (e:List ae):Prop:=e.length < 1000∧∀ n,n∈e→∀ s,s∈n.Subscripts→s.List.length < 16777216
theorem OI {a b:List Int} (ha:a.length < 16777216):slices_Equal_int a b=some (a==b):=by
 unfold slices_Equal_int;by_cases h:a.length=b.length
 ·rw [if_neg (by omega)];rw [iI (step:=slices_Equal_int.s1 a b) a (fun i (_:Unit)=>i) (fun (r:Bool)=>Sum.inr r) (fun _=>Sum.inl ()) (fun i u x=>if x=b.getD i 0 then .inr u else .inl false) (fun _ _=>True) rfl ?_ ?_ trivial (by omega)]
  ·have key:∀ (xs ys:List Int) (i:Nat),b.drop i=ys→xs.length=ys.length→dJ (ρ:=Bool) (fun i (u:Unit) x=>if x=b.getD i 0 then .inr u else .inl false) i xs ()=if xs=ys then .inr () else .inl false:=by
    intro xs
    induction xs with
    | nil=>intro ys i _ hy;cases ys with | nil=>rfl | cons _ _=>simp at hy
    | cons x xs ih =>
     intro ys i hd hy;cases ys with
     | nil=>simp at hy
     | cons y ys =>
      have hlt:i < b.length:=by have:=congrArg List.length hd;simp at this;omega
      rw [List.drop_eq_getElem_cons hlt] at hd;injection hd with h1 h2
      simp only [dJ];have e1:b.getD i 0=y:=by rw [List.getD_eq_getElem?_getD,List.getElem?_eq_getElem hlt];exact h1
      rw [e1];by_cases hx:x=y
      ·simp only [hx,if_true];rw [ih ys (i+1) h2 (by simpa using hy)];simp
      ·simp [hx]
   rw [key a b 0 (by simp) h];by_cases e:a=b
   ·simp [e]
   ·have:(a==b)=false:=by simpa using e
    simp [e,this]
  ·intro i hi u _;refine ⟨?_,fun _ _=>trivial⟩;simp only [slices_Equal_int.s1,eU hi,if_true,fD hi,fD (show i < b.length by omega),Option.bind_some];have e1:b.getD i 0=b[i]:=by rw [List.getD_eq_getElem?_getD,List.getElem?_eq_getElem (by omega)];rfl
   rw [e1];by_cases hx:a[i]=b[i]
   ·simp only [hx,not_true,if_false,if_true];rw [wn (by omega)]
   ·simp [hx]
  ·intro u _;simp only [slices_Equal_int.s1,bu,if_false]
 ·rw [if_pos (by omega)];have:(a==b)=false:=by simp;intro q;exact h (by rw [q])
  rw [this]
end Go.Sh
set_option linter.all false
namespace Go.Sh
open Go.Lx
theorem Uj (e:List ae) (he:e.length < 1000):bz e=some (e.any odd):=by
 unfold bz aC;obtain ⟨k,hk⟩:=wJ (step:=aC.s1 e) e odd (fun i=>Sum.inr i) (Sum.inl ()) (s:=0) rfl (fun i hi=>by
  simp only [aC.s1,eU hi,if_true,fD hi,Option.bind_some,lF];by_cases o:odd e[i]=true
  ·have:((e[i].Kind==8) || (e[i].Kind==9))=true:=o;simp only [this,o,if_true]
  ·have:((e[i].Kind==8) || (e[i].Kind==9))=false:=eq_false_of_ne_true o;simp only [this,o,if_false,Bool.false_eq_true];rw [wn (by omega)]) (by simp only [aC.s1,bu,if_false]) (by omega)
 rw [hk];by_cases h:e.any odd=true
 ·simp only [h,if_true,Option.bind_some];simp
 ·have h':e.any odd=false:=eq_false_of_ne_true h;simp only [h',Bool.false_eq_true,if_false,Option.bind_some];rfl
theorem OB (e:List ae) (he:e.length < 1000):dO (dW.s1 e) 0=some (if e.any odd=true then .inr ([],15) else .inl ()):=by
 obtain ⟨k,hk⟩:=wJ (step:=dW.s1 e) e odd (fun i=>Sum.inr (([]:List (List Int)),(15:Int))) (Sum.inl ()) (s:=0) rfl (fun i hi=>by
  simp only [dW.s1,eU hi,if_true,fD hi,Option.bind_some];unfold odd;by_cases h8:e[i].Kind=8
  ·simp [h8]
  ·by_cases h9:e[i].Kind=9
   ·simp [h9]
   ·simp only [h8,h9,if_false];have e8:(e[i].Kind==8)=false:=by simpa using h8
    have e9:(e[i].Kind==9)=false:=by simpa using h9
    simp only [e8,e9,Bool.or_false,Bool.false_eq_true,if_false];rw [wn (by omega)]) (by simp only [dW.s1,bu,if_false]) (by omega)
 rw [hk]
structure Nod (i:Nat) (n:ae):Prop where
 ok:EX i n
 k8:n.Kind≠8
 k9:n.Kind≠9
theorem IL {e:List ae} (F:Eh e) (ho:e.any odd=false) (i:Nat) (hi:i < e.length):Nod i e[i]:=by
 have:=List.any_eq_false.1 ho e[i] (List.getElem_mem hi);unfold odd at this;simp at this;exact ⟨TL (F.node i hi),this.1,this.2⟩
theorem QL {l:List ag} {n:ae} {o:List (List Int)} {j:Int} (hl:l.length < 1000) (hq:∀ s,s∈n.Subscripts→s.List.length < 16777216) (hlen:o.length < 1000) :
  (if ¬ ((bV n.Var 0 (w ((l.length:Int) - 1)))=true) then (some (.inr (.inr (([]:List (List Int)),6))):Option (Sum (Int×List (List Int)) (Sum (List (List Int)) ((List (List Int))×Int))))
    else
     (at_ l n.Var).bind fun x19 =>
     (bM x19.Bounds n.Subscripts).bind fun x20 =>
     if ¬ x20.2=0 then
      some (.inr (.inr (([]:List (List Int)),x20.2)))
     else
      if (x20.1.Offsets.length:Int) > 60 then
       some (.inr (.inr (([]:List (List Int)),8)))
      else
       (app o ([x20.1.Extents]:List (List Int))).bind fun x23 =>
       some (.inl (j,x23)))=some (if (nY l n.Var n.Subscripts).2=0 then .inl (j,o++[(nY l n.Var n.Subscripts).1.Extents]) else .inr (.inr ([],(nY l n.Var n.Subscripts).2))):=by
 rw [Cb,uI (by omega) (by omega)];unfold nY;cases ha:at_ l n.Var with
 | none=>rw [if_pos (zH.1 ha)];rfl
 | some a =>
  have:aT n.Var 0 ((l.length:Int) - 1)=true:=by
   have h1:=mt zH.2 (by rw [ha];simp:¬ at_ l n.Var=none);simpa using h1
  rw [if_neg (by simp [this])];simp only [Option.bind_some,zq a.Bounds n.Subscripts hq];by_cases h2:(jZ a.Bounds n.Subscripts).2=0
  ·simp only [h2,not_true,if_false,if_true];by_cases h3:(jZ a.Bounds n.Subscripts).1.Offsets.length≤60
   ·rw [if_neg (by omega),iQ (by omega)];simp [h3]
   ·rw [if_pos (by omega)];simp [h3]
  ·simp [h2]
theorem nS {b:List (List Int)} (k:Nat) (h:∀ x,x∈b→x.length≤7):(b.getD k []).length≤7:=by
 rw [List.getD_eq_getElem?_getD];cases hk:b[k]? with
 | none=>simp
 | some x=>exact h x (List.mem_of_getElem? hk)
theorem wF {l:List ag} {v:Int} {q:List au} (h:(nY l v q).2=0):∃ a,at_ l v=some a∧Sct a.Bounds (nY l v q).1∧(nY l v q).1.Offsets.length≤60∧nY l v q=jZ a.Bounds q:=by
 unfold nY at h ⊢;cases ha:at_ l v with
 | none=>rw [ha] at h;cases h
 | some a =>
  rw [ha] at h;simp only at h ⊢;by_cases h2:(jZ a.Bounds q).2=0
  ·simp only [h2,if_true] at h ⊢;by_cases h3:(jZ a.Bounds q).1.Offsets.length≤60
   ·exact ⟨a,rfl,Nu h2,h3,by simp [h3,← h2]⟩
   ·simp [h3] at h
  ·simp [h2] at h
theorem AX {l:List ag} {i:Nat} {b b':List (List Int)} {n:ae} (h:gK l i b n = .inr b') (hb:∀ x,x∈b→x.length≤7):∀ x,x∈b'→x.length≤7:=by
 have key:∀ z:List Int,z.length≤7→∀ x,x∈b++[z]→x.length≤7:=by
  intro z hz x hx;simp only [List.mem_append,List.mem_singleton] at hx;rcases hx with hx | hx
  ·exact hb x hx
  ·rw [hx];exact hz
 unfold gK at h;split at h
 ·split at h
  ·cases h;exact key _ (by simp)
  ·cases h
 ·split at h
  ·split at h
   ·rename_i h2
    cases h;obtain ⟨a,_,hs,_⟩:=wF h2;exact key _ hs.dims
   ·cases h
  ·split at h
   ·cases h;exact key _ (nS _ hb)
   ·split at h
    ·cases h
    ·cases h;refine key _ ?_;split
     ·exact nS _ hb
     ·exact nS _ hb
theorem SC {l:List ag} {e:List ae} (hl:l.length < 1000) (hs:Small e) (F:Eh e) (ho:e.any odd=false) :
  dO (dW.s2 l e) (0,[])=some (match shE l e with | .inl c => .inr ([],c) | .inr out => .inl out):=by
 unfold shE;rw [iI (step:=dW.s2 l e) e (fun i b=>(i,b)) (fun (c:Int)=>Sum.inr (([]:List (List Int)),c)) (fun b=>Sum.inl b) (gK l) (fun i b=>b.length=i∧∀ x,x∈b→x.length≤7) (a:=[]) rfl ?_ ?_ ⟨rfl,by simp⟩ (by have:=hs.1;omega)]
 ·cases dJ (gK l) 0 e []<;>rfl
 ·intro i hi b ⟨hb,h7s⟩;have hN:=IL F ho i hi;have hlt:=hs.1;refine ⟨?_,fun b' h=>⟨by rw [Aj h,hb],AX h h7s⟩⟩;simp only [dW.s2,eU hi,if_true,fD hi,Option.bind_some];have hq:=hs.2 e[i] (List.getElem_mem hi);generalize e[i]=n at *
  unfold gK;by_cases h0:n.Kind=0
  ·simp only [h0,if_true];rw [show gZ n.Value=aT n.Value (-2147483648) 2147483647 from Cb _ _ _];by_cases hv:aT n.Value (-2147483648) 2147483647=true
   ·simp only [hv,not_true,if_false,if_true];rw [iQ (by omega),wn (by omega)];rfl
   ·simp [hv]
  ·by_cases h1:n.Kind=1
   ·simp only [h0,h1,if_true,if_false,Int.reduceEq];rw [QL hl hq (by omega),wn (by omega)];by_cases h2:(nY l n.Var n.Subscripts).2=0<;>simp [h2]
   ·by_cases h7:n.Kind=7
    ·simp only [h0,h1,h7,if_true,if_false,Int.reduceEq];have hA:=hN.ok.A (.inl h7);rw [at_in (d:=[]) hA.1 (by omega)];simp only [Option.bind_some];rw [iQ (by omega),wn (by omega)];rfl
    ·simp only [h0,h1,h7,if_false];have hb2:=Lu hN.ok.kind h0 h1 h7 hN.k8 hN.k9;have hA:=hN.ok.A (.inr hb2);have hB:=hN.ok.B hb2;rw [at_in (d:=[]) hA.1 (by omega),at_in (d:=[]) hB.1 (by omega)];simp only [Option.bind_some];have hxs:=nS n.A.toNat h7s;have hys:=nS n.B.toNat h7s;generalize b.getD n.A.toNat []=x at *
     generalize b.getD n.B.toNat []=y at *
     have la:∀ z:List Int,z.length≤7→((app b [z]).bind fun x35=>(some (.inl ((w ((i:Int)+1)),x35)):Option (Sum (Int×List (List Int)) (Sum (List (List Int)) ((List (List Int))×Int)))))=some (.inl (((i+1:Nat):Int),b++[z])):=by
      intro z _;rw [iQ (by omega),wn (by omega)];rfl
     simp only [la x hxs,la y hys];cases x with
     | nil=>simp
     | cons x0 xr =>
      cases y with
      | nil=>simp;omega
      | cons y0 yr =>
       have e1:(decide (((x0::xr).length:Int) > 0)&&decide (((y0::yr).length:Int) > 0))=true:=by simp
       rw [if_pos e1,Jw (by omega) (by omega)];have e2:¬ (((x0::xr).length:Int)=0):=by simp;omega
       by_cases he:x0::xr=y0::yr
       ·simp [he]
       ·have:(x0::xr==y0::yr)=false:=by simpa using he
        simp only [Option.bind_some,this];simp [he]
 ·intro b hb;simp only [dW.s2,bu,if_false]
theorem BJ {l:List ag} {e:List ae} {out:List (List Int)} (h:shE l e = .inr out):out.length=e.length∧∀ x,x∈out→x.length≤7:=by
 have key:∀ (xs:List ae) (i:Nat) (b b':List (List Int)),dJ (gK l) i xs b = .inr b'→(∀ x,x∈b→x.length≤7)→b'.length=b.length+xs.length∧∀ x,x∈b'→x.length≤7:=by
  intro xs
  induction xs with
  | nil=>intro i b b' h hb;cases h;exact ⟨rfl,hb⟩
  | cons x xs ih =>
   intro i b b' h hb;simp only [dJ] at h;cases hf:gK l i b x with
   | inl c=>rw [hf] at h;cases h
   | inr b1 =>
    rw [hf] at h;have:=ih (i+1) b1 b' h (AX hf hb);rw [Aj hf] at this;exact ⟨by rw [this.1];simp;omega,this.2⟩
 have:=key e 0 [] out h (by simp);exact ⟨by simpa using this.1,this.2⟩
theorem PX {l:List ag} {e:List ae} {c:Int} (h:shE l e = .inl c):c≠0:=by
 have key:∀ (xs:List ae) (i:Nat) (b:List (List Int)) (c:Int),dJ (gK l) i xs b = .inl c→c≠0:=by
  intro xs
  induction xs with
  | nil=>intro i b c h;cases h
  | cons x xs ih =>
   intro i b c h;simp only [dJ] at h;cases hf:gK l i b x with
   | inl c'=>rw [hf] at h;cases h;exact PM hf
   | inr b1=>rw [hf] at h;exact ih _ _ _ h
 exact key _ _ _ _ h
theorem I5 {l:List ag} {e:List ae} (hl:l.length < 1000) (hs:Small e):dW l e=some (if rG l e=0 then Ko l e else [],rG l e):=by
 unfold dW rG Ko;rw [GM e hs.1];simp only [Option.bind_some];by_cases hf:Bc e=0
 ·simp only [hf,not_true,ne_eq,if_false];rw [OB e hs.1];by_cases ho:e.any odd=true
  ·simp [ho]
  ·have ho':e.any odd=false:=eq_false_of_ne_true ho;simp only [ho',Bool.false_eq_true,if_false,Option.bind_some];rw [SC hl hs (Kr hf) ho'];cases h:shE l e with
   | inl c=>simp [PX h]
   | inr out=>simp
 ·simp [hf]
def sec (l:List ag) (n:ae):ay:=if n.Kind=1 then (nY l n.Var n.Subscripts).1 else yR
structure GU (l:List ag) (e:List ae) (i:Nat) (b:List ay×List (List Int)) (out:List (List Int)):Prop where
 secs:b.1=(e.take i).map (sec l)++List.replicate (e.length - i) yR
 shs:b.2=out++List.replicate (e.length - i) []
 len:out.length=i
 small:∀ x,x∈out→x.length≤7
theorem Dx {α:Type} (a:List α) (x d:α) {n i:Nat} (ha:a.length=i) (hi:i < n):(a++List.replicate (n - i) d).set i x=(a++[x])++List.replicate (n - (i+1)) d:=by
 have:n - i=(n - (i+1))+1:=by omega
 rw [this,List.replicate_succ,List.set_append_right _ _ (by omega),ha];simp
theorem GR {α:Type} (a:List α) (d:α) {k n:Nat} (hk:k < a.length):(a++List.replicate n d).getD k d=a.getD k d:=by
 rw [List.getD_eq_getElem?_getD,List.getD_eq_getElem?_getD,List.getElem?_append_left hk]
theorem Q4 {α β:Type} (f:α→β) (e:List α) (i:Nat) (hi:i < e.length):(e.take (i+1)).map f=(e.take i).map f++[f e[i]]:=by
 rw [List.take_succ_eq_append_getElem hi,List.map_append];rfl
theorem SL {l:List ag} {e:List ae} (hl:l.length < 1000) (hs:Small e) {i:Nat} (hi:i < e.length) (hN:Nod i e[i]) {b:List ay×List (List Int)} {out:List (List Int)} (R:GU l e i b out) :
  ∃ c b2 b3,kz i e[i] l e b.1 b.2=some (c,b2,b3)∧(match gK l i out e[i] with | .inl t=>c=t∧c≠0 | .inr out'=>c=0∧GU l e (i+1) (b2,b3) out'):=by
 obtain ⟨b2,b3⟩:=b;obtain ⟨r1,r2,r3,r4⟩:=R;simp only at r1 r2;have hlt:=hs.1;have h3l:b3.length=e.length:=by rw [r2];simp;omega
 have h2l:b2.length=e.length:=by rw [r1];simp;omega
 have hq:=hs.2 e[i] (List.getElem_mem hi);have tm:=Q4 (sec l) e i hi;have mk:∀ (z:List Int),z.length≤7→e[i].Kind≠1→GU l e (i+1) (b2,b3.set i z) (out++[z]):=by
  intro z hz h1;refine ⟨?_,?_,by simp [r3],?_⟩
  ·simp only;rw [tm,r1];have:sec l e[i]=yR:=by unfold sec;rw [if_neg h1]
   rw [this];have:e.length - i=(e.length - (i+1))+1:=by omega
   rw [this,List.replicate_succ];simp
  ·simp only;rw [r2,Dx out z [] r3 hi]
  ·intro x hx;simp only [List.mem_append,List.mem_singleton] at hx;rcases hx with hx | hx
   ·exact r4 x hx
   ·rw [hx];exact hz
 unfold kz gK;by_cases h0:e[i].Kind=0
 ·simp only [h0,if_true,mZ,Option.bind_some];by_cases hv:aT e[i].Value (-2147483648) 2147483647=true
  ·simp only [hv,if_true];refine ⟨_,_,_,rfl,rfl,?_⟩;have:=mk [] (by simp) (by omega);rw [r2,Dx out [] [] r3 hi] at this;rw [r2];have e1:e.length - i=(e.length - (i+1))+1:=by omega
   have e2:out++List.replicate (e.length - i) []=(out++[([]:List Int)])++List.replicate (e.length - (i+1)) []:=by rw [e1,List.replicate_succ];simp
   rw [e2];exact this
  ·simp only [hv,if_false];exact ⟨_,_,_,rfl,rfl,by simp⟩
 ·by_cases h1:e[i].Kind=1
  ·simp only [h0,h1,if_true,if_false,Int.reduceEq,LJ hl hq,Option.bind_some];rw [fD (by omega),fD (by omega)];simp only [Option.bind_some,Int.toNat_natCast];by_cases h2:(nY l e[i].Var e[i].Subscripts).2=0
   ·obtain ⟨a,_,hsc,_⟩:=wF h2;simp only [h2,if_true];refine ⟨_,_,_,rfl,rfl,?_,?_,by simp [r3],?_⟩
    ·simp only;rw [tm,r1,Dx _ _ yR (by simp;omega) hi];have:sec l e[i]=(nY l e[i].Var e[i].Subscripts).1:=by unfold sec;rw [if_pos h1]
     rw [this]
    ·simp only;rw [r2,Dx out _ [] r3 hi]
    ·intro x hx;simp only [List.mem_append,List.mem_singleton] at hx;rcases hx with hx | hx
     ·exact r4 x hx
     ·rw [hx];exact hsc.dims
   ·simp only [h2,if_false];exact ⟨_,_,_,rfl,rfl,h2⟩
  ·by_cases h7:e[i].Kind=7
   ·have hA:=hN.ok.A (.inl h7);simp only [h0,h1,h7,if_true,if_false,Int.reduceEq];rw [at_in (d:=[]) hA.1 (by omega),fD (by omega)];simp only [Option.bind_some,Int.toNat_natCast];refine ⟨_,_,_,rfl,rfl,?_⟩;have e1:b3.getD e[i].A.toNat []=out.getD e[i].A.toNat []:=by rw [r2];exact GR out [] (by omega)
    rw [e1];exact mk _ (nS _ r4) h1
   ·have hb2:=Lu hN.ok.kind h0 h1 h7 hN.k8 hN.k9;have hA:=hN.ok.A (.inr hb2);have hB:=hN.ok.B hb2;simp only [h0,h1,h7,if_false];rw [at_in (d:=[]) hA.1 (by omega),at_in (d:=[]) hB.1 (by omega),fD (by omega)];simp only [Option.bind_some,Int.toNat_natCast];have e1:b3.getD e[i].A.toNat []=out.getD e[i].A.toNat []:=by rw [r2];exact GR out [] (by omega)
    have e2:b3.getD e[i].B.toNat []=out.getD e[i].B.toNat []:=by rw [r2];exact GR out [] (by omega)
    rw [e1,e2];have hxs:=nS e[i].A.toNat r4;have hys:=nS e[i].B.toNat r4;generalize out.getD e[i].A.toNat []=x at *
    generalize out.getD e[i].B.toNat []=y at *
    unfold rf;cases x with
    | nil=>simp [mZ];exact ⟨_,_,_,⟨rfl,rfl,rfl⟩,rfl,mk _ hys h1⟩
    | cons x0 xr =>
     rw [if_neg (by simp;omega)];cases y with
     | nil=>simp [mZ];exact ⟨_,_,_,⟨rfl,rfl,rfl⟩,rfl,mk _ hxs h1⟩
     | cons y0 yr =>
      rw [if_neg (by simp;omega),OI (by omega)];by_cases he:x0::xr=y0::yr
      ·simp [he,mZ];rw [← he];exact ⟨_,_,_,⟨rfl,rfl,rfl⟩,rfl,mk _ hxs h1⟩
      ·have:(x0::xr==y0::yr)=false:=by simpa using he
       simp only [Option.bind_some,this,mZ];simp [he]
def c2F (l:List ag) (e:List ae) (i:Nat) (b:List ay×List (List Int)) (n:ae):Sum (Int×Int×List ay×List (List Int)) (List ay×List (List Int)) :=
 match kz i n l e b.1 b.2 with
 | some (c,b2,b3)=>if c=0 then .inr (b2,b3) else .inl ((i:Int),c,b2,b3)
 | none => .inr b
def uD (l:List ag) (e:List ae):bG:=bG.mk e (e.map (sec l)) (Ko l e)
theorem OG {l:List ag} {e:List ae} (hl:l.length < 1000) (hs:Small e):∃ x,pK l e=some (x,rG l e)∧(rG l e=0→x=some (uD l e)):=by
 unfold pK rG;rw [Uj e hs.1,Np e hs.1];simp only [Option.bind_some,mZ,VR];have hlt:=hs.1;by_cases hf:Bc e=0
 ·simp only [hf,if_true,ne_eq,not_true,if_false];by_cases ho:e.any odd=true
  ·simp only [ho,Bool.not_true,Bool.false_eq_true,if_false,if_true];exact ⟨none,by simp,by simp⟩
  ·have ho':e.any odd=false:=eq_false_of_ne_true ho;have F:=Kr hf;simp only [ho',Bool.not_false,if_true,not_true,if_false,Bool.false_eq_true,Me (show e.length≤16777216 by omega),Option.bind_some];have step:∀ i (hi:i < e.length) b c,GU l e i b c→OO (fun (r:Int×Int×List ay×List (List Int))=>r.2.1) (GU l e (i+1)) (c2F l e i b e[i]) (gK l i c e[i]):=by
    intro i hi b c hR;obtain ⟨k,b2,b3,h1,h2⟩:=SL hl hs hi (IL F ho' i hi) hR;unfold c2F;rw [h1];cases hsh:gK l i c e[i] with
    | inl t=>rw [hsh] at h2;simp only [h2.2,if_false];exact h2.1.symm
    | inr out'=>rw [hsh] at h2;simp only [h2.1,if_true];exact h2.2
   have R0:GU l e 0 (List.replicate e.length yR,List.replicate e.length []) []:=⟨by simp,by simp,rfl,by simp⟩
   have sim:=Jh (f:=c2F l e) (g:=gK l) (fun r=>r.2.1) (GU l e) e step e 0 _ [] rfl (by omega) R0;have hloop:dO (aN.s1 e l e) (0,List.replicate e.length yR,List.replicate e.length [])=some (match dJ (c2F l e) 0 e (List.replicate e.length yR,List.replicate e.length []) with | .inl r => .inr r | .inr b => .inl b):=by
    rw [iI (step:=aN.s1 e l e) e (fun i b=>(i,b)) (fun r=>Sum.inr r) (fun b=>Sum.inl b) (c2F l e) (fun i b=>∃ c,GU l e i b c) (a:=(List.replicate e.length yR,List.replicate e.length [])) rfl ?_ ?_ ⟨_,R0⟩ (by omega)]
    ·cases dJ (c2F l e) 0 e (List.replicate e.length yR,List.replicate e.length [])<;>rfl
    ·rintro i hi b ⟨c,hR⟩
     have hst:=step i hi b c hR;obtain ⟨k,b2,b3,h1,h2⟩:=SL hl hs hi (IL F ho' i hi) hR;refine ⟨?_,?_⟩
     ·simp only [aN.s1,eU hi,if_true,fD hi,Option.bind_some];unfold c2F;rw [h1];simp only [Option.bind_some];by_cases hk:k=0
      ·simp only [hk,not_true,if_false,if_true];rw [wn (by omega)]
      ·simp only [hk,not_false_eq_true,if_true,if_false]
     ·intro b' hb';rw [hb'] at hst;cases hsh:gK l i c e[i] with
      | inl t=>rw [hsh] at hst;exact hst.elim
      | inr out'=>rw [hsh] at hst;exact ⟨out',hst⟩
    ·intro b hb;simp only [aN.s1,bu,if_false]
   unfold aN;rw [show (ay.mk [] [] false)=yR from rfl,hloop];simp only [Option.bind_some];unfold shE;cases hsc:dJ (c2F l e) 0 e (List.replicate e.length yR,List.replicate e.length []) with
   | inl r =>
    rw [hsc] at sim;cases hsh:dJ (gK l) 0 e [] with
    | inl t =>
     rw [hsh] at sim;have ht:t=r.2.1:=sim;have:=PX hsh;exact ⟨_,by rw [ht];rfl,fun h=>absurd h this⟩
    | inr out=>rw [hsh] at sim;exact sim.elim
   | inr b =>
    rw [hsc] at sim;cases hsh:dJ (gK l) 0 e [] with
    | inl t=>rw [hsh] at sim;exact sim.elim
    | inr out =>
     rw [hsh] at sim;have hR:GU l e e.length b out:=sim;refine ⟨_,rfl,fun _=>?_⟩;have h1:=hR.secs;have h2:=hR.shs;simp at h1 h2;have ho:Ko l e=out:=by unfold Ko shE;rw [hsh]
     simp only [uD,ho,h1,h2]
 ·simp only [hf,if_false,not_false_eq_true,if_true,ne_eq];exact ⟨none,rfl,fun h=>h.elim⟩
end Go.Sh
set_option linter.all false
namespace Go.Sh
open Go.Lx
abbrev wr (x:Int):Int:=IntKind.i32.wrap x
def Bg (x:Int):Prop := -2147483648≤x∧x≤2147483647
theorem SQ (x:Int):wr x=if 2147483648≤x % 4294967296 then x % 4294967296 - 4294967296 else x % 4294967296:=by
 simp only [wr,IntKind.wrap,IntKind.bits,IntKind.signed];simp
theorem V5 (x:Int):Bg (wr x):=by
 rw [SQ];unfold Bg;have:=Int.emod_nonneg x (b:=4294967296) (by omega);have:=Int.emod_lt_of_pos x (b:=4294967296) (by omega);split<;>omega
theorem Vu {x:Int} (h:Bg x):wr x=x:=by
 rw [SQ];unfold Bg at h;split<;>omega
def opV (k a b:Int):Int:=jf k a b
theorem RY (b:Bool):Bg (jP b):=by unfold jP Bg;split<;>omega
theorem UY (k a b:Int):Bg (opV k a b):=by
 unfold opV jf
 repeat' split
 all_goals first | exact V5 _ | exact RY _
theorem TT (a b c:Int):opV 7 a b=opV 7 a c:=by simp [opV,jf]
theorem FC {l:List ag} {i:Nat} {b b':List (List Int)} {n:ae} (h:gK l i b n = .inr b'):∃ z,b'=b++[z]:=by
 unfold gK at h
 repeat' split at h
 all_goals first | (cases h;exact ⟨_,rfl⟩) | (cases h;done)
theorem SH {l:List ag}:∀ (xs:List ae) (i:Nat) (b b':List (List Int)),dJ (gK l) i xs b = .inr b'→∃ t,b'=b++t
 | [],i,b,b',h=>by cases h;exact ⟨[],by simp⟩
 | x::xs,i,b,b',h=>by
  simp only [dJ] at h;cases hf:gK l i b x with
  | inl c=>rw [hf] at h;cases h
  | inr b1 =>
   rw [hf] at h;obtain ⟨t,rfl⟩:=SH xs (i+1) b1 b' h;obtain ⟨z,rfl⟩:=FC hf;exact ⟨z::t,by simp⟩
theorem TD {l:List ag}:∀ (xs:List ae) (i:Nat) (b b':List (List Int)),dJ (gK l) i xs b = .inr b'→b.length=i→∀ k (hk:k < xs.length),gK l (i+k) (b'.take (i+k)) xs[k] = .inr (b'.take (i+k+1))
 | [],i,b,b',h,hb,k,hk=>by simp at hk
 | x::xs,i,b,b',h,hb,k,hk=>by
  have h0:=h;simp only [dJ] at h;cases hf:gK l i b x with
  | inl c=>rw [hf] at h;cases h
  | inr b1 =>
   rw [hf] at h;have hl:=Aj hf;cases k with
   | zero =>
    obtain ⟨t,rfl⟩:=SH xs (i+1) b1 b' h;obtain ⟨z,rfl⟩:=FC hf;simp only [Nat.add_zero,List.getElem_cons_zero];have e1:((b++[z])++t).take i=b:=by rw [List.append_assoc,List.take_append_of_le_length (by omega),List.take_of_length_le (by omega)]
    have e2:((b++[z])++t).take (i+1)=b++[z]:=by rw [List.take_append_of_le_length (by simp;omega),List.take_of_length_le (by simp;omega)]
    rw [e1,e2];exact hf
   | succ k =>
    have:=TD xs (i+1) b1 b' h (by omega) k (by simpa using hk);rw [show i+(k+1)=i+1+k by omega];simpa using this
theorem Ug {l:List ag} {e:List ae} {out:List (List Int)} (h:shE l e = .inr out) (i:Nat) (hi:i < e.length):gK l i (out.take i) e[i] = .inr (out.take (i+1)):=by
 have:=TD e 0 [] out h rfl i hi;simpa using this
theorem Dz {b:List (List Int)} {i k:Nat} (hk:k < i):(b.take i).getD k []=b.getD k []:=by
 rw [List.getD_eq_getElem?_getD,List.getD_eq_getElem?_getD,List.getElem?_take,if_pos hk]
theorem Gh {b:List (List Int)} {i:Nat} (hi:i < b.length) {z:List Int} (h:b.take (i+1)=b.take i++[z]):b.getD i []=z:=by
 rw [List.take_succ_eq_append_getElem hi] at h;have:=List.append_cancel_left h;rw [List.getD_eq_getElem?_getD,List.getElem?_eq_getElem hi];simpa using this
theorem Qy {l:List ag} {e:List ae} {out:List (List Int)} (h:shE l e = .inr out) (F:Eh e) (ho:e.any odd=false) {i:Nat} (hi:i < e.length) {j:Int} (hj:j∈cO e[i]) :
  0≤j∧j < i∧(out.getD j.toNat []=[]∨out.getD j.toNat []=out.getD i []):=by
 have hN:=IL F ho i hi;have hl:=(BJ h).1;have hst:=Ug h i hi;unfold cO at hj;unfold gK at hst;by_cases hb:aU e[i].Kind=true
 ·rw [if_pos hb] at hj;have hA:=hN.ok.A (.inr hb);have hB:=hN.ok.B hb;have hk:e[i].Kind≠0∧e[i].Kind≠1∧e[i].Kind≠7:=by unfold aU at hb;simp at hb;omega
  rw [if_neg hk.1,if_neg hk.2.1,if_neg hk.2.2,Dz (by omega),Dz (by omega)] at hst;split at hst
  ·cases hst
  ·rename_i hc
   have hlast:=Gh (by omega) (Sum.inr.inj hst).symm;rw [hlast];simp only [List.mem_cons,List.mem_nil_iff,or_false] at hj;rcases hj with rfl | rfl
   ·refine ⟨hA.1,hA.2,?_⟩;split
    ·rename_i q;exact .inl q
    ·exact .inr rfl
   ·refine ⟨hB.1,hB.2,?_⟩;split
    ·exact .inr rfl
    ·rename_i q
     by_cases q2:out.getD e[i].B.toNat []=[]
     ·exact .inl q2
     ·right;by_cases q3:out.getD e[i].A.toNat []=out.getD e[i].B.toNat []
      ·exact q3.symm
      ·exact absurd ⟨q,q2,q3⟩ hc
 ·rw [if_neg hb] at hj;split at hj
  ·rename_i h7
   have hA:=hN.ok.A (.inl h7);rw [if_neg (by omega),if_neg (by omega),if_pos h7,Dz (by omega)] at hst;have hlast:=Gh (by omega) (Sum.inr.inj hst).symm;simp only [List.mem_cons,List.mem_nil_iff,or_false] at hj;subst hj;exact ⟨hA.1,hA.2, .inr hlast.symm⟩
  ·simp at hj
theorem MN {b:List Int} {n:ae} {j:Nat} (h:∀ k,k∈cO n→k.toNat≠j):(OX b n).getD j 0=b.getD j 0:=by
 have key:∀ (ks:List Int) (b:List Int),(∀ k,k∈ks→k.toNat≠j)→(ks.foldl bump b).getD j 0=b.getD j 0:=by
  intro ks
  induction ks with
  | nil=>intro b _;rfl
  | cons k ks ih =>
   intro b hk;rw [List.foldl_cons,ih _ (fun x hx=>hk x (.tail _ hx))];have:=hk k (.head _);unfold bump;simp only [List.getD_eq_getElem?_getD,List.getElem?_set_ne this]
 exact key _ b h
theorem Je:∀ (xs:List ae) (i:Nat) (b b':List Int) (j:Nat),dJ nX i xs b = .inr b'→(∀ n,n∈xs→∀ k,k∈cO n→k.toNat≠j)→b'.getD j 0=b.getD j 0
 | [],i,b,b',j,h,_=>by cases h;rfl
 | x::xs,i,b,b',j,h,hk=>by
  simp only [dJ] at h;cases hf:nX i b x with
  | inl c=>rw [hf] at h;cases h
  | inr b1 =>
   rw [hf] at h;rw [Je xs (i+1) b1 b' j h (fun n hn=>hk n (.tail _ hn))];unfold nX at hf;split at hf
   ·cases hf;exact MN (hk x (.head _))
   ·cases hf
theorem Tq (N:Nat):∀ (xs:List Int) (i:Nat),rQ N i xs=0→∀ k (hk:k < xs.length),i+k+1≠N→xs[k]=1
 | [],i,_,k,hk,_=>by simp at hk
 | x::xs,i,h,k,hk,hne=>by
  simp only [rQ] at h;split at h
  ·rename_i hc
   cases k with
   | zero =>
    simp only [List.getElem_cons_zero];rcases hc with hc | hc
    ·omega
    ·exact hc.2
   | succ k =>
    have:=Tq N xs (i+1) h k (by simpa using hk) (by omega);simpa using this
  ·cases h
theorem used {e:List ae} (F:Eh e) (j:Nat) (hj:j+1 < e.length):∃ i,∃ hi:i < e.length,∃ k,k∈cO e[i]∧k.toNat=j:=by
 obtain ⟨b,h1,h2⟩:=F.use;have hl:=BI _ _ _ _ h1;simp only [List.length_replicate] at hl;have h3:=Tq e.length b 0 h2 j (by omega) (by omega);refine Classical.byContradiction fun hn=>?_
 have h4:=Je e 0 _ b j h1 (fun n hn2 k hk q=>by
  obtain ⟨i,hi,rfl⟩:=List.mem_iff_getElem.1 hn2;exact hn ⟨i,hi,k,hk,q⟩)
 rw [List.getD_eq_getElem?_getD,List.getElem?_eq_getElem (by omega)] at h4;simp [h3,List.getD_eq_getElem?_getD,List.getElem?_replicate] at h4;split at h4<;>simp at h4
theorem Ia {l:List ag} {e:List ae} {out:List (List Int)} (h:shE l e = .inr out) (F:Eh e) (ho:e.any odd=false):∀ (d j:Nat),j+d+1=e.length→out.getD j []=[]∨out.getD j []=out.getD (e.length - 1) []
 | 0,j,hj=>by right;congr 1;omega
 | d+1,j,hj=>by
  obtain ⟨i,hi,k,hk,hkj⟩:=used F j (by omega);obtain ⟨k0,k1,k2⟩:=Qy h F ho hi hk;rw [hkj] at k2;have hd:∃ d',d'≤d∧i+d'+1=e.length:=⟨e.length - 1 - i,by omega,by omega⟩
  obtain ⟨d',hd1,hd2⟩:=hd;rcases k2 with k2 | k2
  ·exact .inl k2
  ·rw [k2];exact Ia h F ho d' i hd2
termination_by d=>d
end Go.Sh
set_option linter.all false
namespace Go.Sh
open Go.Lx
def pick (s:ay) (k:Int):Int:=if s.Extents=[] then s.Offsets.getD 0 0 else s.Offsets.getD k.toNat 0
def Vz (l:List ag) (n:ae) (k:Int):Int :=
 match at_ l n.Var with
 | none=>0
 | some a=>a.Elements.getD (pick (nY l n.Var n.Subscripts).1 k).toNat 0
def NV (l:List ag) (k:Int) (out:List Int) (n:ae):Int :=
 if n.Kind=0 then n.Value else if n.Kind=1 then Vz l n k else opV n.Kind (out.getD n.A.toNat 0) (out.getD n.B.toNat 0)
def vals (l:List ag) (k:Int) (e:List ae):List Int:=e.foldl (fun out n=>out++[NV l k out n]) []
def value (l:List ag) (e:List ae) (k:Int):Int:=(vals l k e).getD (e.length - 1) 0
def ql (l:List ag) (e:List ae):List Int:=(Ko l e).getD (e.length - 1) []
def vG (l:List ag):Prop:=l.length < 1000∧∀ a,a∈l→UC a
structure Ce (l:List ag) (e:List ae) (k:Int):Prop where
 st:vG l
 sm:Small e
 pl:rG l e=0
 k0:0≤k
 k1:ql l e=[]∨k < P (ql l e)
theorem yh {l:List ag} {e:List ae} (h:rG l e=0):Eh e∧e.any odd=false∧shE l e = .inr (Ko l e):=by
 unfold rG at h;by_cases hf:Bc e=0
 ·simp only [hf,ne_eq,not_true,if_false] at h;by_cases ho:e.any odd=true
  ·simp [ho] at h
  ·have ho':e.any odd=false:=eq_false_of_ne_true ho;simp only [ho',Bool.false_eq_true,if_false] at h;refine ⟨Kr hf,ho',?_⟩;unfold Ko;cases hs:shE l e with
   | inl c=>rw [hs] at h;exact absurd h (PX hs)
   | inr out=>rfl
 ·simp [hf] at h
theorem isInt {x:Int} (h:bK x=true):Bg x:=by
 unfold bK aI at h;simp at h;exact h
theorem OE {l:List ag} {e:List ae} {k:Int} (H:Ce l e k) {i:Nat} (hi:i < e.length) (h1:e[i].Kind=1) :
  ∃ a,at_ l e[i].Var=some a∧(∀ q,q=(nY l e[i].Var e[i].Subscripts).1→lM q k=some (pick q k))∧0≤pick (nY l e[i].Var e[i].Subscripts).1 k∧pick (nY l e[i].Var e[i].Subscripts).1 k < a.Elements.length ∧
   Bg (Vz l e[i] k)∧nY l e[i].Var e[i].Subscripts=jZ a.Bounds e[i].Subscripts:=by
 obtain ⟨F,ho,hsh⟩:=yh H.pl;have hst:=Ug hsh i hi;have hl:=(BJ hsh).1;unfold gK at hst;rw [if_neg (by omega),if_pos h1] at hst;split at hst
 ·rename_i h2
  have hlast:=Gh (by omega) (Sum.inr.inj hst).symm;obtain ⟨a,ha,sc,_,hse⟩:=wF h2;have hva:UC a:=by
   have:a∈l:=by
    unfold at_ at ha;split at ha
    ·exact List.mem_of_getElem? ha
    ·cases ha
   exact H.st.2 a this
  have hsz:pick (nY l e[i].Var e[i].Subscripts).1 k∈(nY l e[i].Var e[i].Subscripts).1.Offsets∧lM (nY l e[i].Var e[i].Subscripts).1 k=some (pick (nY l e[i].Var e[i].Subscripts).1 k):=by
   have hlen:=sc.len;generalize (nY l e[i].Var e[i].Subscripts).1=s at *
   unfold pick lM;have hn:((s.Extents.length:Int)=0)=(s.Extents=[]):=by cases s.Extents<;>simp<;>omega
   simp only [hn];by_cases hx:s.Extents=[]
   ·rw [hx] at hlen;simp [P] at hlen;simp only [hx,if_true];have h0:0 < s.Offsets.length:=by omega
    refine ⟨?_,?_⟩
    ·rw [List.getD_eq_getElem?_getD,List.getElem?_eq_getElem h0];exact List.getElem_mem h0
    ·have:=at_in (xs:=s.Offsets) (k:=0) (d:=0) (by omega) (by omega);rw [this];rfl
   ·simp only [hx,if_false];have hS:s.Extents=ql l e:=by
     have:=Ia hsh F ho (e.length - 1 - i) i (by omega);rw [hlast] at this;rcases this with q | q
     ·exact absurd q hx
     ·exact q
    have hk:k < s.Offsets.length:=by
     rcases H.k1 with q | q
     ·rw [← hS] at q;exact absurd q hx
     ·rw [← hS] at q;omega
    have hk0:=H.k0;refine ⟨?_,?_⟩
    ·rw [List.getD_eq_getElem?_getD,List.getElem?_eq_getElem (by omega)];exact List.getElem_mem _
    ·rw [at_in (d:=0) hk0 hk];rfl
  have hr:=sc.range _ hsz.1;have hle:=hva.len;refine ⟨a,ha,fun q hq=>by rw [hq];exact hsz.2,hr.1,by omega,?_,hse⟩;unfold Vz;rw [ha];simp only;rw [List.getD_eq_getElem?_getD,List.getElem?_eq_getElem (by omega)];exact isInt (hva.int _ (List.getElem_mem _))
 ·cases hst
theorem Wy {l:List ag} {e:List ae} {k:Int} (H:Ce l e k) {i:Nat} (hi:i < e.length) (h0:e[i].Kind=0):Bg e[i].Value:=by
 obtain ⟨F,ho,hsh⟩:=yh H.pl;have hst:=Ug hsh i hi;unfold gK at hst;rw [if_pos h0] at hst;split at hst
 ·rename_i q;have:=ku.1 q;exact this
 ·cases hst
theorem Kv {l:List ag} {e:List ae} {k:Int} (H:Ce l e k) {i:Nat} (hi:i < e.length) (b:List Int):Bg (NV l k b e[i]):=by
 unfold NV;split
 ·rename_i h0;exact Wy H hi h0
 ·split
  ·rename_i h1;obtain ⟨a,_,_,_,_,h,_⟩:=OE H hi h1;exact h
  ·exact UY _ _ _
theorem getD_in {b:List Int} (k:Nat) (h:∀ x,x∈b→Bg x):Bg (b.getD k 0):=by
 rw [List.getD_eq_getElem?_getD];cases hk:b[k]? with
 | none=>simp [Bg]
 | some x=>exact h x (List.mem_of_getElem? hk)
theorem SG {b:List Int} {z:Int} (h:∀ x,x∈b→Bg x) (hz:Bg z):∀ x,x∈b++[z]→Bg x:=by
 intro x hx;simp only [List.mem_append,List.mem_singleton] at hx;rcases hx with hx | hx
 ·exact h x hx
 ·rw [hx];exact hz
theorem QN (l:List ag) (k:Int) (e:List ae):(vals l k e).length=e.length:=by
 have key:∀ (xs:List ae) (b:List Int),(xs.foldl (fun out n=>out++[NV l k out n]) b).length=b.length+xs.length:=by
  intro xs
  induction xs with
  | nil=>intro b;rfl
  | cons x xs ih=>intro b;rw [List.foldl_cons,ih];simp;omega
 have:=key e [];simpa [vals] using this
theorem OV {l:List ag} {e:List ae} {k:Int} (H:Ce l e k):∀ x,x∈vals l k e→Bg x:=by
 have key:∀ (xs:List ae) (i:Nat) (b:List Int),e.drop i=xs→(∀ x,x∈b→Bg x)→∀ x,x∈xs.foldl (fun out n=>out++[NV l k out n]) b→Bg x:=by
  intro xs
  induction xs with
  | nil=>intro i b _ hb;exact hb
  | cons x xs ih =>
   intro i b hd hb;have hlt:i < e.length:=by have:=congrArg List.length hd;simp at this;omega
   rw [List.drop_eq_getElem_cons hlt] at hd;injection hd with h1 h2
   rw [List.foldl_cons];refine ih (i+1) _ h2 (SG hb ?_);rw [← h1];exact Kv H hlt b
 exact key e 0 [] rfl (by simp)
theorem RI {l:List ag} {e:List ae} {k:Int} (H:Ce l e k):Bg (value l e k):=getD_in _ (OV H)
theorem Vd {n:ae} (h:clean n=true) (h7:n.Kind=7):n.B=0:=by
 unfold clean at h;simp [h7,aU] at h;exact h.1.1.2
theorem Aq {l:List ag} {e:List ae} {k:Int} (H:Ce l e k):dS (some (uD l e)) l k=some (value l e k):=by
 obtain ⟨F,ho,hsh⟩:=yh H.pl;have hlt:=H.sm.1;unfold dS;simp only [Option.bind_some,uD];rw [Me (by omega)];simp only [Option.bind_some];rw [kU (step:=dS.s1 l k (bG.mk e (e.map (sec l)) (Ko l e))) e (fun i b=>(i,b++List.replicate (e.length - b.length) 0)) (fun b=>b++List.replicate (e.length - b.length) 0) (fun b n=>b++[NV l k b n]) (fun i b=>b.length=i∧∀ x,x∈b→Bg x) (a:=[]) (by simp) ?_ ?_ ⟨rfl,by simp⟩ (by omega)]
 ·have hl:=QN l k e;have hp:=F.pos
  show ((some (vals l k e++List.replicate (e.length - (vals l k e).length) 0)).bind fun z17=>(at_ z17 (w ((z17.length:Int) - 1))).bind fun x18=>some (w x18))=_
  rw [hl,Nat.sub_self,List.replicate_zero,List.append_nil];simp only [Option.bind_some];rw [uI (by omega) (by omega),at_in (d:=0) (by omega) (by omega)];simp only [Option.bind_some,value];have e1:(((vals l k e).length:Int) - 1).toNat=e.length - 1:=by omega
  rw [e1];have hv:=getD_in (e.length - 1) (OV H);unfold Bg at hv;rw [uI (by omega) (by omega)]
 ·rintro i hi b ⟨hb,hin⟩
  have hN:=IL F ho i hi;refine ⟨?_,by simp [hb],SG hin (Kv H hi b)⟩;have hbl:(b++List.replicate (e.length - b.length) (0:Int)).length=e.length:=by simp;omega
  have hset:∀ z:Int,(b++List.replicate (e.length - b.length) (0:Int)).set i z=(b++[z])++List.replicate (e.length - (b++[z]).length) 0:=by
   intro z;rw [hb,Dx b z 0 hb hi];simp [hb]
  have hgetD:∀ j:Int,0≤j→j < i→(b++List.replicate (e.length - b.length) (0:Int)).getD j.toNat 0=b.getD j.toNat 0:=by
   intro j h0 h1;rw [List.getD_eq_getElem?_getD,List.getD_eq_getElem?_getD,List.getElem?_append_left (by omega)]
  simp only [dS.s1,eU hi,if_true,fD hi,Option.bind_some,Int.toNat_natCast,hset];rw [fD (show i < (b++List.replicate (e.length - b.length) (0:Int)).length by omega)];simp only [Option.bind_some];rw [wn (by omega)];by_cases h0:e[i].Kind=0
  ·have:=Vu (Wy H hi h0);simp only [wr] at this;simp only [h0,if_true,NV,this]
  ·by_cases h1:e[i].Kind=1
   ·obtain ⟨a,ha,hof,g0,g1,hin2,hse⟩:=OE H hi h1;simp only [h0,h1,if_true,if_false,Int.reduceEq,ha,Option.bind_some];rw [fD (show i < (e.map (sec l)).length by simp;exact hi)];have hsec:(e.map (sec l))[i]'(by simp;exact hi)=(nY l e[i].Var e[i].Subscripts).1:=by simp [sec,h1]
    simp only [Option.bind_some,hsec,hof _ rfl];rw [at_in (d:=0) g0 g1];simp only [Option.bind_some];have hv:NV l k b e[i]=a.Elements.getD (pick (nY l e[i].Var e[i].Subscripts).1 k).toNat 0:=by simp only [NV,h1,Vz,ha,if_true,if_false,Int.reduceEq]
    have hw:=Kv H hi b;rw [hv] at hw ⊢;have:=Vu hw;simp only [wr] at this;rw [this]
   ·have hB0:0≤e[i].B∧e[i].B < e.length∧(e[i].Kind≠7→e[i].B < i):=by
     by_cases h7:e[i].Kind=7
     ·have:=Vd hN.ok.cl h7;have:=F.pos;omega
     ·have hb2:=Lu hN.ok.kind h0 h1 h7 hN.k8 hN.k9;have:=hN.ok.B hb2;omega
    have hA:0≤e[i].A∧e[i].A < i:=by
     by_cases h7:e[i].Kind=7
     ·exact hN.ok.A (.inl h7)
     ·exact hN.ok.A (.inr (Lu hN.ok.kind h0 h1 h7 hN.k8 hN.k9))
    simp only [h0,h1,if_false];rw [at_in (d:=0) hA.1 (by omega),at_in (d:=0) hB0.1 (by omega)];simp only [Option.bind_some];rw [hgetD _ hA.1 hA.2];have hv:NV l k b e[i]=opV e[i].Kind (b.getD e[i].A.toNat 0) (b.getD e[i].B.toNat 0):=by simp only [NV,h0,h1,if_false]
    rw [hv];by_cases h7:e[i].Kind=7
    ·rw [h7];rw [show jf 7 (b.getD e[i].A.toNat 0) ((b++List.replicate (e.length - b.length) (0:Int)).getD e[i].B.toNat 0)=opV 7 (b.getD e[i].A.toNat 0) (b.getD e[i].B.toNat 0) from TT _ _ _]
    ·rw [hgetD _ hB0.1 (hB0.2.2 h7)];rfl
 ·rintro b ⟨hb,hin⟩
  simp only [dS.s1,bu,if_false]
end Go.Sh
set_option linter.all false
namespace Go.Sh
open Go.Lx
theorem rV {α:Type} (p:α→Bool):∀ xs:List α,xs.findSome? (fun a=>if p a=true then (none:Option Bool) else some false)=if xs.all p=true then none else some false
 | []=>rfl
 | x::xs=>by
  rw [List.findSome?_cons,List.all_cons];by_cases h:p x=true
  ·simp only [h,if_true,Bool.true_and];exact rV p xs
  ·simp [h]
def Vg (a:ag):Bool:=decide (a.Bounds.length≤9)&&decide (a.Elements.length≤40)
def few (l:List ag):Bool:=decide (l.length≤8)&&l.all Vg
theorem U2 (l:List ag):lN l=some (few l):=by
 unfold lN few;by_cases h:l.length≤8
 ·rw [if_neg (by omega)];rw [jy (step:=lN.s1 l) l (fun a=>if Vg a=true then (none:Option Bool) else some false) (fun c=>Sum.inr c) (Sum.inl ()) rfl ?_ ?_ (by omega),rV]
  ·simp only [h,decide_true,Bool.true_and];cases l.all Vg<;>rfl
  ·intro i hi;simp only [lN.s1,eU hi,if_true,fD hi,Option.bind_some,Vg];by_cases h1:l[i].Bounds.length≤9
   ·rw [if_neg (by omega)];by_cases h2:l[i].Elements.length≤40
    ·rw [if_neg (by omega),wn (by omega)];simp [h1,h2]
    ·rw [if_pos (by omega)];simp [h2]
   ·rw [if_pos (by omega)];simp [h1]
  ·simp only [lN.s1,bu,if_false]
 ·rw [if_pos (by omega)];simp [h]
def Ii (s:au):Bool:=decide (s.List.length≤20)
def short (q:List au):Bool:=decide (q.length≤9)&&q.all Ii
theorem L9 (q:List au):iW q=some (short q):=by
 unfold iW short;by_cases h:q.length≤9
 ·rw [if_neg (by omega)];rw [jy (step:=iW.s1 q) q (fun a=>if Ii a=true then (none:Option Bool) else some false) (fun c=>Sum.inr c) (Sum.inl ()) rfl ?_ ?_ (by omega),rV]
  ·simp only [h,decide_true,Bool.true_and];cases q.all Ii<;>rfl
  ·intro i hi;simp only [iW.s1,eU hi,if_true,fD hi,Option.bind_some,Ii];by_cases h1:q[i].List.length≤20
   ·rw [if_neg (by omega),wn (by omega)];simp [h1]
   ·rw [if_pos (by omega)];simp [h1]
  ·simp only [iW.s1,bu,if_false]
 ·rw [if_pos (by omega)];simp [h]
def H8 (s:aO):Bool:=decide (s.Coefs.length≤9)
def yD (q:List aO):Bool:=decide (q.length≤9)&&q.all H8
theorem QI (q:List aO):jm q=some (yD q):=by
 unfold jm yD;by_cases h:q.length≤9
 ·rw [if_neg (by omega)];rw [jy (step:=jm.s1 q) q (fun a=>if H8 a=true then (none:Option Bool) else some false) (fun c=>Sum.inr c) (Sum.inl ()) rfl ?_ ?_ (by omega),rV]
  ·simp only [h,decide_true,Bool.true_and];cases q.all H8<;>rfl
  ·intro i hi;simp only [jm.s1,eU hi,if_true,fD hi,Option.bind_some,H8];by_cases h1:q[i].Coefs.length≤9
   ·rw [if_neg (by omega),wn (by omega)];simp [h1]
   ·rw [if_pos (by omega)];simp [h1]
  ·simp only [jm.s1,bu,if_false]
 ·rw [if_pos (by omega)];simp [h]
def EP (n:ae):Bool:=short n.Subscripts&&yD n.Forms
def small (e:List ae):Bool:=decide (e.length≤42)&&(!(decide (20 < e.length)&&decide (e.length≤40))&&e.all EP)
theorem Lm (e:List ae):gU e=some (small e):=by
 unfold gU small;by_cases h:((decide (20 < e.length)&&decide (e.length≤40)) || decide (42 < e.length))=true
 ·have:((decide ((e.length:Int) > 20)&&decide ((e.length:Int)≤40)) || decide ((e.length:Int) > 42))=true:=by simp at h ⊢;omega
  rw [if_pos this]
  congr 1
  symm;simp at h ⊢;omega
 ·have:¬ ((decide ((e.length:Int) > 20)&&decide ((e.length:Int)≤40)) || decide ((e.length:Int) > 42))=true:=by simp at h ⊢;omega
  rw [if_neg this];have h42:e.length≤42:=by simp at h;omega
  have hm:(decide (20 < e.length)&&decide (e.length≤40))=false:=by simp at h ⊢;omega
  rw [jy (step:=gU.s1 e) e (fun a=>if EP a=true then (none:Option Bool) else some false) (fun c=>Sum.inr c) (Sum.inl ()) rfl ?_ ?_ (by omega),rV]
  ·simp only [h42,hm,decide_true,Bool.true_and,Bool.not_false];cases e.all EP<;>rfl
  ·intro i hi;simp only [gU.s1,eU hi,if_true,fD hi,Option.bind_some,L9,QI,EP];by_cases h1:short e[i].Subscripts=true
   ·by_cases h2:yD e[i].Forms=true
    ·simp only [h1,h2,not_true,if_false,Bool.and_self,if_true];rw [wn (by omega)]
    ·simp [h1,h2]
   ·simp [h1]
  ·simp only [gU.s1,bu,if_false]
def nT (s:ai):Bool:=short s.Subscripts&&(small s.Value&&(small s.Mask&&small s.Else))
theorem Pn (s:ai):qL s=some (nT s):=by
 unfold qL nT;simp only [L9,Lm,Option.bind_some];cases short s.Subscripts<;>cases small s.Value<;>cases small s.Mask<;>simp
theorem BL {q:List au} (h:short q=true):q.length≤9∧∀ s,s∈q→s.List.length < 16777216:=by
 unfold short Ii at h;simp at h;exact ⟨h.1,fun s hs=>by have:=h.2 s hs;omega⟩
theorem Rq {q:List aO} (h:yD q=true):q.length≤9∧∀ s,s∈q→s.Coefs.length≤9:=by
 unfold yD H8 at h;simp at h;exact h
theorem BN {e:List ae} (h:small e=true):e.length≤42∧(∀ n,n∈e→short n.Subscripts=true∧yD n.Forms=true)∧Small e:=by
 unfold small EP at h;simp at h;refine ⟨h.1,h.2.2,by omega,fun n hn s hs=>?_⟩;exact (BL (h.2.2 n hn).1).2 s hs
theorem xy {l:List ag} (h:few l=true):l.length≤8∧∀ a,a∈l→a.Bounds.length≤9∧a.Elements.length≤40:=by
 unfold few Vg at h;simp at h;exact h
theorem Jn {l:List ag} (h:few l=true):dV l=some l:=by
 obtain ⟨h1,h2⟩:=xy h;unfold dV;rw [qm (step:=dV.s1 l) l (fun a=>a) (fun i b=>(i,b)) (fun b=>b) rfl ?_ ?_ (by omega)]
 ·simp
 ·intro i hi b hb;have:=h2 l[i] (List.getElem_mem hi);simp only [dV.s1,eU hi,if_true,fD hi,Option.bind_some];rw [NR (by omega) (by omega)];simp only [Option.bind_some];rw [iQ (by omega),wn (by omega)];rfl
 ·intro b;simp only [dV.s1,bu,if_false]
theorem Iz {q:List aO} (h:yD q=true):fF q=some q:=by
 obtain ⟨h1,h2⟩:=Rq h;unfold fF;rw [qm (step:=fF.s1 q) q (fun a=>a) (fun i b=>(i,b)) (fun b=>b) rfl ?_ ?_ (by omega)]
 ·simp
 ·intro i hi b hb;have:=h2 q[i] (List.getElem_mem hi);simp only [fF.s1,eU hi,if_true,fD hi,Option.bind_some];rw [sZ (by omega)];simp only [Option.bind_some];rw [iQ (by omega),wn (by omega)];rfl
 ·intro b;simp only [fF.s1,bu,if_false]
theorem xZ {e:List ae} (h:small e=true):eY e=some e:=by
 obtain ⟨h1,h2,_⟩:=BN h;unfold eY;rw [qm (step:=eY.s1 e) e (fun a=>a) (fun i b=>(i,b)) (fun b=>b) rfl ?_ ?_ (by omega)]
 ·simp
 ·intro i hi b hb;obtain ⟨k1,k2⟩:=h2 e[i] (List.getElem_mem hi);have hs:=BL k1;simp only [eY.s1,eU hi,if_true,fD hi,Option.bind_some];rw [rX (by omega) hs.2,Iz k2];simp only [Option.bind_some];rw [iQ (by omega),wn (by omega)];rfl
 ·intro b;simp only [eY.s1,bu,if_false]
theorem um {s:ai} (h:nT s=true):jk s=some s:=by
 unfold nT at h;simp only [Bool.and_eq_true] at h;have hs:=BL h.1;unfold jk;rw [rX (by omega) hs.2,xZ h.2.1,xZ h.2.2.1,xZ h.2.2.2];rfl
def stE (l:List ag):Int:=if 6 < l.length then 8 else match l.findSome? (fun a=>if (chk a).2=0 then none else some (chk a).2) with | some c=>c | none=>0
theorem LD:∀ (l:List ag) (i:Nat),dJ (fun _ (u:Unit) (a:ag)=>if (chk a).2=0 then Sum.inr u else Sum.inl (chk a).2) i l ()=(match l.findSome? (fun a=>if (chk a).2=0 then none else some (chk a).2) with | some r => .inl r | none => .inr ())
 | [],i=>rfl
 | x::xs,i=>by
  simp only [dJ,List.findSome?_cons];by_cases h:(chk x).2=0
  ·simp only [h,if_true];exact LD xs (i+1)
  ·simp only [h,if_false]
theorem KJ {l:List ag} (h:few l=true):mF l=some (stE l):=by
 obtain ⟨h1,h2⟩:=xy h;unfold mF stE;by_cases h6:6 < l.length
 ·rw [if_pos (by omega),if_pos h6]
 ·rw [if_neg (by omega),if_neg h6];have hfind:∃ k,aS l=some (k,match l.findSome? (fun a=>if (chk a).2=0 then none else some (chk a).2) with | some c=>c | none=>0):=by
   unfold aS;rw [iI (step:=aS.s1 l) l (fun i (_:Unit)=>i) (fun (r:Int×Int)=>Sum.inr r) (fun _=>Sum.inl ()) (fun i u a=>if (chk a).2=0 then .inr u else .inl ((i:Int),(chk a).2)) (fun _ _=>True) (a:=()) rfl ?_ ?_ trivial (by omega)]
   ·have h3:=vI (f:=fun i (u:Unit) (a:ag)=>if (chk a).2=0 then Sum.inr u else Sum.inl ((i:Int),(chk a).2)) (g:=fun _ (u:Unit) (a:ag)=>if (chk a).2=0 then Sum.inr u else Sum.inl (chk a).2) (fun r=>r.2) (fun _=>True) l.length (fun i u a _ _=>by
     by_cases h:(chk a).2=0<;>simp [h]) l 0 () (by simp) trivial
    rw [LD] at h3;cases hs:dJ (fun i (u:Unit) (a:ag)=>if (chk a).2=0 then Sum.inr u else Sum.inl ((i:Int),(chk a).2)) 0 l () with
    | inl r =>
     rw [hs] at h3;simp only at h3;cases hf:l.findSome? (fun a=>if (chk a).2=0 then none else some (chk a).2) with
     | some c=>rw [hf] at h3;cases h3;exact ⟨r.1,rfl⟩
     | none=>rw [hf] at h3;cases h3
    | inr u =>
     rw [hs] at h3;simp only at h3;cases hf:l.findSome? (fun a=>if (chk a).2=0 then none else some (chk a).2) with
     | some c=>rw [hf] at h3;cases h3
     | none=>exact ⟨0,rfl⟩
   ·intro i hi u _;have:=h2 l[i] (List.getElem_mem hi);refine ⟨?_,fun _ _=>trivial⟩;simp only [aS.s1,eU hi,if_true,fD hi,Option.bind_some,lX];rw [Gl (by omega)];simp only [Option.bind_some];by_cases hc:(chk l[i]).2=0
    ·simp only [hc,not_true,if_false,if_true];rw [wn (by omega)]
    ·simp only [hc,not_false_eq_true,if_true,if_false]
   ·intro u _;simp only [aS.s1,bu,if_false]
  obtain ⟨k,hk⟩:=hfind;rw [hk];rfl
theorem EE {l:List ag} (h:few l=true):gm l=some (stE l):=by
 obtain ⟨h1,h2⟩:=xy h;unfold gm stE;by_cases h6:6 < l.length
 ·rw [if_pos (by omega),if_pos h6]
 ·rw [if_neg (by omega),if_neg h6];rw [jy (step:=gm.s1 l) l (fun a=>if (chk a).2=0 then none else some (chk a).2) (fun c=>Sum.inr c) (Sum.inl ()) rfl ?_ ?_ (by omega)]
  ·cases l.findSome? (fun a=>if (chk a).2=0 then none else some (chk a).2)<;>rfl
  ·intro i hi;have:=h2 l[i] (List.getElem_mem hi);simp only [gm.s1,eU hi,if_true,fD hi,Option.bind_some];rw [O9 (by omega)];simp only [Option.bind_some];by_cases hc:(chk l[i]).2=0
   ·simp only [hc,not_true,if_false,if_true];rw [wn (by omega)]
   ·simp only [hc,not_false_eq_true,if_true,if_false]
  ·simp only [gm.s1,bu,if_false]
theorem VY {l:List ag} (h:stE l=0):vG l:=by
 unfold stE at h;split at h
 ·cases h
 ·rename_i h6
  refine ⟨by omega,fun a ha=>Pv ?_⟩;cases hf:l.findSome? (fun a=>if (chk a).2=0 then none else some (chk a).2) with
  | some c =>
   rw [hf] at h;obtain ⟨b,_,hb⟩:=List.exists_of_findSome?_eq_some hf;simp only at h;split at hb
   ·cases hb
   ·cases hb;rename_i q;exact absurd h q
  | none =>
   have:=List.findSome?_eq_none_iff.1 hf a ha;simpa using this
end Go.Sh
set_option linter.all false
namespace Go.Sh
open Go.Lx
theorem UG:tC=some true:=by decide +kernel
structure Shp (x:List Int):Prop where
 dims:x.length≤7
 ext:∀ e,e∈x→0≤e∧e≤512
 p0:0≤P x
 p1:P x≤60
theorem Shp.nil:Shp []:=⟨by simp,by simp,by simp [P],by simp [P]⟩
theorem BF {b:List (List Int)} (k:Nat) (h:∀ x,x∈b→Shp x):Shp (b.getD k []):=by
 rw [List.getD_eq_getElem?_getD];cases hk:b[k]? with
 | none=>exact Shp.nil
 | some x=>exact h x (List.mem_of_getElem? hk)
theorem NP {l:List ag} {i:Nat} {b b':List (List Int)} {n:ae} (h:gK l i b n = .inr b') (hb:∀ x,x∈b→Shp x):∀ x,x∈b'→Shp x:=by
 have key:∀ z:List Int,Shp z→∀ x,x∈b++[z]→Shp x:=by
  intro z hz x hx;simp only [List.mem_append,List.mem_singleton] at hx;rcases hx with hx | hx
  ·exact hb x hx
  ·rw [hx];exact hz
 unfold gK at h;split at h
 ·split at h
  ·cases h;exact key _ Shp.nil
  ·cases h
 ·split at h
  ·split at h
   ·rename_i h2
    cases h;obtain ⟨a,_,hs,h60,_⟩:=wF h2;have:=hs.len;exact key _ ⟨hs.dims,hs.ext,by omega,by omega⟩
   ·cases h
  ·split at h
   ·cases h;exact key _ (BF _ hb)
   ·split at h
    ·cases h
    ·cases h;refine key _ ?_;split
     ·exact BF _ hb
     ·exact BF _ hb
theorem UI {l:List ag} {e:List ae} {out:List (List Int)} (h:shE l e = .inr out):∀ x,x∈out→Shp x:=by
 have key:∀ (xs:List ae) (i:Nat) (b b':List (List Int)),dJ (gK l) i xs b = .inr b'→(∀ x,x∈b→Shp x)→∀ x,x∈b'→Shp x:=by
  intro xs
  induction xs with
  | nil=>intro i b b' h hb;cases h;exact hb
  | cons x xs ih =>
   intro i b b' h hb;simp only [dJ] at h;cases hf:gK l i b x with
   | inl c=>rw [hf] at h;cases h
   | inr b1=>rw [hf] at h;exact ih (i+1) b1 b' h (NP hf hb)
 exact key e 0 [] out h (by simp)
theorem Mc {l:List ag} {e:List ae} (h:rG l e=0):Shp (ql l e):=BF _ (UI (yh h).2.2)
theorem QU {l:List ag} {e:List ae} (hs:Small e) (h:rG l e=0):kT (some (uD l e))=some (ql l e):=by
 obtain ⟨F,_,hsh⟩:=yh h;have hl:=(BJ hsh).1;have hp:=F.pos;have:=hs.1;unfold kT;simp only [Option.bind_some,uD];rw [uI (by omega) (by omega),at_in (d:=[]) (by omega) (by omega)];simp only [Option.bind_some,ql]
 congr 2
 omega
end Go.Sh
set_option linter.all false
namespace Go.Sh
open Go.Lx
theorem Tm {α β:Type} (f:α→β) (l:List α) (k:Int):at_ (l.map f) k=(at_ l k).map f:=by
 unfold at_;split
 ·simp
 ·rfl
def bds (l:List ag):List (List aj):=l.map (·.Bounds)
theorem Td {l m:List ag} (h:bds l=bds m) (k:Int):(at_ l k).map (·.Bounds)=(at_ m k).map (·.Bounds):=by
 rw [← Tm,← Tm];exact congrArg (fun x=>at_ x k) h
theorem Sr {l m:List ag} (h:bds l=bds m) (v:Int) (q:List au):nY l v q=nY m v q:=by
 have:=Td h v;unfold nY;cases ha:at_ l v with
 | none =>
  rw [ha] at this;cases hb:at_ m v with
  | none=>rfl
  | some b=>rw [hb] at this;cases this
 | some a =>
  rw [ha] at this;cases hb:at_ m v with
  | none=>rw [hb] at this;cases this
  | some b=>rw [hb] at this;simp only [Option.map_some,Option.some.injEq] at this;simp only [this]
theorem MM {l m:List ag} (h:bds l=bds m):gK l=gK m:=by
 funext i b n
 unfold gK;rw [Sr h]
theorem Oq {l m:List ag} (h:bds l=bds m) (e:List ae):shE l e=shE m e:=by unfold shE;rw [MM h]
theorem Oz {l m:List ag} (h:bds l=bds m) (e:List ae):rG l e=rG m e:=by unfold rG;rw [Oq h]
theorem Su {l m:List ag} (h:bds l=bds m) (e:List ae):Ko l e=Ko m e:=by unfold Ko;rw [Oq h]
theorem O7 {l m:List ag} (h:bds l=bds m) (e:List ae):ql l e=ql m e:=by unfold ql;rw [Su h]
theorem Ce.bds {l m:List ag} {e:List ae} {k:Int} (H:Ce l e k) (h:bds l=bds m) (hm:vG m):Ce m e k :=
 ⟨hm,H.sm,by rw [← Oz h];exact H.pl,H.k0,by rw [← O7 h];exact H.k1⟩
def yt (l:List ag) (e:List ae) (x:List Int):Int:=if rG l e=0 then (if ql l e=[]∨ql l e=x then 0 else 10) else rG l e
theorem zD {l:List ag} {e:List ae} (x:List Int) (hl:l.length < 1000) (hs:Small e):∃ y,kG l e x=some (y,yt l e x)∧(yt l e x=0→y=some (uD l e)):=by
 obtain ⟨y,h1,h2⟩:=OG (e:=e) hl hs;unfold kG yt;rw [h1];simp only [Option.bind_some];by_cases hp:rG l e=0
 ·have hy:=h2 hp;have hd:=(Mc hp).dims;simp only [hp,not_true,if_false,if_true,hy,QU hs hp,Option.bind_some];by_cases h0:ql l e=[]
  ·simp only [h0,List.length_nil,Int.natCast_zero,if_true,mZ,Option.bind_some,true_or];exact ⟨_,rfl,fun _=>rfl⟩
  ·have:¬ ((ql l e).length:Int)=0:=by
    intro q;exact h0 (List.length_eq_zero_iff.1 (by omega))
   simp only [this,if_false,OI (show (ql l e).length < 16777216 by omega),Option.bind_some,mZ,h0,false_or,beq_iff_eq];exact ⟨_,rfl,fun _=>rfl⟩
 ·simp only [hp,not_false_eq_true,if_true,if_false];exact ⟨none,rfl,fun h=>h.elim⟩
theorem zW {l:List ag} {e:List ae} {x:List Int} (hx:x.length < 16777216) (hl:l.length < 1000) (hs:Small e):oM l e x=some (yt l e x):=by
 unfold oM yt;rw [I5 hl hs];simp only [Option.bind_some];by_cases hp:rG l e=0
 ·have hd:=(Mc hp).dims;obtain ⟨F,_,hsh⟩:=yh hp;have hol:=(BJ hsh).1;have hpos:=F.pos;have hlt:=hs.1;simp only [hp,not_true,if_false,if_true];rw [uI (by omega) (by omega),at_in (d:=[]) (by omega) (by omega)];have hr:(Ko l e).getD (((Ko l e).length:Int) - 1).toNat []=ql l e:=by unfold ql;congr 1;omega
  simp only [Option.bind_some,hr];by_cases h0:ql l e=[]
  ·simp [h0]
  ·have:((ql l e).length:Int) > 0:=by
    have:=mt List.length_eq_zero_iff.1 h0;omega
   simp only [this,if_true,Jw (show (ql l e).length < 16777216 by omega) hx,Option.bind_some,h0,false_or,beq_iff_eq];by_cases h1:ql l e=x<;>simp [h1]
 ·simp only [hp,not_false_eq_true,if_true,if_false]
theorem Tf {l:List ag} {e:List ae} {x:List Int} (h:yt l e x=0):rG l e=0∧(ql l e=[]∨ql l e=x):=by
 unfold yt at h;split at h
 ·rename_i q
  split at h
  ·rename_i r;exact ⟨q,r⟩
  ·cases h
 ·rename_i q;exact absurd h q
def sS (l:List ag) (s:ai):ay:=(nY l s.Var s.Subscripts).1
def opE (l:List ag) (s:ai):Int :=
 if stE l=0 then
  if (nY l s.Var s.Subscripts).2=0 then
   if (sS l s).ManyOne=true then 23
   else if yt l s.Value (sS l s).Extents=0 then
    if s.Mask≠[]∧yt l s.Mask (sS l s).Extents≠0 then yt l s.Mask (sS l s).Extents
    else if s.Else=[] then 0
    else if s.Mask=[] then 3
    else yt l s.Else (sS l s).Extents
   else yt l s.Value (sS l s).Extents
  else (nY l s.Var s.Subscripts).2
 else stE l
def mkA (l:List ag) (s:ai):aF :=
 aF.mk l s.Var (sS l s).Offsets (some (uD l s.Value)) (if s.Mask=[] then none else some (uD l s.Mask)) (if s.Else=[] then none else some (uD l s.Else))
theorem Gp {α:Type} {xs:List α}:((xs.length:Int) > 0)=(xs≠[]):=by cases xs<;>simp
theorem QP {α:Type} {xs:List α}:((xs.length:Int)=0)=(xs=[]):=by cases xs<;>simp<;>omega
theorem GL {s:ai} (h:nT s=true):(∀ q,q∈s.Subscripts→q.List.length < 16777216)∧Small s.Value∧Small s.Mask∧Small s.Else:=by
 unfold nT at h;simp only [Bool.and_eq_true] at h;exact ⟨(BL h.1).2,(BN h.2.1).2.2,(BN h.2.2.1).2.2,(BN h.2.2.2).2.2⟩
theorem TQ {l:List ag} {s:ai} (hf:few l=true) (hb:nT s=true):∃ y,iw l s=some (y,opE l s)∧(opE l s=0→y=some (mkA l s)):=by
 have hl:l.length < 1000:=by have:=(xy hf).1;omega
 obtain ⟨hq,hv,hm,he⟩:=GL hb;unfold iw opE;rw [KJ hf];simp only [Option.bind_some];by_cases h0:stE l=0
 ·simp only [h0,not_true,if_false,if_true,LJ hl hq,Option.bind_some,mZ,VR];by_cases h1:(nY l s.Var s.Subscripts).2=0
  ·simp only [h1,if_true];by_cases h2:(sS l s).ManyOne=true
   ·have:(nY l s.Var s.Subscripts).1.ManyOne=true:=h2;simp only [this,h2,Bool.not_true,Bool.false_eq_true,if_false,if_true];exact ⟨none,rfl,by simp⟩
   ·have h2':(nY l s.Var s.Subscripts).1.ManyOne=false:=by simpa [sS] using h2
    simp only [h2',h2,Bool.not_false,if_true,not_true,if_false];obtain ⟨y,y1,y2⟩:=zD (nY l s.Var s.Subscripts).1.Extents hl hv;rw [y1];simp only [Option.bind_some];rw [show (nY l s.Var s.Subscripts).1=sS l s from rfl] at *
    by_cases h3:yt l s.Value (sS l s).Extents=0
    ·have hy:=y2 h3;simp only [h3,not_true,if_false,if_true,Gp];have key:∀ (a:Option bG),a=(if s.Mask=[] then none else some (uD l s.Mask))→∃ z,iw.j1 l s (nY l s.Var s.Subscripts) (y,yt l s.Value (sS l s).Extents) a=some (z,if s.Else=[] then 0 else if s.Mask=[] then 3 else yt l s.Else (sS l s).Extents)∧((if s.Else=[] then 0 else if s.Mask=[] then 3 else yt l s.Else (sS l s).Extents)=0→z=some (mkA l s)):=by
      intro a ha;unfold iw.j1;simp only [Gp];by_cases h5:s.Else=[]
      ·simp only [h5,ne_eq,not_true,if_false,if_true];refine ⟨_,rfl,fun _=>?_⟩;unfold mkA;rw [hy,ha];simp only [h5,if_true];rfl
      ·simp only [h5,ne_eq,not_false_eq_true,if_true,if_false];by_cases h6:s.Mask=[]
       ·simp only [ha,h6,if_true,Option.isNone_none];exact ⟨none,rfl,by simp⟩
       ·simp only [ha,h6,if_false,Option.isNone_some,Bool.false_eq_true];obtain ⟨u,u1,u2⟩:=zD (nY l s.Var s.Subscripts).1.Extents hl he;rw [u1];simp only [Option.bind_some];rw [show (nY l s.Var s.Subscripts).1=sS l s from rfl] at *
        by_cases h7:yt l s.Else (sS l s).Extents=0
        ·simp only [h7,not_true,if_false];refine ⟨_,rfl,fun _=>?_⟩;unfold mkA;rw [hy,u2 h7];simp only [h5,h6,if_false]
        ·simp only [h7,not_false_eq_true,if_true];exact ⟨none,rfl,fun h=>h.elim⟩
     by_cases h4:s.Mask=[]
     ·simp only [h4,ne_eq,not_true,if_false,false_and] at key ⊢;rw [h3] at key;exact key none rfl
     ·simp only [h4,ne_eq,not_false_eq_true,if_true,true_and] at key ⊢;obtain ⟨u,u1,u2⟩:=zD (sS l s).Extents hl hm;rw [u1];simp only [Option.bind_some];by_cases h7:yt l s.Mask (sS l s).Extents=0
      ·simp only [h7,not_true,if_false];rw [h3] at key;exact key u (u2 h7)
      ·simp only [h7,not_false_eq_true,if_true,Bool.false_eq_true,if_false];exact ⟨none,rfl,fun h=>h.elim⟩
    ·simp only [h3,not_false_eq_true,if_true,if_false,Bool.false_eq_true];exact ⟨none,rfl,fun h=>h.elim⟩
  ·simp only [h1,if_false,not_false_eq_true,if_true];exact ⟨none,rfl,fun h=>h.elim⟩
 ·simp only [h0,not_false_eq_true,if_true,if_false];exact ⟨none,rfl,fun h=>h.elim⟩
theorem Uy {l:List ag} {v:Int} {q:List au} {a:ag} (ha:at_ l v=some a):(nY l v q).2=if (jZ a.Bounds q).2=0 then (if (jZ a.Bounds q).1.Offsets.length≤60 then 0 else 8) else (jZ a.Bounds q).2:=by
 unfold nY;rw [ha]
theorem AB {l:List ag} {s:ai} (hf:few l=true) (hb:nT s=true):iK l s=some (if opE l s=0 then sS l s else yR,opE l s):=by
 have hl:l.length < 1000:=by have:=(xy hf).1;omega
 obtain ⟨hq,hv,hm,he⟩:=GL hb;unfold iK opE;rw [EE hf];simp only [Option.bind_some];by_cases h0:stE l=0
 ·simp only [h0,not_true,if_false,if_true];rw [uI (by omega) (by omega),Cb];cases ha:at_ l s.Var with
  | none =>
   have h6:(nY l s.Var s.Subscripts).2=6:=by unfold nY;rw [ha]
   rw [if_pos (zH.1 ha),h6];rfl
  | some a =>
   have hin:aT s.Var 0 ((l.length:Int) - 1)=true:=by
    have h1:=mt zH.2 (by rw [ha];simp:¬ at_ l s.Var=none);simpa using h1
   have hs1:(nY l s.Var s.Subscripts).1=(jZ a.Bounds s.Subscripts).1:=by unfold nY;rw [ha]
   have hs2:=Uy (q:=s.Subscripts) ha;simp only [hin,not_true,if_false,Option.bind_some,zq a.Bounds s.Subscripts hq];by_cases h1:(jZ a.Bounds s.Subscripts).2=0
   ·simp only [h1,if_true] at hs2;simp only [h1,not_true,if_false];by_cases h60:(jZ a.Bounds s.Subscripts).1.Offsets.length≤60
    ·simp only [h60,if_true] at hs2;have hsct:=(wF hs2)
     obtain ⟨_,_,sc,_,_⟩:=hsct;have hd:=sc.dims;rw [if_neg (by omega)];unfold sS;rw [← hs1];simp only [hs2,if_true];by_cases h2:(nY l s.Var s.Subscripts).1.ManyOne=true
     ·simp only [h2,if_true];rfl
     ·simp only [h2,if_false,Bool.false_eq_true,zW (show (nY l s.Var s.Subscripts).1.Extents.length < 16777216 by omega) hl hv,Option.bind_some];by_cases h3:yt l s.Value (nY l s.Var s.Subscripts).1.Extents=0
      ·simp only [h3,not_true,if_false,if_true,Gp];have key:iK.j1 l s (jZ a.Bounds s.Subscripts) ()=some (if (if s.Else=[] then 0 else if s.Mask=[] then 3 else yt l s.Else (nY l s.Var s.Subscripts).1.Extents)=0 then (nY l s.Var s.Subscripts).1 else yR,if s.Else=[] then 0 else if s.Mask=[] then 3 else yt l s.Else (nY l s.Var s.Subscripts).1.Extents):=by
        unfold iK.j1;simp only [Gp,QP,← hs1];by_cases h5:s.Else=[]
        ·simp only [h5,ne_eq,not_true,if_false,if_true]
        ·simp only [h5,ne_eq,not_false_eq_true,if_true,if_false];by_cases h6:s.Mask=[]
         ·simp only [h6,if_true];rfl
         ·simp only [h6,if_false,zW (show (nY l s.Var s.Subscripts).1.Extents.length < 16777216 by omega) hl he,Option.bind_some];by_cases h7:yt l s.Else (nY l s.Var s.Subscripts).1.Extents=0
          ·simp only [h7,not_true,if_false,if_true]
          ·simp only [h7,not_false_eq_true,if_true,if_false];rfl
       by_cases h4:s.Mask=[]
       ·simp only [h4,ne_eq,not_true,if_false,false_and,if_true] at key ⊢;exact key
       ·simp only [h4,ne_eq,not_false_eq_true,if_true,true_and,if_false,zW (show (nY l s.Var s.Subscripts).1.Extents.length < 16777216 by omega) hl hm,Option.bind_some] at key ⊢;by_cases h7:yt l s.Mask (nY l s.Var s.Subscripts).1.Extents=0
        ·simp only [h7,not_true,if_false];exact key
        ·simp only [h7,not_false_eq_true,if_true,if_false];rfl
      ·simp only [h3,not_false_eq_true,if_true,if_false];rfl
    ·simp only [h60,if_false] at hs2;rw [if_pos (by omega),hs2];rfl
   ·simp only [h1,if_false] at hs2;simp only [h1,not_false_eq_true,if_true,hs2,if_false];rfl
 ·simp only [h0,not_false_eq_true,if_true,if_false];rfl
end Go.Sh
set_option linter.all false
namespace Go.Sh
open Go.Lx
structure Asg (l:List ag) (s:ai):Prop where
 st:vG l
 arr:∃ a,at_ l s.Var=some a∧Sct a.Bounds (sS l s)
 n60:(sS l s).Offsets.length≤60
 many:(sS l s).ManyOne=false
 va:Small s.Value∧yt l s.Value (sS l s).Extents=0
 ma:Small s.Mask∧(s.Mask≠[]→yt l s.Mask (sS l s).Extents=0)
 el:Small s.Else∧(s.Else≠[]→s.Mask≠[]∧yt l s.Else (sS l s).Extents=0)
theorem asg {l:List ag} {s:ai} (hb:nT s=true) (h:opE l s=0):Asg l s:=by
 obtain ⟨hq,hv,hm,he⟩:=GL hb;unfold opE at h;split at h
 ·rename_i h0
  split at h
  ·rename_i h1
   split at h
   ·cases h
   ·rename_i h2
    split at h
    ·rename_i h3
     split at h
     ·rename_i h4;exact absurd h h4.2
     ·rename_i h4
      obtain ⟨a,ha,sc,h60,_⟩:=wF h1;refine ⟨VY h0,⟨a,ha,sc⟩,h60,by simpa using h2,⟨hv,h3⟩,⟨hm,fun q=>?_⟩,he,fun q=>?_⟩
      ·exact Classical.byContradiction fun r=>h4 ⟨q,r⟩
      ·rw [if_neg q] at h;split at h
       ·cases h
       ·rename_i r;exact ⟨r,h⟩
    ·rename_i h3;exact absurd h h3
  ·rename_i h1;exact absurd h h1
 ·rename_i h0;exact absurd h h0
def nC (l:List ag) (s:ai):Nat:=(sS l s).Offsets.length
theorem Kw {l:List ag} {s:ai} (A:Asg l s) {e:List ae} (hs:Small e) (h:yt l e (sS l s).Extents=0) {k:Int} (h0:0≤k) (h1:k < nC l s):Ce l e k:=by
 obtain ⟨p1,p2⟩:=Tf h;obtain ⟨a,_,sc⟩:=A.arr;have:=sc.len;unfold nC at h1;refine ⟨A.st,hs,p1,h0,?_⟩;rcases p2 with q | q
 ·exact .inl q
 ·right;rw [q];omega
def chs (l:List ag) (s:ai) (k:Int):List ae:=if s.Mask≠[]∧value l s.Mask k=0 then s.Else else s.Value
theorem Qq {l:List ag} {e:List ae} {x:List Int} (h:yt l e x=0):e≠[]:=by
 intro q;have:=(yh (Tf h).1).1.pos;rw [q] at this;simp at this
theorem Tj {l:List ag} {s:ai} (A:Asg l s) {k:Int} (h0:0≤k) (h1:k < nC l s) (hc:chs l s k≠[]):Ce l (chs l s k) k:=by
 unfold chs at hc ⊢;split at hc
 ·rename_i q
  rw [if_pos q];exact Kw A A.el.1 (A.el.2 hc).2 h0 h1
 ·rename_i q
  rw [if_neg q];exact Kw A A.va.1 A.va.2 h0 h1
theorem Qb {l:List ag} {s:ai} (A:Asg l s) {k:Int} (h0:0≤k) (h1:k < nC l s):dX (some (mkA l s)) k=some (if chs l s k=[] then none else some (uD l (chs l s k))):=by
 have hv:=Qq A.va.2;unfold dX;simp only [Option.bind_some,mkA];by_cases h4:s.Mask=[]
 ·have:chs l s k=s.Value:=by unfold chs;rw [if_neg (fun q=>q.1 h4)]
  rw [this];simp only [h4,if_true,Option.isNone_none,hv,if_false]
 ·simp only [h4,if_false,Option.isNone_some,Bool.false_eq_true];rw [Aq (Kw A A.ma.1 (A.ma.2 h4) h0 h1)];simp only [Option.bind_some];by_cases h5:value l s.Mask k=0
  ·have:chs l s k=s.Else:=by unfold chs;rw [if_pos ⟨h4,h5⟩]
   rw [this];simp only [h5,not_true,if_false]
  ·have:chs l s k=s.Value:=by unfold chs;rw [if_neg (fun q=>h5 q.2)]
   rw [this];simp only [h5,not_false_eq_true,if_true,hv,if_false]
def cellAt (l:List ag) (s:ai) (k:Int):Int:=(sS l s).Offsets.getD k.toNat 0
def Bf (m:List ag) (v:Int) (c x:Int):List ag :=
 match at_ m v with
 | none=>m
 | some a=>m.set v.toNat { a with Elements:=a.Elements.set c.toNat x }
def LC (l:List ag) (s:ai) (n:List ag) (m:List ag) (k:Int):List ag :=
 if chs l s k=[] then m else Bf m s.Var (cellAt l s k) (value n (chs l s k) k)
structure Like (l m:List ag):Prop where
 b:bds l=bds m
 st:vG m
theorem Like.refl {l:List ag} (h:vG l):Like l l:=⟨rfl,h⟩
theorem at_mem {α:Type} {l:List α} {v:Int} {a:α} (h:at_ l v=some a):0≤v∧v.toNat < l.length∧l[v.toNat]?=some a:=by
 unfold at_ at h;split at h
 ·rename_i h0;exact ⟨h0,(List.getElem?_eq_some_iff.1 h).1,h⟩
 ·cases h
theorem TG {l m:List ag} (L:Like l m) {v:Int} {a:ag} (h:at_ l v=some a):∃ b,at_ m v=some b∧b.Bounds=a.Bounds:=by
 have:=Td L.b v;rw [h] at this;cases hb:at_ m v with
 | none=>rw [hb] at this;cases this
 | some b=>rw [hb] at this;simp only [Option.map_some,Option.some.injEq] at this;exact ⟨b,rfl,this.symm⟩
theorem Like.set {l m:List ag} (L:Like l m) {v c x:Int} (hx:Bg x):Like l (Bf m v c x):=by
 unfold Bf;cases ha:at_ m v with
 | none=>exact L
 | some a =>
  obtain ⟨h0,h1,h2⟩:=at_mem ha;simp only;refine ⟨?_,?_,?_⟩
  ·rw [L.b];unfold bds;rw [List.map_set];symm;apply List.ext_getElem? ;intro i;rw [List.getElem?_set];split
   ·rename_i q
    subst q;simp only [List.length_map,h1,if_true,List.getElem?_map,h2,Option.map_some]
   ·rfl
  ·simpa using L.st.1
  ·intro b hb;rcases List.mem_or_eq_of_mem_set hb with q | q
   ·exact L.st.2 b q
   ·have hv:=L.st.2 a (List.mem_of_getElem? h2);subst q;refine ⟨hv.b,by simpa using hv.len,fun y hy=>?_⟩;rcases List.mem_or_eq_of_mem_set hy with r | r
    ·exact hv.int y r
    ·subst r;unfold Bg at hx;unfold bK aI;simp;omega
theorem KQ {l:List ag} {s:ai} (A:Asg l s) {n m:List ag} (N:Like l n) (M:Like l m) {k:Int} (h0:0≤k) (h1:k < nC l s):Like l (LC l s n m k):=by
 unfold LC;split
 ·exact M
 ·rename_i hc
  exact M.set (RI ((Tj A h0 h1 hc).bds N.b N.st))
theorem KA {l:List ag} {s:ai} (A:Asg l s) {k:Int} (h0:0≤k) (h1:k < nC l s):cellAt l s k∈(sS l s).Offsets∧at_ (sS l s).Offsets k=some (cellAt l s k):=by
 unfold nC at h1;unfold cellAt;refine ⟨?_,at_in h0 h1⟩;rw [List.getD_eq_getElem?_getD,List.getElem?_eq_getElem (by omega)];exact List.getElem_mem _
theorem Qx {l:List ag} {s:ai} (A:Asg l s) {m:List ag} (M:Like l m) {k:Int} (h0:0≤k) (h1:k < nC l s) :
  ∃ a,at_ m s.Var=some a∧0≤cellAt l s k∧cellAt l s k < a.Elements.length∧(∀ x,m.set s.Var.toNat { a with Elements:=a.Elements.set (cellAt l s k).toNat x }=Bf m s.Var (cellAt l s k) x):=by
 obtain ⟨a,ha,sc⟩:=A.arr;obtain ⟨b,hb,hbb⟩:=TG M ha;have hr:=sc.range _ (KA A h0 h1).1;have hv:=M.st.2 b (List.mem_of_getElem? (at_mem hb).2.2);have hle:=hv.len;rw [hbb] at hle;refine ⟨b,hb,hr.1,by omega,fun x=>?_⟩;unfold Bf;rw [hb]
def uG (n:Nat):List Int:=(List.range n).map fun k:Nat=>(k:Int)
def EO (l:List ag) (s:ai):List ag:=(uG (nC l s)).foldl (LC l s l) l
theorem Ub (xs:List aj) (h:xs.length≤16777216):iH xs=some xs:=by unfold iH;rw [Gn h];rfl
theorem TY (xs:List Int) (h:xs.length≤16777216):slices_Clone_int xs=some xs:=by unfold slices_Clone_int;rw [Gn h];rfl
theorem NS {l:List ag} (h:few l=true):iD l=some l:=by
 obtain ⟨h1,h2⟩:=xy h;unfold iD;rw [qm (step:=iD.s1 l) l (fun a=>a) (fun i b=>(i,b)) (fun b=>b) rfl ?_ ?_ (by omega)]
 ·simp
 ·intro i hi b hb;have:=h2 l[i] (List.getElem_mem hi);simp only [iD.s1,eU hi,if_true,fD hi,Option.bind_some,Ub l[i].Bounds (by omega),TY l[i].Elements (by omega)];rw [iQ (by omega),wn (by omega)];rfl
 ·intro b;simp only [iD.s1,bu,if_false]
theorem tH {l:List ag} {s:ai} (hf:few l=true) (hb:nT s=true):dZ l s=some (if opE l s=0 then EO l s else [],opE l s):=by
 obtain ⟨y,y1,y2⟩:=TQ hf hb;unfold dZ;rw [y1];simp only [Option.bind_some];by_cases h:opE l s=0
 ·have A:=asg hb h;have hn:nC l s≤60:=A.n60;simp only [h,not_true,if_false,NS hf,Option.bind_some,y2 h,if_true];rw [kU (step:=dZ.s1 l (some (mkA l s),0) (mkA l s)) (uG (nC l s)) (fun i b=>(i,b)) (fun b=>b) (LC l s l) (fun _ m=>Like l m) rfl ?_ ?_ (Like.refl A.st) (by simp [uG];omega)]
  ·rfl
  ·intro i hi m M;have hi':i < nC l s:=by simpa [uG] using hi
   have hpi:(uG (nC l s))[i]=(i:Int):=by simp [uG]
   rw [hpi];refine ⟨?_,KQ A (Like.refl A.st) M (by omega) (by omega)⟩;have hlt:((i:Int) < ((mkA l s).cells.length:Int))=True:=eq_true (by show (i:Int) < (nC l s:Int);omega);have hc:=(KA A (show (0:Int)≤i by omega) (by omega)).2;have hc2:at_ (mkA l s).cells i=some (cellAt l s i):=hc;simp only [dZ.s1,hlt,if_true,hc2,Option.bind_some,Qb A (show (0:Int)≤i by omega) (by omega)];unfold LC;by_cases h5:chs l s i=[]
   ·simp only [h5,if_true,Option.isSome_none,Bool.false_eq_true,if_false];rw [wn (by omega)]
   ·obtain ⟨a,a1,a2,a3,a4⟩:=Qx A M (show (0:Int)≤i by omega) (show (i:Int) < nC l s by omega);have a1':at_ m (mkA l s).at_=some a:=a1;simp only [h5,if_false,Option.isSome_some,if_true,a1',Option.bind_some];rw [Aq (Tj A (by omega) (by omega) h5)];simp only [Option.bind_some];rw [at_in (d:=0) a2 a3];simp only [Option.bind_some];rw [wn (by omega)];have:=a4 (value l (chs l s i) i);rw [show (mkA l s).at_=s.Var from rfl,this]
  ·intro m M;have:¬ (((uG (nC l s)).length:Int) < ((mkA l s).cells.length:Int)):=by
    show ¬ _ < (nC l s:Int)
    simp [uG]
   simp only [dZ.s1,this,if_false]
 ·simp only [h,not_false_eq_true,if_true,if_false]
theorem JZ {m:List ag} (h:vG m) {a:ag} (ha:a∈m):a.Bounds.length < 16777216∧a.Elements.length < 16777216:=by
 have hv:=h.2 a ha;have ok:=uX hv.b;have:=ok.size;have hl:=hv.len;have hd:=ok.len;unfold exs at hl;omega
theorem E8 {m:List ag} (h:vG m):eX m m=some true:=by
 have:=h.1;unfold eX;rw [if_neg (by simp)];rw [jy (step:=eX.s1 m m) m (fun _=>(none:Option Bool)) (fun c=>Sum.inr c) (Sum.inl ()) rfl ?_ ?_ (by omega)]
 ·have:m.findSome? (fun _=>(none:Option Bool))=none:=by simp
  rw [this];rfl
 ·intro i hi;obtain ⟨h1,h2⟩:=JZ h (List.getElem_mem hi);simp only [eX.s1,eU hi,if_true,fD hi,Option.bind_some];rw [NY h1 h2];simp only [Option.bind_some,not_true,if_false];rw [wn (by omega)]
 ·simp only [eX.s1,bu,if_false]
theorem CY {l:List ag} {s:ai} (A:Asg l s):∀ (o:List Int) (m:List ag),Like l m→(∀ k,k∈o→0≤k∧k < nC l s)→Like l (o.foldl (LC l s l) m)
 | [],m,M,_=>M
 | k::o,m,M,h=>by
  rw [List.foldl_cons];exact CY A o _ (KQ A (Like.refl A.st) M (h k (.head _)).1 (h k (.head _)).2) (fun j hj=>h j (.tail _ hj))
theorem GK (n:Nat):∀ k,k∈uG n→0≤k∧k < n:=by
 intro k hk;unfold uG at hk;obtain ⟨i,hi,rfl⟩:=List.mem_map.1 hk;simp only [List.mem_range] at hi;omega
end Go.Sh
set_option linter.all false
namespace Go.Sh
open Go.Lx
def cst (v:Int):List ae:=[ae.mk 0 v 0 0 0 [] []]
theorem PK (l:List ag) (v:Int) (x:List Int) (hv:v=0∨v=1):yt l (cst v) x=0∧∀ k,value l (cst v) k=v:=by
 have hf:Bc (cst v)=0:=by rcases hv with rfl | rfl<;>decide +kernel
 have ho:(cst v).any odd=false:=by rcases hv with rfl | rfl<;>decide +kernel
 have hi:aT v (-2147483648) 2147483647=true:=by rcases hv with rfl | rfl<;>decide +kernel
 have hs:shE l (cst v) = .inr [[]]:=by
  unfold shE cst;simp only [dJ,gK,hi,if_true];rfl
 have hp:rG l (cst v)=0:=by
  unfold rG;rw [hf,ho,hs];simp
 have hr:ql l (cst v)=[]:=by unfold ql Ko;rw [hs];rfl
 refine ⟨by unfold yt;rw [hp,hr];simp,fun k=>?_⟩;unfold value vals cst;simp [NV]
theorem Hu (v:Int):small (cst v)=true:=by
 unfold small EP short yD cst;simp
structure Out (l:List ag) (s:ai) (m:List ag):Prop where
 len:m.length=l.length
 el:∀ i a,at_ l i=some a→∃ b,at_ m i=some b∧b.Elements.length=a.Elements.length∧∀ k:Nat,(i≠s.Var∨¬ (k:Int)∈(sS l s).Offsets)→b.Elements[k]?=a.Elements[k]?
theorem Out.refl (l:List ag) (s:ai):Out l s l:=⟨rfl,fun i a h=>⟨a,h,rfl,fun _ _=>rfl⟩⟩
theorem at_set {m:List ag} {v i:Int} {a b:ag} (h:at_ m v=some a):at_ (m.set v.toNat b) i=if i=v then some b else at_ m i:=by
 obtain ⟨h0,h1,_⟩:=at_mem h;unfold at_;by_cases hi:0≤i
 ·rw [if_pos hi,if_pos hi,List.getElem?_set];by_cases e:i=v
  ·subst e;simp [h1]
  ·rw [if_neg (by omega),if_neg e]
 ·rw [if_neg hi,if_neg hi,if_neg (by omega)]
theorem Out.put {l:List ag} {s:ai} (A:Asg l s) {n m:List ag} (O:Out l s m) {k:Int} (h0:0≤k) (h1:k < nC l s):Out l s (LC l s n m k):=by
 unfold LC;split
 ·exact O
 ·unfold Bf;cases ha:at_ m s.Var with
  | none=>exact O
  | some a =>
   simp only;refine ⟨by rw [List.length_set];exact O.len,fun i x hx=>?_⟩;obtain ⟨b,hb,hbl,hbk⟩:=O.el i x hx;rw [at_set ha];by_cases e:i=s.Var
   ·rw [if_pos e];rw [e,ha] at hb;cases hb;refine ⟨_,rfl,by simpa using hbl,fun j hj=>?_⟩;have hc:=(KA A h0 h1).1;have hj2:¬ (j:Int)∈(sS l s).Offsets:=by
     rcases hj with q | q
     ·exact absurd e q
     ·exact q
    have hne:(cellAt l s k).toNat≠j:=by
     intro q;obtain ⟨a0,ha0,sc⟩:=A.arr;have:=(sc.range _ hc).1;exact hj2 (by rw [← q];rw [show (((cellAt l s k).toNat:Nat):Int)=cellAt l s k by omega];exact hc)
    rw [List.getElem?_set_ne hne];exact hbk j hj
   ·rw [if_neg e];exact ⟨b,hb,hbl,hbk⟩
theorem LH {l:List ag} {s:ai} (A:Asg l s):∀ (o:List Int) (m:List ag),Out l s m→(∀ k,k∈o→0≤k∧k < nC l s)→Out l s (o.foldl (LC l s l) m)
 | [],m,M,_=>M
 | k::o,m,M,h=>by
  rw [List.foldl_cons];exact LH A o _ (M.put A (h k (.head _)).1 (h k (.head _)).2) (fun j hj=>h j (.tail _ hj))
theorem Dq:small []=true:=by decide
theorem Jl {α:Type} (xs:List α):xs.findSome? (fun _=>(none:Option Bool))=none:=by simp
theorem RG {l m:List ag} {s:ai} (hl:l.length < 1000) (hel:∀ a,a∈l→a.Elements.length < 1000) (O:Out l s m) (hof:(sS l s).Offsets.length < 1000) (e1 e2:Int) :
  dO (bC.s1 l s (sS l s,e1) (m,e2)) 0=some (.inl ()):=by
 rw [jy (step:=bC.s1 l s (sS l s,e1) (m,e2)) l (fun _=>(none:Option Bool)) (fun r=>Sum.inr r) (Sum.inl ()) rfl ?_ ?_ (by omega),Jl]
 ·intro i hi;have hei:=hel l[i] (List.getElem_mem hi);obtain ⟨b,hb,hbl,hbk⟩:=O.el i l[i] (fD hi);simp only [bC.s1,eU hi,if_true];rw [jy (step:=bC.s2 l s (sS l s,e1) (m,e2) i) l[i].Elements (fun _=>(none:Option Bool)) (fun r=>Sum.inr r) (Sum.inl ()) rfl ?_ ?_ (by omega),Jl]
  ·simp only [Option.bind_some];rw [wn (by omega)]
  ·intro j hj;have hjb:j < b.Elements.length:=by omega
   have hge:¬ ((j:Int)≥(b.Elements.length:Int)):=by omega
   have key:((i:Int)≠s.Var∨¬ (j:Int)∈(sS l s).Offsets)→b.Elements[j]=l[i].Elements[j]:=by
    intro q;have:=hbk j q;rw [List.getElem?_eq_getElem hjb,List.getElem?_eq_getElem hj] at this;exact Option.some.inj this
   simp only [bC.s2,fD hi,Option.bind_some,eU hj,if_true];by_cases hv:(i:Int)=s.Var
   ·rw [if_neg (by simp [hv]),has_eq (by omega)];simp only [Option.bind_some];by_cases hx:((sS l s).Offsets.any fun x=>x==(j:Int))=true
    ·rw [if_neg (by simp only [hx,not_true,not_false_eq_true])];rw [wn (by omega)]
    ·have hn:¬ (j:Int)∈(sS l s).Offsets:=by
      intro q;exact hx (List.any_eq_true.2 ⟨_,q,beq_self_eq_true _⟩)
     rw [if_pos hx,hb];simp only [Option.bind_some,hge,if_false,fD hjb,fD hj,key (.inr hn),not_true];rw [wn (by omega)]
   ·rw [if_pos hv,hb];simp only [Option.bind_some,hge,if_false,fD hjb,fD hj,key (.inl hv),not_true];rw [wn (by omega)]
  ·simp only [bC.s2,fD hi,Option.bind_some,bu,if_false]
 ·simp only [bC.s1,bu,if_false]
theorem Iy {l:List ag} {s t:ai} (h1:s.Var=t.Var) (h2:sS l s=sS l t) (h3:∀ k,chs l s k=chs l t k):EO l s=EO l t:=by
 have hn:nC l s=nC l t:=by unfold nC;rw [h2]
 have hp:LC l s l=LC l t l:=by
  funext m k
  unfold LC cellAt;rw [h1,h2,h3]
 unfold EO;rw [hn,hp]
theorem zh (l:List ag) (s:ai) (other:List ae):bC l s other=some true:=by
 unfold bC;rw [UG,U2];simp only [Option.bind_some,not_true,if_false];by_cases hf:few l=true
 ·simp only [hf,not_true,if_false,Pn,Option.bind_some];by_cases hb:nT s=true
  ·simp only [hb,not_true,if_false,Lm,Option.bind_some];by_cases ho:small other=true
   ·simp only [ho,not_true,if_false];have hb':=hb;unfold nT at hb';simp only [Bool.and_eq_true] at hb';have b1:nT (ai.mk s.Var s.Subscripts s.Value [] [])=true:=by unfold nT;simp only [hb'.1,hb'.2.1,Dq];rfl
    have b2:nT (ai.mk s.Var s.Subscripts s.Value (cst 1) [])=true:=by unfold nT;simp only [hb'.1,hb'.2.1,Dq,Hu];rfl
    have b3:nT (ai.mk s.Var s.Subscripts s.Value (cst 0) other)=true:=by unfold nT;simp only [hb'.1,hb'.2.1,ho,Hu];rfl
    have b4:nT (ai.mk s.Var s.Subscripts other [] [])=true:=by unfold nT;simp only [hb'.1,ho,Dq];rfl
    rw [show [ae.mk 0 1 0 0 0 [] []]=cst 1 from rfl,show [ae.mk 0 0 0 0 0 [] []]=cst 0 from rfl];have hS:∀ v m e,sS l (ai.mk s.Var s.Subscripts v m e)=sS l s:=fun _ _ _=>rfl
    simp only [AB hf b1,AB hf b4,Option.bind_some,Jn hf,um b1,um b2,um b3,um b4,tH hf b1,tH hf b2,tH hf b3,tH hf b4];by_cases h:opE l (ai.mk s.Var s.Subscripts s.Value [] [])=0
    ·have A:=asg b1 h;have hn:=A.n60;have hfit1:=PK l 1 (sS l s).Extents (.inr rfl);have hfit0:=PK l 0 (sS l s).Extents (.inl rfl);have o2:opE l (ai.mk s.Var s.Subscripts s.Value (cst 1) [])=0:=by
      have h':=h;unfold opE at h' ⊢;simp only [hS,hfit1.1] at h' ⊢;simpa using h'
     have e2:EO l (ai.mk s.Var s.Subscripts s.Value (cst 1) [])=EO l (ai.mk s.Var s.Subscripts s.Value [] []) :=
      Iy rfl rfl (fun k=>by unfold chs;simp [hfit1.2])
     have L:=CY A _ _ (Like.refl A.st) (GK _);have O:=LH A _ _ (Out.refl l _) (GK _);rw [show (uG (nC l (ai.mk s.Var s.Subscripts s.Value [] []))).foldl (LC l (ai.mk s.Var s.Subscripts s.Value [] []) l) l=EO l (ai.mk s.Var s.Subscripts s.Value [] []) from rfl] at L O;simp only [h,o2,not_true,if_false,if_true,e2,bne_self_eq_false,Bool.or_self,Bool.false_eq_true,E8 L.st,Option.bind_some,O.len,Bool.not_true];obtain ⟨f1,f2⟩:=xy hf;have hloop:=RG (s:=ai.mk s.Var s.Subscripts s.Value [] []) (by omega) (fun a ha=>by have:=f2 a ha;omega) O (by omega) 0 0;have hss:bC.s1 l (ai.mk s.Var s.Subscripts s.Value [] [])=bC.s1 l s:=by
      funext a b c
      unfold bC.s1 bC.s2;rfl
     rw [hss] at hloop;rw [hloop];simp only [Option.bind_some];by_cases h4:opE l (ai.mk s.Var s.Subscripts other [] [])=0
     ·have A4:=asg b4 h4;have hne:=Qq A4.va.2;have o3:opE l (ai.mk s.Var s.Subscripts s.Value (cst 0) other)=0:=by
       have h':=h;have h4':=A4.va.2;simp only [hS] at h4';unfold opE at h' ⊢;simp only [hS,hfit0.1,h4'] at h' ⊢;have:cst 0≠[]:=by unfold cst;simp
       simp only [this];simpa using h'
      have e3:EO l (ai.mk s.Var s.Subscripts s.Value (cst 0) other)=EO l (ai.mk s.Var s.Subscripts other [] []) :=
       Iy rfl rfl (fun k=>by
        unfold chs;have:cst 0≠[]:=by unfold cst;simp
        simp [hfit0.2,this])
      have L4:=CY A4 _ _ (Like.refl A4.st) (GK _);rw [show (uG (nC l (ai.mk s.Var s.Subscripts other [] []))).foldl (LC l (ai.mk s.Var s.Subscripts other [] []) l) l=EO l (ai.mk s.Var s.Subscripts other [] []) from rfl] at L4;simp only [h4,o3,e3,not_true,if_false,if_true,beq_self_eq_true,Bool.and_self,E8 L4.st,Option.bind_some]
     ·simp only [h4,not_false_eq_true,if_true]
    ·simp only [h,not_false_eq_true,if_true]
   ·simp [ho]
  ·simp [hb]
 ·simp [hf]
end Go.Sh
