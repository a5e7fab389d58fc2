/- What the functions compute answers as the statement says. -/
import Derived.Test.YtbgaclfkpjnmgaaGreatMasksValuesSh
set_option linter.all false
namespace Go.Sh
open Go.Lx
set_option linter.unusedVariables false
set_option linter.unusedSimpArgs false
theorem eP {i n:Nat} (h:i < n):((i:Int) < (n:Int))=True:=eq_true (by omega)
theorem bu (n:Nat):((n:Int) < (n:Int))=False:=eq_false (by omega)
theorem Gq {p:List ai} (h:p.length≤16777216):kV p=some p:=by
 unfold kV;rw [Jn h];rfl
theorem sQ {p:List Int} (h:p.length≤16777216):jD p=some p:=by
 unfold jD;rw [QI h];simp [L9]
theorem ED {p:List ai} (h:p.length < 16777216):fC p=some (p.map aC):=by
 unfold fC;rw [nV p aC (fun i b=>(i,b)) (fun b=>b) rfl ?_ ?_ (by omega)]
 ·rfl
 ·intro i hi b hb;simp only [fC.s1,eP hi,if_true,fK hi,Option.bind_some];rw [gB (by omega),wn (by omega)];rfl
 ·intro b;simp only [fC.s1,bu,if_false]
theorem yR {p:List ai} (h:p.length < 16777216):eY p=some (p.map aC):=by
 unfold eY;rw [nV p aC (fun i b=>(i,b)) (fun b=>b) rfl ?_ ?_ (by omega)]
 ·rfl
 ·intro i hi b hb;simp only [eY.s1,eP hi,if_true,fK hi,Option.bind_some];rw [gB (by omega),wn (by omega)];rfl
 ·intro b;simp only [eY.s1,bu,if_false]
theorem Og (p:List Int) (v:Int) (h:p.length < 16777216):∃ k:Nat,slices_Index_int p v=some (if p.any (fun x=>v==x)=true then (k:Int) else -1):=by
 unfold slices_Index_int;obtain ⟨k,hk⟩:=vU (step:=slices_Index_int.s1 p v) p (fun x=>v==x) (fun i=>Sum.inr i) (Sum.inl ()) (s:=0) rfl (fun i hi=>by
  simp only [slices_Index_int.s1,eP hi,if_true,fK hi,Option.bind_some];by_cases e:v=p[i]
  ·simp [e]
  ·simp only [e,if_false,beq_iff_eq];rw [wn (by omega)]) (by simp only [slices_Index_int.s1,bu,if_false]) (by omega)
 refine ⟨k,?_⟩;rw [hk];by_cases e:p.any (fun x=>v==x)=true
 ·rw [if_pos e,if_pos e];rfl
 ·rw [if_neg e,if_neg e];rfl
theorem JB {p:List Int} {v:Int} (h:p.length < 16777216):slices_Contains_int p v=some (p.any (fun x=>v==x)):=by
 unfold slices_Contains_int;obtain ⟨k,hk⟩:=Og p v h;rw [hk];by_cases e:p.any (fun x=>v==x)=true
 ·rw [if_pos e,e];simp
 ·rw [if_neg e,eq_false_of_ne_true e];rfl
def Ur (xs:List Int):Int:=xs.foldl (fun a x=>mn (w (a * mn x 513)) 513) 1
def gG (xs:List Int):Int:=if xs.any (fun x=>0==x)=true then 0 else Ur xs
theorem EN {p:List Int} (h:p.length < 16777216):fE p=some (gG p):=by
 unfold fE;rw [jZ (step:=fE.s1 p) p (fun i b=>(b,i)) (fun b=>b) (fun a x=>mn (w (a * mn x 513)) 513) (fun _ _=>True) (a:=1) rfl ?_ ?_ trivial (by omega)]
 ·simp only [Option.bind_some,JB h];unfold gG Ur;split<;>rfl
 ·intro i hi b _;refine ⟨?_,trivial⟩;simp only [fE.s1,eP hi,if_true,fK hi,Option.bind_some];rw [wn (by omega)]
 ·intro b _;simp only [fE.s1,bu,if_false]
theorem Ho:∀ (xs:List Int) (i:Nat) (a:Int),dJ (ρ:=Unit) (fun _ (b:Int) x=>if x=0 then .inl () else .inr (mn (w (b * mn x 513)) 513)) i xs a=(if xs.any (fun x=>0==x)=true then .inl () else .inr (xs.foldl (fun a x=>mn (w (a * mn x 513)) 513) a))
 | [],i,a=>rfl
 | x::xs,i,a=>by
  simp only [dJ,List.any_cons,List.foldl_cons];by_cases e:x=0
  ·subst e;simp
  ·have e':(0==x)=false:=by simp;exact fun q=>e q.symm
   simp only [e,if_false,e',Bool.false_or];exact Ho xs (i+1) _
theorem qf {p:List Int} (h:p.length < 16777216):eG p=some (gG p):=by
 unfold eG;rw [iy (step:=eG.s1 p) p (fun i b=>(b,i)) (fun (_:Unit)=>Sum.inr 0) (fun b=>Sum.inl b) (fun _ (b:Int) x=>if x=0 then .inl () else .inr (mn (w (b * mn x 513)) 513)) (fun _ _=>True) (a:=1) rfl ?_ ?_ trivial (by omega)]
 ·rw [Ho];unfold gG Ur;by_cases e:p.any (fun x=>0==x)=true
  ·simp only [e,if_true];rfl
  ·simp only [e,if_false];rfl
 ·intro i hi b _;refine ⟨?_,fun _ _=>trivial⟩;simp only [eG.s1,eP hi,if_true,fK hi,Option.bind_some];by_cases e:p[i]=0
  ·simp only [e,if_true]
  ·simp only [e,if_false];rw [wn (by omega)]
 ·intro b _;simp only [eG.s1,bu,if_false]
def num (b:ai):Bool:=aI b.Low&&aI b.High
def FT (p:List ai):Int:=if (p.length:Int) > 7 then 32 else if p.any (fun b=>!num b)=true then 2 else if p.any (fun b=>decide (aC b > 512))=true then 8 else if gG (p.map aC) > 512 then 8 else 0
theorem yg (a b c:Int):cO a b c=aJ a b c:=by
 unfold cO aJ;simp only [Bool.not_or,← decide_not]
 congr 1<;>exact decide_eq_decide.2 (by omega)
theorem pF {α ρ:Type} {p:α→Bool} {c:ρ}:∀ xs:List α,xs.findSome? (fun x=>if p x=true then some c else none)=if xs.any p=true then some c else none
 | []=>rfl
 | x::xs=>by
  simp only [List.findSome?_cons,List.any_cons];by_cases e:p x=true
  ·simp [e]
  ·simp only [e,if_false,Bool.false_or];exact pF xs
theorem OY (b:Bool) (c:Int):dF [az.mk b c]=some (if b=true then 0 else c):=by
 unfold dF;rw [kQ (step:=dF.s1 [az.mk b c]) [az.mk b c] (fun r=>if r.holds=true then none else some r.code) (fun c=>Sum.inr c) (Sum.inl ()) rfl ?_ ?_ (by simp)]
 ·cases b<;>rfl
 ·intro i hi;simp only [dF.s1,eP hi,if_true,fK hi,Option.bind_some];have:i=0:=by simpa using hi
  subst this;cases b<;>simp [w,IntKind.wrap]<;>rfl
 ·rfl
theorem OW (p:List ai) (h:p.length < 16777216):bP p=some (p.any (fun b=>!num b)):=by
 unfold bP aP;obtain ⟨k,hk⟩:=vU (step:=aP.s1 p) p (fun b=>!num b) (fun i=>Sum.inr i) (Sum.inl ()) (s:=0) rfl (fun i hi=>by
  simp only [aP.s1,eP hi,if_true,fK hi,Option.bind_some];have:iD p[i]=!num p[i]:=by unfold iD num;simp
  rw [this,wn (by omega)];split<;>rfl) (by simp only [aP.s1,bu,if_false]) (by omega)
 rw [hk];by_cases e:p.any (fun b=>!num b)=true
 ·rw [if_pos e,e];simp
 ·rw [if_neg e,eq_false_of_ne_true e];rfl
theorem Pj (p:List ai) (h:p.length < 16777216):bQ p=some (p.any (fun b=>decide (aC b > 512))):=by
 unfold bQ aO;obtain ⟨k,hk⟩:=vU (step:=aO.s1 p) p (fun b=>decide (aC b > 512)) (fun i=>Sum.inr i) (Sum.inl ()) (s:=0) rfl (fun i hi=>by
  simp only [aO.s1,eP hi,if_true,fK hi,Option.bind_some];unfold jm;rw [wn (by omega)];split<;>rfl) (by simp only [aO.s1,bu,if_false]) (by omega)
 rw [hk];by_cases e:p.any (fun b=>decide (aC b > 512))=true
 ·rw [if_pos e,e];simp
 ·rw [if_neg e,eq_false_of_ne_true e];rfl
theorem size_eq {p:List ai} (h:p.length < 16777216):oU p=some (gG (p.map aC)):=by
 unfold oU;rw [ED h];simp only [Option.bind_some];rw [EN (by simpa using h)];rfl
theorem Ac (p:List ai):jA p=some (FT p):=by
 unfold jA FT;by_cases h7:(p.length:Int) > 7
 ·simp only [h7,if_true]
 ·have h:p.length < 16777216:=by omega
  simp only [h7,if_false,OW p h,Pj p h,size_eq h,OY,Option.bind_some];by_cases e1:p.any (fun b=>!num b)=true
  ·simp only [e1,if_true]
  ·simp only [e1,if_false];by_cases e2:p.any (fun b=>decide (aC b > 512))=true
   ·simp [e2]
   ·simp only [e2,if_false];by_cases e3:gG (p.map aC) > 512
    ·have:¬ gG (p.map aC)≤512:=by omega
     simp [e3,this]
    ·have:gG (p.map aC)≤512:=by omega
     simp [e3,this]
theorem uS (p:List ai):di p=some (FT p):=by
 unfold di FT;by_cases h7:(p.length:Int) > 7
 ·simp only [h7,if_true]
 ·have h:p.length < 16777216:=by omega
  simp only [h7,if_false,yR h,Option.bind_some];rw [kQ (step:=di.s1 p) p (fun b=>if (!num b)=true then some (2:Int) else none) (fun c=>Sum.inr c) (Sum.inl ()) rfl ?_ ?_ (by omega),pF]
  ·by_cases e1:p.any (fun b=>!num b)=true
   ·simp only [e1,if_true,Option.bind_some]
   ·simp only [e1,if_false,Option.bind_some];rw [kQ (step:=di.s2 (p.map aC)) (p.map aC) (fun x=>if (decide (x > 512))=true then some (8:Int) else none) (fun c=>Sum.inr c) (Sum.inl ()) rfl ?_ ?_ (by simp;omega),pF,List.any_map]
    ·by_cases e2:p.any (fun b=>decide (aC b > 512))=true
     ·have e2':p.any ((fun x=>decide (x > 512)) ∘ aC)=true:=e2;simp only [e2,e2',if_true,Option.bind_some,Bool.false_eq_true,if_false]
     ·have e2':¬ p.any ((fun x=>decide (x > 512)) ∘ aC)=true:=e2;simp only [e2,e2',if_false,Option.bind_some,Bool.false_eq_true];rw [qf (by simpa using h)];simp only [Option.bind_some];split<;>rfl
    ·intro i hi;simp only [di.s2,eP hi,if_true,fK hi,Option.bind_some];by_cases e:(p.map aC)[i] > 512
     ·simp only [e,if_true,decide_true]
     ·simp only [e,if_false,decide_false,Bool.false_eq_true];rw [wn (by simp at hi;omega)]
    ·simp only [di.s2,bu,if_false]
  ·intro i hi;simp only [di.s1,eP hi,if_true,fK hi,Option.bind_some,bH,yg,num,aI];rw [wn (by omega)];by_cases e1:aJ p[i].Low (-2147483647) 2147483647=true
   ·by_cases e2:aJ p[i].High (-2147483647) 2147483647=true
    ·simp [e1,e2]
    ·simp [e1,e2]
   ·simp [e1]
  ·simp only [di.s1,bu,if_false]
set_option linter.unusedVariables false
set_option linter.unusedSimpArgs false
theorem G7:∀ (n:Nat) (a b:List Int),a.length < n→n≤16777217→b.length < 16777216→∃ r,bT.N n a b=some r∧(r=true→a≠b)
 | 0,a,b,h,_,_=>absurd h (Nat.not_lt_zero _)
 | n+1,a,b,h,hn,hb=>by
  show ∃ r,bT.F (bT.N n) a b=some r∧_
  unfold bT.F
  match a,b with
  | [],b=>exact ⟨_,rfl,fun h=>by simp at h;intro q;subst q;simp at h⟩
  | x::a,[]=>exact ⟨_,rfl,fun h=>by simp at h;omega⟩
  | x::a,y::b =>
   have e0:¬ ((((x::a).length:Int)==0) || (((y::b).length:Int)==0))=true:=by simp;omega
   have c1:cut (x::a) 1 ((x::a).length:Int)=some a:=by unfold cut;rw [if_pos (by simp;omega)];simp
   have c2:cut (y::b) 1 ((y::b).length:Int)=some b:=by unfold cut;rw [if_pos (by simp;omega)];simp
   have a1:at_ (x::a) 0=some x:=rfl;have a2:at_ (y::b) 0=some y:=rfl;rw [if_neg e0];simp only [a1,a2,Option.bind_some];by_cases h1:x < y
   ·exact ⟨true,by simp [h1],fun _ q=>by simp at q;omega⟩
   ·by_cases h2:x=y
    ·obtain ⟨r,h3,h4⟩:=G7 n a b (by simp at h;omega) (by omega) (by simp at hb;omega);refine ⟨r,?_,fun hr q=>h4 hr (by simp at q;exact q.2)⟩;subst h2;rw [if_neg h1,if_pos rfl,c1,c2];simp only [Option.bind_some,h3]
    ·exact ⟨false,by simp [h1,h2],fun q=>by cases q⟩
theorem EG:∀ (n m:Nat) (a b:List Int),bT.N n a b=some false→bT.N m b a=some false→a.length=b.length→a=b
 | 0,m,a,b,h,_,_=>by cases h
 | n+1,0,a,b,_,h,_=>by cases h
 | n+1,m+1,a,b,h,k,hl=>by
  change bT.F (bT.N n) a b=some false at h;change bT.F (bT.N m) b a=some false at k;unfold bT.F at h k
  match a,b,hl with
  | [],[],_=>rfl
  | x::a,y::b,hl =>
   have e0:¬ ((((x::a).length:Int)==0) || (((y::b).length:Int)==0))=true:=by simp;omega
   have e1:¬ ((((y::b).length:Int)==0) || (((x::a).length:Int)==0))=true:=by simp;omega
   have c1:cut (x::a) 1 ((x::a).length:Int)=some a:=by unfold cut;rw [if_pos (by simp;omega)];simp
   have c2:cut (y::b) 1 ((y::b).length:Int)=some b:=by unfold cut;rw [if_pos (by simp;omega)];simp
   have a1:at_ (x::a) 0=some x:=rfl;have a2:at_ (y::b) 0=some y:=rfl;rw [if_neg e0] at h;rw [if_neg e1] at k;simp only [a1,a2,Option.bind_some,c1,c2] at h k;by_cases h1:x < y
   ·simp [h1] at h
   ·by_cases h2:y < x
    ·simp [h2] at k
    ·have h3:x=y:=by omega
     subst h3;simp only [h1,if_false,if_true] at h k;obtain ⟨r,hr,h⟩:=Option.bind_eq_some_iff.1 h;obtain ⟨r',hr',k⟩:=Option.bind_eq_some_iff.1 k;cases h;cases k;rw [EG n m a b hr hr' (by simpa using hl)]
theorem JQ {a b:List Int} (ha:a.length < 16777216) (hb:b.length < 16777216):kU a b=some (a==b):=by
 unfold kU;have hF:(16777217:Nat)≤FUEL:=by unfold FUEL;omega
 have step:∀ (n:Nat) (a b:List Int) (r:Bool),bT.N n a b=some r→bT.N (n+1) a b=some r:=by
  intro n
  induction n with
  | zero=>intro a b r h;cases h
  | succ n ih =>
   intro a b r h;change bT.F (bT.N n) a b=some r at h
   show bT.F (bT.N (n+1)) a b=some r
   unfold bT.F at h ⊢;split
   ·rename_i hc;rw [if_pos hc] at h;exact h
   ·rename_i hc
    rw [if_neg hc] at h;obtain ⟨x4,h4,h⟩:=Option.bind_eq_some_iff.1 h;obtain ⟨x5,h5,h⟩:=Option.bind_eq_some_iff.1 h;rw [h4,h5];simp only [Option.bind_some];split
    ·rename_i hd;rw [if_pos hd] at h;exact h
    ·rename_i hd
     rw [if_neg hd] at h;rw [h4,h5] at h;simp only [Option.bind_some] at h ⊢;split
     ·rename_i he
      rw [if_pos he] at h;obtain ⟨x6,h6,h⟩:=Option.bind_eq_some_iff.1 h;obtain ⟨x7,h7,h⟩:=Option.bind_eq_some_iff.1 h;obtain ⟨x8,h8,h⟩:=Option.bind_eq_some_iff.1 h;rw [h6,h7];simp only [Option.bind_some];rw [ih _ _ _ h8];exact h
     ·rename_i he;rw [if_neg he] at h;exact h
 have up:∀ (n m:Nat) (a b:List Int) (r:Bool),n≤m→bT.N n a b=some r→bT.N m a b=some r:=by
  intro n m a b r hnm h
  induction hnm with
  | refl=>exact h
  | step _ ih=>exact step _ _ _ _ ih
 have get:∀ a b:List Int,a.length < 16777216→b.length < 16777216→∃ r,bT a b=some r∧(r=true→a≠b):=by
  intro a b ha hb;obtain ⟨r,h1,h2⟩:=G7 16777217 a b (by omega) (Nat.le_refl _) hb;exact ⟨r,up _ _ _ _ _ hF h1,h2⟩
 by_cases hl:(a.length:Int)=(b.length:Int)
 ·rw [if_pos hl];obtain ⟨r,h1,h2⟩:=get a b ha hb;obtain ⟨r',h3,h4⟩:=get b a hb ha;rw [h1,h3];simp only [Option.bind_some];cases r with
  | true=>simp;exact h2 rfl
  | false =>
   cases r' with
   | true=>simp;exact fun q=>h4 rfl q.symm
   | false=>simp;exact EG _ _ _ _ h1 h3 (by omega)
 ·rw [if_neg hl];have:a≠b:=fun q=>hl (by rw [q])
  simp [this]
set_option linter.unusedVariables false
set_option linter.unusedSimpArgs false
def P:List Int→Int
 | []=>1
 | x::xs=>x * P xs
def H:List Int→List Int→Int
 | e::es,d::ds=>d+e * H es ds
 | _,_=>0
def dig:List Int→Int→List Int
 | [],_=>[]
 | e::es,n=>n % e::dig es (n / e)
def inBase:List Int→List Int→Prop
 | e::es,d::ds=>0≤d∧d < e∧inBase es ds
 | [],[]=>True
 | _,_=>False
theorem JA:∀ {es:List Int},(∀ e,e∈es→1≤e)→1≤P es
 | [],_=>Int.le_refl 1
 | e::es,h=>by
  have h1:=h e (.head _);have h2:=JA (es:=es) fun x hx=>h x (.tail _ hx)
  have:=Int.mul_le_mul h1 h2 (by omega) (by omega);simpa [P] using this
theorem UK {e:Int} {es:List Int} (h:∀ x,x∈e::es→1≤x):P es≤P (e::es):=by
 have h1:=h e (.head _);have h2:=JA (es:=es) fun x hx=>h x (.tail _ hx)
 have:=Int.mul_le_mul h1 (Int.le_refl (P es)) (by omega) (by omega);simpa [P] using this
theorem zt:∀ {es ds:List Int},inBase es ds→∀ e,e∈es→1≤e
 | [],_,_,e,h=>by cases h
 | e::es,[],h,_,_=>by cases h
 | e::es,d::ds,⟨h1,h2,h3⟩,x,hx=>by
  cases hx with
  | head=>omega
  | tail _ hx=>exact zt h3 x hx
theorem Gn:∀ {es ds:List Int},inBase es ds→0≤H es ds∧H es ds < P es
 | [],[],_=>by simp [H,P]
 | [],_::_,h=>by cases h
 | e::es,[],h=>by cases h
 | e::es,d::ds,⟨h1,h2,h3⟩=>by
  obtain ⟨i1,i2⟩:=Gn h3;have a1:0≤e * H es ds:=Int.mul_nonneg (by omega) i1;have a2:e * H es ds≤e * (P es - 1):=Int.mul_le_mul_of_nonneg_left (by omega) (by omega);rw [Int.mul_sub,Int.mul_one] at a2;simp only [H,P];omega
theorem SI:∀ {es:List Int} {n:Int},(∀ e,e∈es→1≤e)→0≤n→n < P es→inBase es (dig es n)∧H es (dig es n)=n
 | [],n,_,h1,h2=>by simp [P] at h2;simp [inBase,dig,H];omega
 | e::es,n,h,h1,h2=>by
  have he:=h e (.head _);have g1:0≤n / e:=Int.ediv_nonneg h1 (by omega);have g2:n / e < P es:=Int.ediv_lt_of_lt_mul (by omega) (by simp only [P] at h2;rw [Int.mul_comm];exact h2);obtain ⟨i1,i2⟩:=SI (es:=es) (fun x hx=>h x (.tail _ hx)) g1 g2;refine ⟨⟨Int.emod_nonneg _ (by omega),Int.emod_lt_of_pos _ (by omega),i1⟩,?_⟩;simp only [dig,H,i2];exact Int.emod_add_mul_ediv n e
theorem OA:∀ (es:List Int) (n:Int),(dig es n).length=es.length
 | [],n=>rfl
 | e::es,n=>by simp [dig,OA es]
theorem KL:∀ {es:List Int},(∃ e,e∈es∧e=0)→P es=0
 | [],h=>by obtain ⟨e,h,_⟩:=h;cases h
 | e::es,h=>by
  obtain ⟨x,hx,rfl⟩:=h;cases hx with
  | head=>simp [P]
  | tail _ hx=>rw [P,KL ⟨0,hx,rfl⟩];simp
theorem min_mul {a b m:Int} (ha:1≤a) (hb:1≤b) (hm:0≤m):min (min a m * b) m=min (a * b) m:=by
 rcases Int.le_total a m with h | h
 ·rw [Int.min_eq_left h]
 ·rw [Int.min_eq_right h];have h1:m * 1≤m * b:=Int.mul_le_mul_of_nonneg_left hb hm;have h2:m * b≤a * b:=Int.mul_le_mul_of_nonneg_right h (by omega);omega
theorem Gs:∀ {xs:List Int} {a:Int},(∀ x,x∈xs→1≤x∧x≤512)→1≤a→a≤513→xs.foldl (fun a x=>mn (w (a * mn x 513)) 513) a=min (a * P xs) 513
 | [],a,_,h1,h2=>by simp [P];omega
 | x::xs,a,h,h1,h2=>by
  obtain ⟨g1,g2⟩:=h x (.head _);have m1:mn x 513=x:=by unfold mn;rw [if_neg (by omega)]
  have b1:1 * 1≤a * x:=Int.mul_le_mul h1 g1 (by omega) (by omega);have b2:a * x≤513 * 512:=Int.mul_le_mul h2 g2 (by omega) (by omega);have m2:mn (w (a * x)) 513=min (a * x) 513:=by
   rw [qo (by omega) (by omega)];unfold mn;split<;>omega
  rw [List.foldl_cons,m1,m2,Gs (fun y hy=>h y (.tail _ hy)) (by omega) (by omega)];have hp:=JA (es:=xs) fun y hy=>(h y (.tail _ hy)).1
  rw [min_mul (by omega) hp (by omega),P,Int.mul_assoc]
structure Ok (p:List ai):Prop where
 len:p.length≤7
 num:∀ b,b∈p→num b=true
 big:∀ b,b∈p→aC b≤512
 pos:∀ b,b∈p→0≤aC b
 sz:gG (p.map aC)≤512
theorem MO (b:ai):0≤aC b:=by unfold aC mx;split<;>omega
theorem wX {p:List ai} (h:FT p=0):Ok p:=by
 unfold FT at h;split at h
 ·cases h
 split at h
 ·cases h
 split at h
 ·cases h
 split at h
 ·cases h
 rename_i h1 h2 h3 h4
 refine ⟨by omega,fun b hb=>?_,fun b hb=>?_,fun b _=>MO b,by omega⟩
 ·simp only [List.any_eq_true,not_exists,not_and,Bool.not_eq_true',Bool.not_eq_false] at h2;exact h2 b hb
 ·simp only [List.any_eq_true,not_exists,not_and,decide_eq_true_eq] at h3;have:=h3 b hb;omega
theorem I4 {b:ai} (h:num b=true) : -2147483647≤b.Low∧b.Low≤2147483647 ∧ -2147483647≤b.High∧b.High≤2147483647:=by
 simp [num,aI,aJ] at h;omega
theorem TM {b:ai} (h:num b=true):aC b=max 0 (b.High - b.Low+1):=by
 have:=I4 h;unfold aC mx;rw [qo (n:=b.High - b.Low) (by omega) (by omega),qo (by omega) (by omega)];split<;>omega
theorem JM {xs:List Int} (h:∀ x,x∈xs→0≤x∧x≤512) (hs:gG xs≤512):gG xs=P xs∧0≤P xs:=by
 unfold gG at hs ⊢;by_cases h0:xs.any (fun x=>0==x)=true
 ·rw [if_pos h0];have:P xs=0:=KL (by
   simp only [List.any_eq_true,beq_iff_eq] at h0;obtain ⟨x,h1,h2⟩:=h0;exact ⟨x,h1,h2.symm⟩)
  omega
 ·rw [if_neg h0] at hs ⊢;have hx:∀ x,x∈xs→1≤x∧x≤512:=fun x hx=>by
   obtain ⟨h1,h2⟩:=h x hx;simp only [List.any_eq_true,not_exists,not_and,beq_iff_eq] at h0;have:=h0 x hx;omega
  have:=Gs (a:=1) hx (by omega) (by omega);unfold Ur at hs ⊢;have hp:=JA fun x hq=>(hx x hq).1
  omega
theorem Ok.size {p:List ai} (h:Ok p):gG (p.map aC)=P (p.map aC)∧0≤P (p.map aC)∧P (p.map aC)≤512:=by
 have:=JM (xs:=p.map aC) (fun x hx=>by
  obtain ⟨b,hb,rfl⟩:=List.mem_map.1 hx;exact ⟨h.pos b hb,h.big b hb⟩) h.sz
 have hs:=h.sz;omega
def allIn:List ai→List Int→Bool
 | b::bs,x::xs=>aJ x b.Low b.High&&allIn bs xs
 | _,_=>true
def QJ (bs:List ai) (xs:List Int):List Int:=(xs.zip bs).map fun p=>w (p.1 - p.2.Low)
def exs (bs:List ai):List Int:=bs.map aC
theorem Rn {b:ai} {bs:List ai}:exs (b::bs)=aC b::exs bs:=rfl
theorem Pi {b:ai} {bs:List ai} {x:Int} {xs:List Int}:QJ (b::bs) (x::xs)=w (x - b.Low)::QJ bs xs:=rfl
theorem KW {b:ai} {x:Int} (hn:num b=true) (h:aJ x b.Low b.High=true):w (x - b.Low)=x - b.Low∧0≤x - b.Low∧x - b.Low < aC b:=by
 have:=I4 hn;have he:=TM hn;simp [aJ] at h;refine ⟨qo (by omega) (by omega),by omega,by omega⟩
theorem vJ:∀ {bs:List ai} {xs:List Int},bs.length=xs.length→(∀ b,b∈bs→num b=true)→allIn bs xs=true→inBase (exs bs) (QJ bs xs)
 | [],[],_,_,_=>trivial
 | b::bs,x::xs,hl,hn,h=>by
  simp only [allIn,Bool.and_eq_true] at h;obtain ⟨h1,h2,h3⟩:=KW (hn b (.head _)) h.1;refine ⟨by show 0≤w (x - b.Low);rw [h1];exact h2,by show w (x - b.Low) < _;rw [h1];exact h3,vJ (by simpa using hl) (fun c hc=>hn c (.tail _ hc)) h.2⟩
 | [],_::_,hl,_,_=>by cases hl
 | _::_,[],hl,_,_=>by cases hl
def str:Int→List Int→List Int
 | _,[]=>[]
 | s,e::es=>s::str (w (s * e)) es
theorem Kq:∀ (es:List Int) (s:Int),(str s es).length=es.length
 | [],s=>rfl
 | e::es,s=>by simp [str,Kq es]
theorem KU:∀ (es:List Int) (s:Int) (acc:List Int),(es.foldl (fun (b:Int×List Int) e=>(w (b.1 * e),b.2++[b.1])) (s,acc)).2=acc++str s es
 | [],s,acc=>by simp [str]
 | e::es,s,acc=>by rw [List.foldl_cons,KU es];simp [str]
theorem MB {p:List Int} (h:p.length < 16777216):fU p=some (str 1 p):=by
 unfold fU;rw [jZ (step:=fU.s1 p) p (fun i (b:Int×List Int)=>(b.1,i,b.2)) (fun b=>b.2) (fun b e=>(w (b.1 * e),b.2++[b.1])) (fun i b=>b.2.length=i) (a:=(1,[])) rfl ?_ ?_ rfl (by omega)]
 ·simp only [Option.bind_some];rw [KU];rfl
 ·intro i hi b hb;refine ⟨?_,by simp [hb]⟩;simp only [fU.s1,eP hi,if_true,fK hi,Option.bind_some];rw [gB (by omega),wn (by omega)];rfl
 ·intro b _;simp only [fU.s1,bu,if_false]
def QB (_:Nat) (a:Int) (t:Int×ai×Int):Sum Unit Int:=if aJ t.1 t.2.1.Low t.2.1.High=true then .inr (w (a+w (t.2.2 * w (t.1 - t.2.1.Low)))) else .inl ()
theorem KR:∀ (bs:List ai) (xs:List Int) (s a:Int) (i:Nat),bs.length=xs.length→(∀ b,b∈bs→num b=true) →
  (allIn bs xs=false→dJ QB i (xs.zip (bs.zip (str s (exs bs)))) a = .inl ()) ∧
  (allIn bs xs=true→1≤s→s * P (exs bs)≤512→0≤a→a+512 * bs.length≤5000→dJ QB i (xs.zip (bs.zip (str s (exs bs)))) a = .inr (a+s * H (exs bs) (QJ bs xs)))
 | [],[],s,a,i,_,_=>⟨fun h=>(by cases h),fun _ _ _ _ _=>by simp [dJ,exs,QJ,H]⟩
 | [],_::_,_,_,_,hl,_=>by cases hl
 | _::_,[],_,_,_,hl,_=>by cases hl
 | b::bs,x::xs,s,a,i,hl,hn=>by
  have ih:=fun s a=>KR bs xs s a (i+1) (by simpa using hl) (fun c hc=>hn c (.tail _ hc))
  simp only [Rn,str,List.zip_cons_cons,dJ];by_cases hi:aJ x b.Low b.High=true
  ·have hf:QB i a (x,b,s) = .inr (w (a+w (s * w (x - b.Low)))):=by unfold QB;rw [if_pos hi]
   rw [hf];refine ⟨fun h=>(ih _ _).1 (by simpa [allIn,hi] using h),fun h h1 h2 h3 h4=>?_⟩;have ha:allIn bs xs=true:=by simpa [allIn,hi] using h
   obtain ⟨d1,d2,d3⟩:=KW (hn b (.head _)) hi;have hb:=vJ (by simpa using hl) (fun c hc=>hn c (.tail _ hc)) ha;have hp:1≤P (exs bs):=JA (zt hb);have e0:s * P (aC b::exs bs)=s * aC b * P (exs bs):=by simp [P,Int.mul_assoc]
   have e1:1 * 1≤s * aC b:=Int.mul_le_mul h1 (by omega) (by omega) (by omega);have e2:s * aC b * 1≤s * aC b * P (exs bs):=Int.mul_le_mul_of_nonneg_left hp (by omega);have e3:s * (x - b.Low)≤s * aC b:=Int.mul_le_mul_of_nonneg_left (by omega) (by omega);have e4:0≤s * (x - b.Low):=Int.mul_nonneg (by omega) d2;rw [e0] at h2;simp only [List.length_cons] at h4;have w1:w (s * aC b)=s * aC b:=qo (by omega) (by omega);have w2:w (s * w (x - b.Low))=s * (x - b.Low):=by rw [d1];exact qo (by omega) (by omega)
   have w3:w (a+s * (x - b.Low))=a+s * (x - b.Low):=qo (by omega) (by omega);simp only [w1,w2,w3];have:=(ih (s * aC b) (a+s * (x - b.Low))).2 ha (by omega) h2 (by omega) (by omega);rw [this,Pi,H,d1,Int.mul_add,← Int.mul_assoc,Int.add_assoc]
  ·have hf:QB i a (x,b,s) = .inl ():=by unfold QB;rw [if_neg hi]
   rw [hf];exact ⟨fun _=>rfl,fun h=>by simp [allIn,hi] at h⟩
def Vo (bs:List ai) (xs:List Int):Int:=if FT bs≠0 then FT bs else if (xs.length:Int)≠(bs.length:Int) then 32 else if allIn bs xs=true then 0 else 33
def off (bs:List ai) (xs:List Int):Int:=H (exs bs) (QJ bs xs)
set_option linter.unusedVariables false
set_option linter.unusedSimpArgs false
theorem Jz {p:List ai} (h:p.length < 16777216):fC p=some (exs p):=ED h
theorem pG {p:List ai} (h:p.length < 16777216):eY p=some (exs p):=yR h
theorem DY:∀ {es ds:List Int},inBase es ds→P es≤512→(∀ e,e∈es→e≤512)→(es.zip ds).foldr (fun (t:Int×Int) b=>w (w (b * t.1)+t.2)) 0=H es ds
 | [],[],_,_,_=>rfl
 | [],_::_,h,_,_=>by cases h
 | _::_,[],h,_,_=>by cases h
 | e::es,d::ds,h,hp,hb=>by
  have hpos:=zt h;have ht:=UK hpos;have hr:=Gn h;obtain ⟨h1,h2,h3⟩:=h;have hq:=Gn h3;rw [List.zip_cons_cons,List.foldr_cons,DY h3 (by omega) (fun x hx=>hb x (.tail _ hx))];simp only [H] at hr ⊢;rw [Int.mul_comm e] at hr;have e0:0≤H es ds * e:=Int.mul_nonneg hq.1 (by omega);have e1:w (H es ds * e)=H es ds * e:=qo (by omega) (by omega);rw [e1,qo (by omega) (by omega),Int.mul_comm e];omega
theorem Jq {es ds:List Int} (h:inBase es ds) (hp:P es≤512) (hb:∀ e,e∈es→e≤512) (hl:es.length=ds.length) (hn:es.length < 16777216):iR es ds=some (H es ds):=by
 unfold iR;have hlen:(es.zip ds).reverse.length=es.length:=by simp;omega
 rw [jZ (step:=iR.s1 es ds) (es.zip ds).reverse (fun i (b:Int)=>(b,(es.length:Int) - 1 - i)) (fun b=>b) (fun b (t:Int×Int)=>w (w (b * t.1)+t.2)) (fun _ _=>True) (a:=0) (by rw [qo (by omega) (by omega)];simp) ?_ ?_ trivial (by omega)]
 ·rw [List.foldl_reverse,DY h hp hb];rfl
 ·intro i hi b _;refine ⟨?_,trivial⟩;rw [hlen] at hi;have c:((es.length:Int) - 1 - (i:Int))=((es.length - 1 - i:Nat):Int):=by omega
  have k:es.length - 1 - i < es.length:=by omega
  have k2:es.length - 1 - i < ds.length:=by omega
  simp only [iR.s1,c];rw [if_pos (by omega),fK k,fK k2];simp only [Option.bind_some];have hz:(es.zip ds).reverse[i]'(by omega)=(es[es.length - 1 - i],ds[es.length - 1 - i]):=by
   rw [List.getElem_reverse];simp only [List.getElem_zip,List.length_zip];have:min es.length ds.length - 1 - i=es.length - 1 - i:=by omega
   simp only [this]
  rw [hz];have e2:w (((es.length - 1 - i:Nat):Int) - 1)=(es.length:Int) - 1 - ((i+1:Nat):Int):=by rw [qo (by omega) (by omega)];omega
  rw [e2]
 ·intro b _;rw [hlen];simp only [iR.s1];rw [if_neg (by omega)]
theorem Jd {bs:List ai} {xs:List Int} (h:Vo bs xs=0):iI bs xs=some (off bs xs):=by
 unfold Vo at h;split at h
 ·rename_i hb;exact absurd h hb
 rename_i hb
 split at h
 ·cases h
 rename_i hl
 split at h
 ·rename_i ha
  have ok:=wX (Classical.not_not.1 hb);have hl7:=ok.len;have hll:bs.length=xs.length:=by omega
  have hlen:(xs.zip bs).length=bs.length:=by simp;omega
  unfold iI;rw [nV (step:=iI.s1 bs xs) (xs.zip bs) (fun p=>w (p.1 - p.2.Low)) (fun i b=>(i,b)) (fun b=>b) rfl ?_ ?_ (by omega)]
  ·simp only [Option.bind_some];rw [pG (by omega)];simp only [Option.bind_some];have hsz:=ok.size
   show ((iR (exs bs) (QJ bs xs)).bind fun x8=>some x8)=_
   rw [Jq (es:=exs bs) (ds:=QJ bs xs) (vJ hll ok.num ha) hsz.2.2 (fun e he=>by obtain ⟨b,hb,rfl⟩:=List.mem_map.1 he;exact ok.big b hb) (by simp [exs,QJ];omega) (by simp [exs];omega)];rfl
  ·intro i hi b hbl;rw [hlen] at hi;have h1:i < xs.length:=by omega
   simp only [iI.s1,eP hi,if_true,fK hi,fK h1,Option.bind_some,List.getElem_zip];rw [gB (by omega),wn (by omega)];rfl
  ·intro b;rw [hlen];simp only [iI.s1,bu,if_false]
 ·cases h
theorem Gw:∀ (es:List Int) (n:Int) (acc:List Int),(es.foldl (fun (b:Int×List Int) e=>(b.1 / e,b.2++[b.1 % e])) (n,acc)).2=acc++dig es n
 | [],n,acc=>by simp [dig]
 | e::es,n,acc=>by rw [List.foldl_cons,Gw es];simp [dig]
theorem Sv {n e:Int} (hn:0≤n) (hb:n≤4611686018427387904) (he:1≤e):rem n e=some (n % e)∧quo .i64 n e=some (n / e)∧0≤n / e∧n / e≤n:=by
 have h0:¬ e=0:=by omega
 have h1:0≤n / e:=Int.ediv_nonneg hn (by omega);have h2:n / e≤n:=Int.ediv_le_self e hn;refine ⟨by unfold rem;rw [if_neg h0,Int.tmod_eq_emod_of_nonneg hn],?_,h1,h2⟩;unfold quo;rw [if_neg h0,Int.tdiv_eq_ediv_of_nonneg hn];exact congrArg some (qo (n:=n / e) (by omega) (by omega))
theorem PQ {es:List Int} {n:Int} (h:∀ e,e∈es→1≤e) (h0:0≤n) (hb:n≤4611686018427387904) (hl:es.length < 16777216):gJ es n=some (dig es n):=by
 unfold gJ;rw [jZ (step:=gJ.s1 es) es (fun i (b:Int×List Int)=>(b.1,i,b.2)) (fun b=>b.2) (fun b e=>(b.1 / e,b.2++[b.1 % e])) (fun i b=>b.2.length=i∧0≤b.1∧b.1≤4611686018427387904) (a:=(n,[])) rfl ?_ ?_ ⟨rfl,h0,hb⟩ (by omega)]
 ·simp only [Option.bind_some];rw [Gw];rfl
 ·rintro i hi b ⟨k1,k2,k3⟩
  obtain ⟨d1,d2,d3,d4⟩:=Sv k2 k3 (h es[i] (List.getElem_mem hi));refine ⟨?_,by simp [k1],d3,by simp only;omega⟩;simp only [gJ.s1,eP hi,if_true,fK hi,Option.bind_some,d1,d2];rw [gB (by omega),wn (by omega)];rfl
 ·intro b _;simp only [gJ.s1,bu,if_false]
theorem F9 {es:List Int} {n:Int} (h:∀ e,e∈es→1≤e) (h0:0≤n) (hb:n≤4611686018427387904) (hl:es.length < 16777216):gV es n=some (dig es n):=by
 unfold gV;rw [jZ (step:=gV.s1 es) es (fun i (b:Int×List Int)=>(b.1,i,b.2)) (fun b=>b.2) (fun b e=>(b.1 / e,b.2++[b.1 % e])) (fun i b=>b.2.length=i∧0≤b.1∧b.1≤4611686018427387904) (a:=(n,[])) rfl ?_ ?_ ⟨rfl,h0,hb⟩ (by omega)]
 ·simp only [Option.bind_some];rw [Gw];rfl
 ·rintro i hi b ⟨k1,k2,k3⟩
  obtain ⟨d1,d2,d3,d4⟩:=Sv k2 k3 (h es[i] (List.getElem_mem hi));refine ⟨?_,by simp [k1],d3,by simp only;omega⟩;simp only [gV.s1,eP hi,if_true,fK hi,Option.bind_some,d1,d2];rw [gB (by omega)];simp only [Option.bind_some];rw [wn (by omega)]
 ·intro b _;simp only [gV.s1,bu,if_false]
set_option linter.unusedVariables false
set_option linter.unusedSimpArgs false
def Ru (xs:List Int):Sum Nat Unit:=dJ (fun i b x=>if bK x=true then .inr b else .inl i) 0 xs ()
def chk (a:ag):Int×Int :=
 if FT a.Bounds≠0 then (0,FT a.Bounds)
 else if (a.Elements.length:Int)≠gG (exs a.Bounds) then (0,10)
 else match Ru a.Elements with | .inl i=>((i:Int),2) | .inr _=>(0,0)
theorem I5 (x:Int):gX x=bK x:=by unfold gX bK;exact yg _ _ _
theorem FD {a:ag} (h:a.Elements.length < 16777216):jR a=some (chk a):=by
 unfold jR chk;rw [Ac];simp only [Option.bind_some];by_cases hb:FT a.Bounds=0
 ·have hl7:=(wX hb).len;simp only [hb,not_true,if_false,ne_eq];rw [size_eq (by omega)];simp only [Option.bind_some];by_cases hl:(a.Elements.length:Int)=gG (exs a.Bounds)
  ·have hl':(a.Elements.length:Int)=gG (a.Bounds.map aC):=hl;simp only [hl',hl,not_true,if_false];unfold aT;rw [iy (step:=aT.s1 a.Elements) a.Elements (fun i (_:Unit)=>i) (fun k:Nat=>Sum.inr ((k:Int),2)) (fun _=>Sum.inl ()) (fun i b x=>if bK x=true then .inr b else .inl i) (fun _ _=>True) (a:=()) rfl ?_ ?_ trivial (by omega)]
   ·unfold Ru;cases dJ (fun i b x=>if bK x=true then Sum.inr b else Sum.inl i) 0 a.Elements ()<;>simp [hl,exs]
   ·intro i hi b _;refine ⟨?_,fun _ _=>trivial⟩;simp only [aT.s1,eP hi,if_true,fK hi,Option.bind_some,jM,OY];by_cases hq:bK a.Elements[i]=true
    ·simp only [hq,if_true,not_true,if_false];rw [wn (by omega)]
    ·simp only [hq,if_false,Bool.false_eq_true];simp
   ·intro b _;simp only [aT.s1,bu,if_false]
  ·have hl':¬ (a.Elements.length:Int)=gG (a.Bounds.map aC):=hl;simp [hl',hl,exs]
 ·simp [hb]
theorem JS {a:ag} (h:a.Elements.length < 16777216):jl a=some (chk a):=by
 unfold jl chk;rw [uS];simp only [Option.bind_some];by_cases hb:FT a.Bounds=0
 ·have hl7:=(wX hb).len;simp only [hb,not_true,if_false,ne_eq];rw [pG (by omega)];simp only [Option.bind_some];rw [qf (by simp [exs];omega)];simp only [Option.bind_some];by_cases hl:(a.Elements.length:Int)=gG (exs a.Bounds)
  ·simp only [hl,not_true,if_false];rw [iy (step:=jl.s1 a) a.Elements (fun i (_:Unit)=>i) (fun k:Nat=>Sum.inr ((k:Int),2)) (fun _=>Sum.inl ()) (fun i b x=>if bK x=true then .inr b else .inl i) (fun _ _=>True) (a:=()) rfl ?_ ?_ trivial (by omega)]
   ·unfold Ru;cases dJ (fun i b x=>if bK x=true then Sum.inr b else Sum.inl i) 0 a.Elements ()<;>rfl
   ·intro i hi b _;refine ⟨?_,fun _ _=>trivial⟩;simp only [jl.s1,eP hi,if_true,fK hi,Option.bind_some,I5];by_cases hq:bK a.Elements[i]=true
    ·simp only [hq,if_true,not_true,if_false];rw [wn (by omega)]
    ·simp only [hq,if_false,Bool.false_eq_true,not_false_eq_true,if_true]
   ·intro b _;simp only [jl.s1,bu,if_false]
  ·simp [hl]
 ·simp [hb]
theorem OJ {a:ag} (h:a.Elements.length < 16777216):ve a=some (chk a).2:=by
 unfold ve;rw [JS h];rfl
theorem LZ {a:ag} (h1:a.Bounds.length≤16777216) (h:a.Elements.length < 16777216):rZ a=some a:=by
 unfold rZ;rw [Gq h1,sQ (by omega)];rfl
set_option linter.unusedVariables false
set_option linter.unusedSimpArgs false
theorem TL (a b c:Bool):dF [az.mk a 3,az.mk b 11,az.mk c 2]=some (if a=true then (if b=true then (if c=true then 0 else 2) else 11) else 3):=by
 cases a<;>cases b<;>cases c<;>decide +kernel
def Tv (s:aj):Bool:=(((s.Kind != 2) || (s.Low==0))&&((s.Kind==1) || ((s.High==0)&&(s.Step==0))))&&((s.Kind==2) || ((s.List.length:Int)==0))
def nums (s:aj):Bool:=aI s.Low&&aI s.High&&aI s.Step
def PM (s:aj):Int:=if ¬ aJ s.Kind 0 2=true then 15 else if Tv s=false then 3 else if (s.Kind==1&&s.Step==0)=true then 11 else if nums s=true then 0 else 2
theorem Dt (s:aj):jf s=some (PM s):=by
 unfold jf PM;have hf:((((s.Kind != 2) || (s.Low==0))&&((s.Kind==1) || ((s.High==0)&&(s.Step==0))))&&((s.Kind==2) || ((s.List.length:Int)==0)))=Tv s:=rfl;simp only [hf,TL];by_cases hk:aJ s.Kind 0 2=true
 ·simp only [hk,not_true,if_false];unfold nums;cases Tv s
  ·simp only [Bool.false_eq_true,if_false,if_true,Option.bind_some]
   repeat' split
   all_goals rfl
  ·by_cases h1:s.Kind=1
   ·by_cases h2:s.Step=0
    ·simp [h1,h2]
    ·by_cases h3:aI s.Low=true
     ·by_cases h4:aI s.High=true
      ·by_cases h5:aI s.Step=true<;>simp [h1,h2,h3,h4,h5]
      ·simp [h1,h2,h3,h4]
     ·simp [h1,h2,h3]
   ·by_cases h3:aI s.Low=true
    ·by_cases h4:aI s.High=true
     ·by_cases h5:aI s.Step=true<;>simp [h1,h3,h4,h5]
     ·simp [h1,h3,h4]
    ·simp [h1,h3]
 ·simp only [hk,not_false_eq_true,if_true,Bool.false_eq_true]
theorem EX {a b:Int} (hb:1≤b) : -(a.natAbs:Int)≤a.tdiv b∧a.tdiv b≤a.natAbs:=by
 rcases Int.le_total 0 a with h | h
 ·rw [Int.tdiv_eq_ediv_of_nonneg h];have h1:0≤a / b:=Int.ediv_nonneg h (by omega);have h2:a / b≤a:=Int.ediv_le_self b h;omega
 ·have e:a.tdiv b = -((-a).tdiv b):=by rw [Int.neg_tdiv];omega
  rw [e,Int.tdiv_eq_ediv_of_nonneg (by omega)];have h1:0≤(-a) / b:=Int.ediv_nonneg (by omega) (by omega);have h2:(-a) / b ≤ -a:=Int.ediv_le_self b (by omega);omega
theorem OC {a b:Int} (ha : -1099511627776≤a∧a≤1099511627776) (hb:1≤b):quo .i64 a b=some (a.tdiv b):=by
 have:=EX (a:=a) hb;unfold quo;rw [if_neg (by omega)];exact congrArg some (qo (n:=a.tdiv b) (by omega) (by omega))
theorem Lp {a b:Int} (ha : -1099511627776≤a∧a≤1099511627776) (hb:1≤b):qj a b=some (a / b):=by
 unfold qj;rw [OC ha hb];have hr:rem a b=some (a.tmod b):=by unfold rem;rw [if_neg (by omega)]
 rw [hr];simp only [Option.bind_some];have t:=EX (a:=a) hb;have e1:=Int.tdiv_eq_ediv (a:=a) (b:=b);have e2:=Int.tmod_eq_emod (a:=a) (b:=b);have m1:=Int.emod_nonneg a (b:=b) (by omega);have m2:=Int.emod_lt_of_pos a (b:=b) (by omega);have sg:b.sign=1:=Int.sign_eq_one_of_pos (by omega);have nb:(b.natAbs:Int)=b:=by omega
 unfold iW;by_cases hd:0≤a∨b ∣ a
 ·rw [if_pos hd] at e1 e2;have:¬ a.tmod b < 0:=by omega
  simp only [this,decide_false,Bool.false_eq_true,if_false];rw [qo (by omega) (by omega)];exact congrArg some (by omega)
 ·rw [if_neg hd] at e1 e2;have:a.tmod b < 0:=by omega
  simp only [this,decide_true,if_true];rw [qo (by omega) (by omega)];exact congrArg some (by omega)
def cnt (s:aj):Int:=if s.Step < 0 then max 0 ((s.Low - s.High) / (-s.Step)+1) else max 0 ((s.High - s.Low) / s.Step+1)
theorem Fh {s:aj} (h:nums s=true):(-2147483647≤s.Low∧s.Low≤2147483647)∧(-2147483647≤s.High∧s.High≤2147483647)∧(-2147483647≤s.Step∧s.Step≤2147483647):=by
 simp [nums,aI,aJ] at h;omega
theorem Ld {a:Int}:mx 0 a=max 0 a:=by unfold mx;split<;>omega
theorem DU {d s:Int} (hs:1≤s):max 0 ((d+s).tdiv s)=max 0 (d / s+1):=by
 have e:(d+s) / s=d / s+1:=Int.add_ediv_of_dvd_right (Int.dvd_refl s) |>.trans (by rw [Int.ediv_self (by omega)])
 rcases Int.le_total 0 (d+s) with h | h
 ·rw [Int.tdiv_eq_ediv_of_nonneg h,e]
 ·have e1:(d+s).tdiv s = -((-(d+s)).tdiv s):=by rw [Int.neg_tdiv];omega
  have e2:0≤(-(d+s)).tdiv s:=by rw [Int.tdiv_eq_ediv_of_nonneg (by omega)];exact Int.ediv_nonneg (by omega) (by omega)
  have e3:(d+s) / s≤0:=by
   have:=Int.ediv_le_ediv (a:=d+s) (b:=0) (c:=s) (by omega) h;simpa using this
  omega
theorem count_eq {s:aj} (h:nums s=true) (hs:s.Step≠0):pI s=some (cnt s):=by
 obtain ⟨r1,r2,r3⟩:=Fh h;unfold pI cnt;by_cases hp:s.Step > 0
 ·rw [if_pos hp,if_neg (by omega)];rw [qo (n:=s.High - s.Low) (by omega) (by omega),qo (by omega) (by omega),OC (by omega) (by omega)];simp only [Option.bind_some];rw [Ld,DU (by omega)]
 ·rw [if_neg hp,if_pos (by omega)];rw [qo (n:=s.Low - s.High) (by omega) (by omega),qo (by omega) (by omega),qo (n:=0 - s.Step) (by omega) (by omega),OC (by omega) (by omega)];simp only [Option.bind_some];have e:s.Low - s.High - s.Step=s.Low - s.High + -s.Step:=by omega
  have e':0 - s.Step = -s.Step:=by omega
  rw [Ld,e,e',DU (by omega)]
theorem Jc {s:aj} (h:nums s=true) (hs:s.Step≠0):0≤cnt s:=by unfold cnt;split<;>omega
def Sj (s:aj):List Int:=if s.Kind=0 then [s.Low] else if s.Kind=1 then (List.range (cnt s).toNat).map (fun i:Nat=>w (s.Low+w ((i:Int) * s.Step))) else s.List
def sel (b:ai) (s:aj):List Int×Int :=
 if PM s≠0 then ([],PM s)
 else if s.Kind=1∧cnt s > 512 then ([],8)
 else if s.Kind=2∧(s.List.length:Int) > 512 then ([],8)
 else if (Sj s).any (fun x=>!aJ x b.Low b.High)=true then ([],33)
 else (Sj s,0)
theorem DT (b:ai) {l:List Int} (h:l.length < 16777216):dA.j1 b l=some (if l.any (fun x=>!aJ x b.Low b.High)=true then ([],33) else (l,0)):=by
 unfold dA.j1 dH aV;obtain ⟨k,hk⟩:=vU (step:=aV.s1 l b) l (fun x=>!aJ x b.Low b.High) (fun i=>Sum.inr i) (Sum.inl ()) (s:=0) rfl (fun i hi=>by
  simp only [aV.s1,eP hi,if_true,fK hi,Option.bind_some];have e1:jS l[i] b=!aJ l[i] b.Low b.High:=rfl;rw [wn (by omega),e1];by_cases hq:(!aJ l[i] b.Low b.High)=true
  ·rw [if_pos hq,if_pos hq]
  ·rw [if_neg hq,if_neg hq]) (by simp only [aV.s1,bu,if_false]) (by omega)
 rw [hk];by_cases e:l.any (fun x=>!aJ x b.Low b.High)=true
 ·rw [if_pos e,if_pos e];simp
 ·rw [if_neg e,if_neg e];rfl
theorem zO (b:ai) {l:List Int} (h:l.length < 16777216):bg.j1 b l=some (if l.any (fun x=>!aJ x b.Low b.High)=true then ([],33) else (l,0)):=by
 unfold bg.j1;rw [kQ (step:=bg.s2 b l) l (fun x=>if (!aJ x b.Low b.High)=true then some (([]:List Int),(33:Int)) else none) (fun c=>Sum.inr c) (Sum.inl ()) rfl ?_ ?_ (by omega),pF]
 ·by_cases e:l.any (fun x=>!aJ x b.Low b.High)=true
  ·rw [if_pos e,if_pos e];rfl
  ·rw [if_neg e,if_neg e];rfl
 ·intro i hi;simp only [bg.s2,eP hi,if_true,fK hi,Option.bind_some,yg];by_cases hq:aJ l[i] b.Low b.High=true
  ·simp only [hq,not_true,if_false,Bool.not_true,Bool.false_eq_true];rw [wn (by omega)]
  ·simp only [hq,not_false_eq_true,if_true,Bool.not_false,Bool.false_eq_true]
 ·simp only [bg.s2,bu,if_false]
theorem EC {τ:Type} {step:Int×List Int→Option (Sum (Int×List Int) τ)} (n:Int) (g:Nat→Int) (fin:List Int→τ) (h0:0≤n) (hn:n < 16777216)
  (h:∀ i:Nat,(i:Int) < n→∀ b:List Int,b.length=i→step (i,b)=some (.inl (((i+1:Nat):Int),b++[g i]))) (hend:∀ b,step (n,b)=some (.inr (fin b))) :
  dG step (0,[])=some (fin ((List.range n.toNat).map g)):=by
 have hl:(List.range n.toNat).length=n.toNat:=by simp
 have hc:((List.range n.toNat).length:Int)=n:=by rw [hl];omega
 refine nV (step:=step) (List.range n.toNat) g (fun i b=>(i,b)) fin rfl ?_ ?_ (by omega)
 ·intro i hi b hb;have:(List.range n.toNat)[i]=i:=by simp
  rw [this];exact h i (by omega) b hb
 ·intro b;rw [hc];exact hend b
theorem zB {s:aj} (h:PM s=0):(s.Kind=0∨s.Kind=1∨s.Kind=2)∧Tv s=true∧(s.Kind=1→s.Step≠0)∧nums s=true:=by
 unfold PM at h;split at h
 ·cases h
 rename_i h1
 split at h
 ·cases h
 rename_i h2
 split at h
 ·cases h
 rename_i h3
 split at h
 ·rename_i h4
  refine ⟨?_,by simpa using h2,?_,h4⟩
  ·simp [aJ] at h1;omega
  ·intro q1 q2;exact h3 (by simp [q1,q2])
 ·cases h
theorem MP (b:ai) (s:aj) (hl:s.List.length < 16777216):dA b s=some (sel b s):=by
 unfold dA sel;rw [Dt];simp only [Option.bind_some];by_cases he:PM s=0
 ·obtain ⟨hk,hf,hs,hn⟩:=zB he;simp only [he,not_true,if_false,ne_eq];unfold Sj;rcases hk with k | k | k
  ·simp only [k,if_true];rw [DT b (by simp)];simp
  ·have hz:=hs k;simp only [k,if_true,show ¬ (1:Int)=0 by decide,if_false,show ¬ (1:Int)=2 by decide,false_and,true_and];rw [count_eq hn hz];simp only [Option.bind_some];by_cases hc:cnt s > 512
   ·simp only [hc,if_true]
   ·simp only [hc,if_false];rw [EC (step:=dA.s2 s (cnt s)) (cnt s) (fun i:Nat=>w (s.Low+w ((i:Int) * s.Step))) (fun b=>b) (Jc hn hz) (by omega) ?_ ?_]
    ·simp only [Option.bind_some];rw [DT b (by simp;omega)]
    ·intro i hi b hb;simp only [dA.s2,hi,if_true];rw [gB (by omega)];simp only [Option.bind_some];rw [wn (by omega)]
    ·intro b;simp only [dA.s2,Int.lt_irrefl,if_false]
  ·simp only [k,show ¬ (2:Int)=0 by decide,if_false,show ¬ (2:Int)=1 by decide,false_and,true_and];by_cases hc:(s.List.length:Int) > 512
   ·simp only [hc,if_true]
   ·simp only [hc,if_false];unfold slices_Clone_int;rw [Jn (by omega)];simp only [Option.bind_some];rw [DT b (by omega)]
 ·simp [he]
theorem Tq (s:aj):((((s.Kind != 1)&&((s.High != 0) || (s.Step != 0))) || ((s.Kind==2)&&(s.Low != 0))) || ((s.Kind != 2)&&(decide ((s.List.length:Int) > 0))))=!Tv s:=by
 unfold Tv;have e:decide ((s.List.length:Int) > 0)=!((s.List.length:Int)==0):=by
  by_cases h:(s.List.length:Int)=0
  ·simp [h]
  ·have h1:(s.List.length:Int) > 0:=by omega
   have h2:((s.List.length:Int)==0)=false:=by simpa using h
   rw [h2,decide_eq_true h1];rfl
 rw [e];simp only [bne];generalize (s.Kind==1)=a;generalize (s.Kind==2)=b;generalize (s.High==0)=c;generalize (s.Step==0)=d;generalize (s.Low==0)=f;generalize ((s.List.length:Int)==0)=g;cases a<;>cases b<;>cases c<;>cases d<;>cases f<;>cases g<;>rfl
theorem JC (b:ai) (s:aj) (hl:s.List.length < 16777216):bg b s=some (if num b=true then sel b s else ([],2)):=by
 unfold bg;rw [Tq];simp only [yg,bH];have hb:((!(aJ b.Low (-2147483647) 2147483647)) || (!(aJ b.High (-2147483647) 2147483647)))=!num b:=by unfold num aI;simp
 have hs:(((!(aJ s.Low (-2147483647) 2147483647)) || (!(aJ s.High (-2147483647) 2147483647))) || (!(aJ s.Step (-2147483647) 2147483647)))=!nums s:=by unfold nums aI;simp
 rw [hb,hs];by_cases hn:num b=true
 ·simp only [hn,Bool.not_true,Bool.false_eq_true,if_false,if_true];unfold sel;by_cases he:PM s=0
  ·obtain ⟨hk,hf,hst,hnn⟩:=zB he;have hin:aJ s.Kind 0 2=true:=by simp [aJ];omega
   have hks:((s.Kind==1)&&(s.Step==0))=false:=by
    by_cases k:s.Kind=1
    ·simp [k,hst k]
    ·simp [k]
   simp only [hin,not_true,if_false,hf,Bool.not_true,Bool.false_eq_true,hks,hnn,he,ne_eq];unfold Sj;obtain ⟨r1,r2,r3⟩:=Fh hnn;rcases hk with k | k | k
   ·simp only [k,if_true];rw [zO b (by simp)];simp
   ·have hz:=hst k;simp only [k,if_true,show ¬ (1:Int)=0 by decide,if_false,show ¬ (1:Int)=2 by decide,false_and,true_and];have j3:bg.j3 b s (cnt s)=some (if cnt s > 512 then ([],8) else if ((List.range (cnt s).toNat).map (fun i:Nat=>w (s.Low+w ((i:Int) * s.Step)))).any (fun x=>!aJ x b.Low b.High)=true then ([],33) else ((List.range (cnt s).toNat).map (fun i:Nat=>w (s.Low+w ((i:Int) * s.Step))),0)):=by
     unfold bg.j3;by_cases hc:cnt s > 512
     ·simp only [hc,if_true]
     ·simp only [hc,if_false];rw [EC (step:=bg.s4 s (cnt s)) (cnt s) (fun i:Nat=>w (s.Low+w ((i:Int) * s.Step))) (fun b=>b) (Jc hnn hz) (by omega) ?_ ?_]
      ·simp only [Option.bind_some];rw [zO b (by simp;omega)]
      ·intro i hi b hb;simp only [bg.s4,hi,if_true];rw [gB (by omega)];simp only [Option.bind_some];rw [wn (by omega)]
      ·intro b;simp only [bg.s4,Int.lt_irrefl,if_false]
    have sz:gp s.Step=if s.Step < 0 then -s.Step else s.Step:=by
     unfold gp;split
     ·rw [qo (by omega) (by omega)];omega
     ·rfl
    have sz1:1≤gp s.Step∧gp s.Step≤2147483647:=by rw [sz];split<;>omega
    rw [qo (n:=s.High - s.Low) (by omega) (by omega),qo (n:=s.Low - s.High) (by omega) (by omega),Lp (by omega) (by omega),Lp (by omega) (by omega)];simp only [Option.bind_some];have div_le:∀ a:Int, -4294967296≤a→a≤4294967296 → -4294967297≤a / gp s.Step∧a / gp s.Step≤4294967296:=by
     intro a h1 h2;refine ⟨?_,?_⟩
     ·have:(-4294967297) * gp s.Step≤a:=by
       have:=Int.mul_le_mul_of_nonneg_left (a:=1) (b:=gp s.Step) (c:=4294967297) sz1.1 (by omega);omega
      exact (Int.le_ediv_iff_mul_le (by omega)).2 this
     ·have:a / gp s.Step < 4294967297:=Int.ediv_lt_of_lt_mul (by omega) (by
       have:=Int.mul_le_mul_of_nonneg_left (a:=1) (b:=gp s.Step) (c:=4294967297) sz1.1 (by omega);omega)
      omega
    have d1:=div_le (s.High - s.Low) (by omega) (by omega);have d2:=div_le (s.Low - s.High) (by omega) (by omega);rw [qo (n:=(s.High - s.Low) / gp s.Step+1) (by omega) (by omega),qo (n:=(s.Low - s.High) / gp s.Step+1) (by omega) (by omega),Ld,Ld];by_cases hneg:s.Step < 0
    ·rw [if_pos hneg];have:max 0 ((s.Low - s.High) / gp s.Step+1)=cnt s:=by unfold cnt;rw [if_pos hneg,sz,if_pos hneg]
     rw [this,j3]
    ·rw [if_neg hneg];have:max 0 ((s.High - s.Low) / gp s.Step+1)=cnt s:=by unfold cnt;rw [if_neg hneg,sz,if_neg hneg]
     rw [this,j3]
   ·simp only [k,show ¬ (2:Int)=0 by decide,if_false,show ¬ (2:Int)=1 by decide,false_and,true_and];by_cases hc:(s.List.length:Int) > 512
    ·simp only [hc,if_true]
    ·simp only [hc,if_false];rw [sQ (by omega)];simp only [Option.bind_some];rw [zO b (by omega)]
  ·simp only [he,not_false_eq_true,if_true,ne_eq];unfold PM at he ⊢;by_cases h1:aJ s.Kind 0 2=true
   ·simp only [h1,not_true,if_false] at he ⊢;cases hf:Tv s
    ·simp
    ·simp only [hf,Bool.true_eq_false,if_false,Bool.not_true,Bool.false_eq_true] at he ⊢;by_cases h2:((s.Kind==1)&&(s.Step==0))=true
     ·simp only [h2,if_true]
     ·simp only [h2,if_false,Bool.false_eq_true] at he ⊢;by_cases h3:nums s=true
      ·simp [h3] at he
      ·simp [h3]
   ·simp only [h1,not_false_eq_true,if_true,Bool.false_eq_true]
 ·simp [hn]
set_option linter.unusedVariables false
set_option linter.unusedSimpArgs false
abbrev Sec:=List Int×List (List Int)×List Int
def G6 (_:Nat) (v:Sec) (t:ai×aj):Sum Int Sec :=
 if (sel t.1 t.2).2≠0 then .inl (sel t.1 t.2).2
 else .inr (if t.2.Kind≠0 then v.1++[((sel t.1 t.2).1.length:Int)] else v.1,v.2.1++[(sel t.1 t.2).1],v.2.2++[((sel t.1 t.2).1.length:Int)])
def LX (i:Nat) (v:Sec):Prop:=v.1.length≤i∧v.2.1.length=i∧v.2.2.length=i
theorem Cf {i:Nat} {v v':Sec} {t:ai×aj} (h:LX i v) (e:G6 i v t = .inr v'):LX (i+1) v':=by
 obtain ⟨h1,h2,h3⟩:=h;unfold G6 at e;split at e
 ·cases e
 ·cases e;refine ⟨?_,by simp [h2],by simp [h3]⟩;simp only;split
  ·simp;omega
  ·omega
theorem RQ:∀ {T:List (ai×aj)} {i:Nat} {v v':Sec},dJ G6 i T v = .inr v' →
  v'.2.1=v.2.1++T.map (fun t=>(sel t.1 t.2).1)∧v'.2.2=v.2.2++T.map (fun t=>((sel t.1 t.2).1.length:Int))∧∀ t,t∈T→(sel t.1 t.2).2=0
 | [],i,v,v',h=>by cases h;simp
 | t::T,i,v,v',h=>by
  simp only [dJ] at h;cases hf:G6 i v t with
  | inl e=>rw [hf] at h;cases h
  | inr v2 =>
   rw [hf] at h;obtain ⟨g1,g2,g3⟩:=RQ h;unfold G6 at hf;split at hf
   ·cases hf
   ·rename_i hs
    cases hf;refine ⟨by rw [g1];simp,by rw [g2];simp,?_⟩;intro u hu;cases hu with
    | head=>exact Classical.not_not.1 hs
    | tail _ hu=>exact g3 u hu
def tZ (p:List ai) (q:List aj):Sum Int Sec:=dJ G6 0 (p.zip q) ([],[],[])
def picks (lists:List (List Int)) (ds:List Int):List Int:=ds.mapIdx fun j d=>(((lists[j]?).getD [])[d.toNat]?).getD 0
theorem DZ (lists:List (List Int)) (ds:List Int):(picks lists ds).length=ds.length:=by simp [picks]
theorem L8 (l:List Int) (lists:List (List Int)) (d:Int) (ds:List Int):picks (l::lists) (d::ds)=((l[d.toNat]?).getD 0)::picks lists ds:=by
 simp [picks,List.mapIdx_cons]
theorem LQ:∀ {bs:List ai} {lists:List (List Int)} {ds:List Int},bs.length=lists.length→(∀ t,t∈bs.zip lists→∀ x,x∈t.2→aJ x t.1.Low t.1.High=true)→inBase (lists.map fun l=>(l.length:Int)) ds→allIn bs (picks lists ds)=true∧(picks lists ds).length=bs.length
 | [],[],[],_,_,_=>⟨rfl,rfl⟩
 | [],[],_::_,_,_,h=>by cases h
 | [],_::_,_,h,_,_=>by cases h
 | _::_,[],_,h,_,_=>by cases h
 | _::_,_::_,[],_,_,h=>by cases h
 | b::bs,l::lists,d::ds,hl,hin,h=>by
  obtain ⟨h1,h2,h3⟩:=h;obtain ⟨i1,i2⟩:=LQ (bs:=bs) (by simpa using hl) (fun t ht=>hin t (by simp;exact .inr (by simpa using ht))) h3;have hd:d.toNat < l.length:=by have h2':d < (l.length:Int):=h2;omega
  have hx:(l[d.toNat]?).getD 0=l[d.toNat]:=by simp [hd]
  have hi:=hin (b,l) (by simp) l[d.toNat] (List.getElem_mem hd);rw [L8,hx];refine ⟨?_,by simp [i2]⟩;simp only [allIn,i1,Bool.and_true];exact hi
def UR (a:Int) (t:Int×ai×Int):Int:=w (a+w (t.2.2 * w (t.1 - t.2.1.Low)))
theorem scan_fold:∀ (bs:List ai) (xs:List Int) (ss:List Int) (a:Int) (i:Nat),allIn bs xs=true→dJ QB i (xs.zip (bs.zip ss)) a = .inr ((xs.zip (bs.zip ss)).foldl UR a)
 | [],xs,ss,a,i,_=>by simp [dJ]
 | b::bs,[],ss,a,i,_=>by simp [dJ]
 | b::bs,x::xs,[],a,i,_=>by simp [dJ]
 | b::bs,x::xs,s::ss,a,i,h=>by
  simp only [allIn,Bool.and_eq_true] at h;have hf:QB i a (x,b,s) = .inr (UR a (x,b,s)):=by unfold QB;rw [if_pos h.1];rfl
  simp only [List.zip_cons_cons,dJ,hf,List.foldl_cons];exact scan_fold bs xs ss _ _ h.2
theorem Qv {bs:List ai} {xs:List Int} (ok:Ok bs) (hl:bs.length=xs.length) (ha:allIn bs xs=true):(xs.zip (bs.zip (str 1 (exs bs)))).foldl UR 0=off bs xs:=by
 have h1:=scan_fold bs xs (str 1 (exs bs)) 0 0 ha;have hl7:=ok.len;have sz:=ok.size;have h2:=(KR bs xs 1 0 0 hl ok.num).2 ha (by omega) (by have:P (exs bs)≤512:=sz.2.2;omega) (by omega) (by omega);rw [h1] at h2;have:=Sum.inr.inj h2;rw [this];unfold off;omega
theorem has_eq {l:List Int} {v:Int} (h:l.length < 16777216):oh l v=some (l.any fun x=>x==v):=by
 unfold oh;rw [jZ (step:=oh.s1 l v) l (fun i (b:Bool)=>(b,i)) (fun b=>b) (fun b x=>b || (x==v)) (fun _ _=>True) (a:=false) rfl ?_ ?_ trivial (by omega)]
 ·have key:∀ (l:List Int) (b:Bool),l.foldl (fun b x=>b || (x==v)) b=(b || l.any fun x=>x==v):=by
   intro l
   induction l with
   | nil=>intro b;simp
   | cons x l ih=>intro b;rw [List.foldl_cons,ih,List.any_cons,Bool.or_assoc]
  rw [key];simp
 ·intro i hi b _;refine ⟨?_,trivial⟩;simp only [oh.s1,eP hi,if_true,fK hi,Option.bind_some];rw [wn (by omega)]
 ·intro b _;simp only [oh.s1,bu,if_false]
theorem Po (m:List (Int×Bool)) (k:Int) (v:Bool) (z:Int):Jh (QZ m k v) z=if k=z then some v else Jh m z:=by
 induction m with
 | nil=>simp [QZ,Jh]
 | cons p m ih =>
  obtain ⟨a,c⟩:=p;simp only [QZ];by_cases e:a=k
  ·subst e;by_cases q:a=z
   ·simp [Jh,q]
   ·simp [Jh,q]
  ·rw [if_neg e];simp only [Jh,ih];by_cases q:a=z
   ·have:¬ k=z:=fun r=>e (by rw [q,r])
    simp [q,this]
   ·simp [q]
def Qd (o:Nat→Int) (v:Bool×List Int×List (Int×Bool)) (k:Nat):Bool×List Int×List (Int×Bool):=(v.1 || (Jh v.2.2 (o k)).getD false,v.2.1++[o k],QZ v.2.2 (o k) true)
def wF (o:Nat→Int) (v:Bool×List Int) (k:Nat):Bool×List Int:=(v.1 || v.2.any (fun x=>x==o k),v.2++[o k])
theorem Ic (o:Nat→Int):∀ (ks:List Nat) (a:Bool) (l:List Int) (m:List (Int×Bool)),(∀ z,(Jh m z).getD false=l.any (fun x=>x==z)) →
  ((ks.foldl (Qd o) (a,l,m)).1,(ks.foldl (Qd o) (a,l,m)).2.1)=ks.foldl (wF o) (a,l)
 | [],a,l,m,h=>rfl
 | k::ks,a,l,m,h=>by
  rw [List.foldl_cons,List.foldl_cons];have e2:wF o (a,l) k=(a || (Jh m (o k)).getD false,l++[o k]):=by unfold wF;rw [h]
  rw [e2];refine Ic o ks _ _ _ fun z=>?_
  rw [Po,List.any_append];by_cases e:o k=z
  ·simp [e]
  ·simp [e,h]
def tC (p:List ai) (v:Sec) (k:Nat):Int:=off p (picks v.2.1 (dig v.2.2 k))
def La (p:List ai) (v:Sec):ay×Int :=
 if gG v.2.2 > 512 then (⟨[],[],false⟩,8)
 else (⟨v.1,((List.range (gG v.2.2).toNat).foldl (wF (tC p v)) (false,[])).2,((List.range (gG v.2.2).toNat).foldl (wF (tC p v)) (false,[])).1⟩,0)
theorem BH (o:Nat→Int):∀ (ks:List Nat) (v:Bool×List Int),(ks.foldl (wF o) v).2.length=v.2.length+ks.length
 | [],v=>rfl
 | k::ks,v=>by rw [List.foldl_cons,BH o ks];simp [wF];omega
theorem JY {b:ai} {s:aj} (h:(sel b s).2=0):(sel b s).1.length≤512∧∀ x,x∈(sel b s).1→aJ x b.Low b.High=true:=by
 unfold sel at h ⊢;by_cases he:PM s=0
 ·simp only [he,ne_eq,not_true,if_false] at h ⊢;by_cases h1:s.Kind=1∧cnt s > 512
  ·simp [h1] at h
  ·simp only [h1,if_false] at h ⊢;by_cases h2:s.Kind=2∧(s.List.length:Int) > 512
   ·simp [h2] at h
   ·simp only [h2,if_false] at h ⊢;by_cases h3:(Sj s).any (fun x=>!aJ x b.Low b.High)=true
    ·simp [h3] at h
    ·simp only [h3,if_false,Bool.false_eq_true];refine ⟨?_,?_⟩
     ·obtain ⟨hk,_⟩:=zB he;unfold Sj;rcases hk with k | k | k
      ·simp [k]
      ·simp [k] at h1 ⊢;omega
      ·simp [k] at h2 ⊢;omega
     ·intro x hx;simp only [List.any_eq_true,not_exists,not_and,Bool.not_eq_true',Bool.not_eq_false] at h3;exact h3 x hx
 ·simp [he] at h
section
variable {p:List ai} {q:List aj} {v:Sec}
structure CX (p:List ai) (q:List aj) (v:Sec):Prop where
 lists:v.2.1.length=p.length
 lens:v.2.2=v.2.1.map fun l=>(l.length:Int)
 small:∀ l,l∈v.2.1→l.length≤512
 ins:∀ t,t∈p.zip v.2.1→∀ x,x∈t.2→aJ x t.1.Low t.1.High=true
theorem S9 (hl:q.length=p.length) (h:tZ p q = .inr v):CX p q v:=by
 obtain ⟨h1,h2,h3⟩:=RQ h;simp only [List.nil_append] at h1 h2;refine ⟨by rw [h1];simp;omega,by rw [h1,h2];simp,?_,?_⟩
 ·intro l hlm;rw [h1] at hlm;obtain ⟨t,ht,rfl⟩:=List.mem_map.1 hlm;exact (JY (h3 t ht)).1
 ·intro t ht x hx;rw [h1] at ht;have key:∀ (p:List ai) (q:List aj) (t:ai×List Int),t∈p.zip ((p.zip q).map fun t=>(sel t.1 t.2).1)→∃ s,(t.1,s)∈p.zip q∧t.2=(sel t.1 s).1:=by
   intro p
   induction p with
   | nil=>intro q t ht;simp at ht
   | cons b p ih =>
    intro q t ht;cases q with
    | nil=>simp at ht
    | cons s q =>
     simp only [List.zip_cons_cons,List.map_cons,List.mem_cons] at ht;rcases ht with rfl | ht
     ·exact ⟨s,by simp,rfl⟩
     ·obtain ⟨s',h1,h2⟩:=ih q t ht;exact ⟨s',by simp [h1],h2⟩
  obtain ⟨s,g1,g2⟩:=key p q t ht;rw [g2] at hx;exact (JY (h3 _ g1)).2 x hx
theorem CX.base (h:CX p q v) (k:Nat) (hk:(k:Int) < gG v.2.2) (hs:gG v.2.2≤512):(∀ e,e∈v.2.2→1≤e)∧inBase v.2.2 (dig v.2.2 k)∧(k:Int) < P v.2.2:=by
 have hr:∀ x,x∈v.2.2→0≤x∧x≤512:=by
  intro x hx;rw [h.lens] at hx;obtain ⟨l,hl,rfl⟩:=List.mem_map.1 hx;have:=h.small l hl;omega
 obtain ⟨h1,h2⟩:=JM hr hs;have hpos:∀ e,e∈v.2.2→1≤e:=by
  intro e he;have h0:=hr e he;rcases Int.lt_or_eq_of_le h0.1 with g | g
  ·omega
  ·have:P v.2.2=0:=KL ⟨e,he,g.symm⟩;omega
 exact ⟨hpos,(SI hpos (by omega) (by omega)).1,by omega⟩
theorem CX.place (h:CX p q v) (k:Nat) (hk:(k:Int) < gG v.2.2) (hs:gG v.2.2≤512):allIn p (picks v.2.1 (dig v.2.2 k))=true∧(picks v.2.1 (dig v.2.2 k)).length=p.length:=by
 obtain ⟨_,h1,_⟩:=h.base k hk hs;rw [h.lens] at h1 ⊢;exact LQ h.lists.symm h.ins h1
theorem EO:∀ {es ds:List Int},inBase es ds→es.length=ds.length∧∀ i (h1:i < es.length) (h2:i < ds.length),0≤ds[i]∧ds[i] < es[i]
 | [],[],_=>⟨rfl,fun i h=>by simp at h⟩
 | [],_::_,h=>by cases h
 | _::_,[],h=>by cases h
 | e::es,d::ds,⟨h1,h2,h3⟩=>by
  obtain ⟨i1,i2⟩:=EO h3;refine ⟨by simp [i1],fun i g1 g2=>?_⟩;cases i with
  | zero=>exact ⟨h1,h2⟩
  | succ i=>simpa using i2 i (by simpa using g1) (by simpa using g2)
theorem CX.NU (h:CX p q v) (k:Nat) (hk:(k:Int) < gG v.2.2) (hs:gG v.2.2≤512) {i:Nat} (hi:i < p.length) :
  ∃ (h1:i < (dig v.2.2 k).length) (h2:i < v.2.1.length) (h3:i < (picks v.2.1 (dig v.2.2 k)).length),at_ v.2.1[i] (dig v.2.2 k)[i]=some (picks v.2.1 (dig v.2.2 k))[i]:=by
 obtain ⟨_,hb,_⟩:=h.base k hk hs;obtain ⟨g1,g2⟩:=EO hb;have l1:v.2.2.length=p.length:=by rw [h.lens];simp [h.lists]
 have hd:i < (dig v.2.2 k).length:=by omega
 have hv:i < v.2.1.length:=by rw [h.lists];exact hi
 refine ⟨hd,hv,by rw [DZ];exact hd,?_⟩;obtain ⟨r1,r2⟩:=g2 i (by omega) hd;have e:v.2.2[i]'(by omega)=(v.2.1[i].length:Int):=by
  have:v.2.2[i]?=some (v.2.1[i].length:Int):=by rw [h.lens];simp [hv]
  rw [List.getElem?_eq_getElem (by omega)] at this;exact Option.some.inj this
 rw [e] at r2;have hn:(dig v.2.2 k)[i].toNat < v.2.1[i].length:=by omega
 have hx:(picks v.2.1 (dig v.2.2 k))[i]'(by rw [DZ];exact hd)=v.2.1[i][(dig v.2.2 k)[i].toNat]:=by
  simp [picks,hv,hn]
 rw [hx];unfold at_;rw [if_pos r1];simp [hn]
theorem KD (ok:Ok p) (h:CX p q v) (hs:gG v.2.2≤512) (hp:0≤gG v.2.2) :
  dG (bM.s2 p v (gG v.2.2) (str 1 (exs p))) (0,false,[],[])=some ((List.range (gG v.2.2).toNat).foldl (wF (tC p v)) (false,[])):=by
 have hlen:(List.range (gG v.2.2).toNat).length=(gG v.2.2).toNat:=by simp
 have hc:((List.range (gG v.2.2).toNat).length:Int)=gG v.2.2:=by omega
 have hl7:=ok.len;rw [jZ (step:=bM.s2 p v (gG v.2.2) (str 1 (exs p))) (List.range (gG v.2.2).toNat) (fun i (b:Bool×List Int×List (Int×Bool))=>(i,b)) (fun b=>(b.1,b.2.1)) (Qd (tC p v)) (fun i b=>b.2.1.length=i) (a:=(false,[],[])) rfl ?_ ?_ rfl (by omega)]
 ·rw [Ic];intro z;rfl
 ·intro i hi b hb;have hir:(List.range (gG v.2.2).toNat)[i]=i:=by simp
  have hil:(i:Int) < gG v.2.2:=by omega
  refine ⟨?_,by simp [Qd,hb]⟩;obtain ⟨b1,b2,b3⟩:=h.base i hil hs;obtain ⟨a1,a2⟩:=h.place i hil hs;have l1:v.2.2.length=p.length:=by rw [h.lens];simp [h.lists]
  simp only [bM.s2,hil,if_true,hir];rw [PQ b1 (by omega) (by omega) (by omega)];simp only [Option.bind_some];have T:((picks v.2.1 (dig v.2.2 i)).zip (p.zip (str 1 (exs p)))).length=p.length:=by simp [Kq,exs,a2]
  have inner:dG (bM.s3 p v (str 1 (exs p)) (dig v.2.2 i)) (0,0)=some (tC p v i):=by
   rw [jZ (step:=bM.s3 p v (str 1 (exs p)) (dig v.2.2 i)) ((picks v.2.1 (dig v.2.2 i)).zip (p.zip (str 1 (exs p)))) (fun i (b:Int)=>(b,i)) (fun b=>b) UR (fun _ _=>True) (a:=0) rfl ?_ ?_ trivial (by omega)]
   ·rw [Qv ok a2.symm a1];rfl
   ·intro j hj b _;refine ⟨?_,trivial⟩;rw [T] at hj;obtain ⟨g1,g2,g3,g4⟩:=h.NU i hil hs hj;have g5:j < (str 1 (exs p)).length:=by simp [Kq,exs];exact hj
    simp only [bM.s3,eP g1,if_true,fK g1,fK g5,fK g2,fK hj,Option.bind_some,g4,List.getElem_zip,UR];rw [wn (by omega)]
   ·intro b _;have e:((dig v.2.2 i).length:Int)=(((picks v.2.1 (dig v.2.2 i)).zip (p.zip (str 1 (exs p)))).length:Int):=by rw [T,← a2,DZ]
    rw [← e];simp only [bM.s3,bu,if_false]
  rw [inner];simp only [Option.bind_some];rw [gB (by omega)];simp only [Option.bind_some];rw [wn (by omega)];rfl
 ·intro b _;rw [hc];simp only [bM.s2,Int.lt_irrefl,if_false]
theorem Ee (hb:FT p=0) (ok:Ok p) (h:CX p q v) (hs:gG v.2.2≤512) (hp:0≤gG v.2.2) :
  dG (bJ.s2 p (v.2.1,v.2.2,v.1) (gG v.2.2)) (0,false,[])=some ((List.range (gG v.2.2).toNat).foldl (wF (tC p v)) (false,[])):=by
 have hlen:(List.range (gG v.2.2).toNat).length=(gG v.2.2).toNat:=by simp
 have hc:((List.range (gG v.2.2).toNat).length:Int)=gG v.2.2:=by omega
 have hl7:=ok.len;rw [jZ (step:=bJ.s2 p (v.2.1,v.2.2,v.1) (gG v.2.2)) (List.range (gG v.2.2).toNat) (fun i (b:Bool×List Int)=>(i,b)) (fun b=>b) (wF (tC p v)) (fun i b=>b.2.length=i) (a:=(false,[])) rfl ?_ ?_ rfl (by omega)]
 ·intro i hi b hbl;have hir:(List.range (gG v.2.2).toNat)[i]=i:=by simp
  have hil:(i:Int) < gG v.2.2:=by omega
  refine ⟨?_,by simp [wF,hbl]⟩;obtain ⟨b1,b2,b3⟩:=h.base i hil hs;obtain ⟨a1,a2⟩:=h.place i hil hs;have l1:v.2.2.length=p.length:=by rw [h.lens];simp [h.lists]
  have dl:(dig v.2.2 i).length=p.length:=by rw [OA,l1]
  simp only [bJ.s2,hil,if_true,hir];rw [F9 b1 (by omega) (by omega) (by omega)];simp only [Option.bind_some];have inner:dG (bJ.s3 (v.2.1,v.2.2,v.1)) (0,dig v.2.2 i)=some (picks v.2.1 (dig v.2.2 i)):=by
   rw [QG (step:=bJ.s3 (v.2.1,v.2.2,v.1)) (dig v.2.2 i) (fun j d=>(((v.2.1[j]?).getD [])[d.toNat]?).getD 0) (fun i b=>(i,b)) (fun b=>b) rfl ?_ ?_ (by omega)]
   ·rfl
   ·intro j hj b hbl2 hbj;obtain ⟨g1,g2,g3,g4⟩:=h.NU i hil hs (i:=j) (by omega);have hjb:j < b.length:=by omega
    have hbv:b[j]=(dig v.2.2 i)[j]:=by rw [List.getElem?_eq_getElem hjb] at hbj;exact Option.some.inj hbj
    simp only [bJ.s3,eP hjb,if_true,fK g2,fK hjb,Option.bind_some,hbv,g4,Int.toNat_natCast];rw [wn (by omega)];simp [picks]
   ·intro b hbl2;rw [← hbl2];simp only [bJ.s3,bu,if_false]
  rw [inner];simp only [Option.bind_some];have hoff:Vo p (picks v.2.1 (dig v.2.2 i))=0:=by unfold Vo;simp [hb,a2,a1]
  rw [Jd hoff];simp only [Option.bind_some];by_cases hm:b.1=true
  ·simp only [hm,if_true];rw [gB (by omega)];simp only [Option.bind_some];rw [wn (by omega)];simp [wF,hm,tC]
  ·simp only [hm,if_false,Bool.false_eq_true];rw [has_eq (by omega),gB (by omega)];simp only [Option.bind_some];rw [wn (by omega)];simp [wF,hm,tC]
 ·intro b _;rw [hc];simp only [bJ.s2,Int.lt_irrefl,if_false]
theorem CX.pos (h:CX p q v):0≤gG v.2.2:=by
 unfold gG;split
 ·omega
 ·rename_i h0
  have hr:∀ x,x∈v.2.2→1≤x∧x≤512:=by
   intro x hx;have hx':=hx;rw [h.lens] at hx;obtain ⟨l,hl,rfl⟩:=List.mem_map.1 hx;have:=h.small l hl;simp only [List.any_eq_true,not_exists,not_and,beq_iff_eq] at h0;have:=h0 _ hx';omega
  have:=Gs (a:=1) hr (by omega) (by omega);have hp:=JA fun x hq=>(hr x hq).1
  unfold Ur;omega
end
def nP (p:List ai) (q:List aj):ay×Int :=
 if FT p≠0 then (⟨[],[],false⟩,FT p)
 else if (q.length:Int)≠(p.length:Int) then (⟨[],[],false⟩,32)
 else match tZ p q with
  | .inl e=>(⟨[],[],false⟩,e)
  | .inr v=>La p v
theorem Je (p:List ai) (q:List aj) (hq:∀ s,s∈q→s.List.length < 16777216):kM p q=some (nP p q):=by
 unfold kM nP;rw [Ac];simp only [Option.bind_some];by_cases hb:FT p=0
 ·have ok:=wX hb;have hl7:=ok.len;simp only [hb,not_true,if_false,ne_eq];unfold bM;by_cases hl:(q.length:Int)=(p.length:Int)
  ·simp only [hl,not_true,if_false];have T:(p.zip q).length=q.length:=by simp;omega
   have l1:dG (bM.s1 p q) (0,[],[],[])=some (match tZ p q with | .inl e=>Sum.inr (⟨[],[],false⟩,e) | .inr v=>Sum.inl v):=by
    unfold tZ;rw [iy (step:=bM.s1 p q) (p.zip q) (fun i (b:Sec)=>(i,b)) (fun e=>Sum.inr (⟨[],[],false⟩,e)) (fun b=>Sum.inl b) G6 LX (a:=([],[],[])) rfl ?_ ?_ ⟨Nat.le_refl _,rfl,rfl⟩ (by omega)]
    ·cases dJ G6 0 (p.zip q) ([],[],[])<;>rfl
    ·intro i hi b hI;refine ⟨?_,fun b' e=>Cf hI e⟩;obtain ⟨i1,i2,i3⟩:=hI;rw [T] at hi;have h2:i < p.length:=by omega
     simp only [bM.s1,eP hi,if_true,fK hi,fK h2,Option.bind_some,List.getElem_zip,G6];rw [MP _ _ (hq _ (List.getElem_mem hi))];simp only [Option.bind_some];by_cases he:(sel p[i] q[i]).2=0
     ·simp only [he,not_true,if_false,ne_eq];rw [gB (by omega),gB (by omega)];simp only [Option.bind_some];by_cases hk:q[i].Kind=0
      ·simp only [hk,not_true,if_false];rw [wn (by omega)]
      ·simp only [hk,not_false_eq_true,if_true];rw [gB (by omega)];simp only [Option.bind_some];rw [wn (by omega)]
     ·simp only [he,not_false_eq_true,if_true,ne_eq]
    ·intro b _;rw [T];simp only [bM.s1,bu,if_false]
   rw [l1];simp only [Option.bind_some];cases hv:tZ p q with
   | inl e=>simp
   | inr v =>
    have so:=S9 (by omega) hv;have hp:=so.pos;have hvl:v.2.2.length=p.length:=by rw [so.lens];simp [so.lists]
    simp only [EN (show v.2.2.length < 16777216 by omega),Option.bind_some];unfold La;by_cases hs:gG v.2.2 > 512
    ·simp only [hs,if_true,Option.bind_some]
    ·simp only [hs,if_false];rw [Jz (by omega)];simp only [Option.bind_some];rw [MB (by simp [exs];omega)];simp only [Option.bind_some];rw [KD ok so (by omega) hp];simp only [Option.bind_some]
  ·simp [hl]
 ·simp [hb]
theorem yG (p:List ai) (q:List aj) (hq:∀ s,s∈q→s.List.length < 16777216):bJ p q=some (nP p q):=by
 unfold bJ nP;rw [uS];simp only [Option.bind_some];by_cases hb:FT p=0
 ·have ok:=wX hb;have hl7:=ok.len;simp only [hb,not_true,if_false,ne_eq];by_cases hl:(q.length:Int)=(p.length:Int)
  ·simp only [hl,not_true,if_false];have T:(p.zip q).length=q.length:=by simp;omega
   have l1:dG (bJ.s1 p q) (0,[],[],[])=some (match tZ p q with | .inl e=>Sum.inr (⟨[],[],false⟩,e) | .inr v=>Sum.inl (v.2.1,v.2.2,v.1)):=by
    unfold tZ;rw [iy (step:=bJ.s1 p q) (p.zip q) (fun i (b:Sec)=>(i,b.2.1,b.2.2,b.1)) (fun e=>Sum.inr (⟨[],[],false⟩,e)) (fun b=>Sum.inl (b.2.1,b.2.2,b.1)) G6 LX (a:=([],[],[])) rfl ?_ ?_ ⟨Nat.le_refl _,rfl,rfl⟩ (by omega)]
    ·cases dJ G6 0 (p.zip q) ([],[],[])<;>rfl
    ·intro i hi b hI;refine ⟨?_,fun b' e=>Cf hI e⟩;obtain ⟨i1,i2,i3⟩:=hI;rw [T] at hi;have h2:i < p.length:=by omega
     simp only [bJ.s1,eP hi,if_true,fK hi,fK h2,Option.bind_some,List.getElem_zip,G6];rw [JC _ _ (hq _ (List.getElem_mem hi)),if_pos (ok.num _ (List.getElem_mem h2))];simp only [Option.bind_some];by_cases he:(sel p[i] q[i]).2=0
     ·simp only [he,not_true,if_false,ne_eq];rw [gB (by omega),gB (by omega)];simp only [Option.bind_some];by_cases hk:q[i].Kind=0
      ·simp only [hk,not_true,if_false];rw [wn (by omega)]
      ·simp only [hk,not_false_eq_true,if_true];rw [gB (by omega)];simp only [Option.bind_some];rw [wn (by omega)]
     ·simp only [he,not_false_eq_true,if_true,ne_eq]
    ·intro b _;rw [T];simp only [bJ.s1,bu,if_false]
   rw [l1];simp only [Option.bind_some];cases hv:tZ p q with
   | inl e=>simp
   | inr v =>
    have so:=S9 (by omega) hv;have hp:=so.pos;have hvl:v.2.2.length=p.length:=by rw [so.lens];simp [so.lists]
    simp only [qf (show v.2.2.length < 16777216 by omega),Option.bind_some];unfold La;by_cases hs:gG v.2.2 > 512
    ·simp only [hs,if_true,Option.bind_some]
    ·simp only [hs,if_false];rw [Ee hb ok so (by omega) hp];simp only [Option.bind_some]
  ·simp [hl]
 ·simp [hb]
theorem zV {q:List aj} (h:q.length < 16777216) (hq:∀ s,s∈q→s.List.length < 16777216):dC q=some q:=by
 unfold dC;rw [nV (step:=dC.s1 q) q (fun s=>s) (fun i b=>(i,b)) (fun b=>b) rfl ?_ ?_ (by omega)]
 ·simp
 ·intro i hi b hb;simp only [dC.s1,eP hi,if_true,fK hi,Option.bind_some];have:=hq _ (List.getElem_mem hi);rw [sQ (by omega)];simp only [Option.bind_some];rw [gB (by omega),wn (by omega)];rfl
 ·intro b;simp only [dC.s1,bu,if_false]
set_option linter.unusedVariables false
set_option linter.unusedSimpArgs false
structure TZ (a:ag):Prop where
 b:FT a.Bounds=0
 len:(a.Elements.length:Int)=P (exs a.Bounds)
 int:∀ x,x∈a.Elements→bK x=true
theorem IA:∀ (xs:List Int) (i:Nat),(∀ x,x∈xs→bK x=true)↔dJ (fun i b x=>if bK x=true then Sum.inr b else Sum.inl i) i xs () = .inr ()
 | [],i=>by simp [dJ]
 | x::xs,i=>by
  simp only [dJ,List.mem_cons,forall_eq_or_imp];by_cases h:bK x=true
  ·simp only [h,if_true,true_and];exact IA xs (i+1)
  ·simp [h]
theorem Pm {a:ag} (h:(chk a).2=0):TZ a:=by
 unfold chk at h;split at h
 ·rename_i hb;exact absurd h hb
 rename_i hb
 split at h
 ·cases h
 rename_i hl
 have hb':=Classical.not_not.1 hb;have hl':=Classical.not_not.1 hl;have ok:=wX hb';refine ⟨hb',by have:=ok.size;rw [hl'];exact this.1,?_⟩;cases hq:Ru a.Elements with
 | inl i=>rw [hq] at h;cases h
 | inr u=>exact (IA _ 0).2 hq
theorem DJ (o:Nat→Int):∀ (ks:List Nat) (v:Bool×List Int),(ks.foldl (wF o) v).2=v.2++ks.map o
 | [],v=>by simp
 | k::ks,v=>by rw [List.foldl_cons,DJ o ks];simp [wF]
theorem BD (o:Nat→Int):∀ (ks:List Nat) (a:Bool) (l:List Int),(ks.foldl (wF o) (a,l)).1=false→a=false∧(l.Nodup→(l++ks.map o).Nodup)
 | [],a,l,h=>⟨h,fun hn=>by simpa using hn⟩
 | k::ks,a,l,h=>by
  rw [List.foldl_cons] at h;obtain ⟨h1,h2⟩:=BD o ks _ _ h;simp only [Bool.or_eq_false_iff,List.any_eq_false,beq_iff_eq] at h1;refine ⟨h1.1,fun hn=>?_⟩;have:(l++[o k]).Nodup:=by
   rw [List.nodup_append];refine ⟨hn,by simp,?_⟩;intro x hx y hy;simp only [List.mem_singleton] at hy;subst hy;exact h1.2 x hx
  have:=h2 this;simpa using this
structure Sct (p:List ai) (s:ay):Prop where
 range:∀ o,o∈s.Offsets→0≤o∧o < P (exs p)
 nodup:s.ManyOne=false→s.Offsets.Nodup
 len:(s.Offsets.length:Int)=P s.Extents
 ext:∀ e,e∈s.Extents→0≤e∧e≤512
 dims:s.Extents.length≤7
 small:s.Offsets.length≤512
theorem Qy {b:ai} {s:aj} (h:(sel b s).2=0) (hk:s.Kind=0):(sel b s).1.length=1:=by
 unfold sel at h ⊢;by_cases he:PM s=0
 ·simp only [he,ne_eq,not_true,if_false,hk,show ¬ (0:Int)=1 by decide,show ¬ (0:Int)=2 by decide,false_and] at h ⊢;by_cases h3:(Sj s).any (fun x=>!aJ x b.Low b.High)=true
  ·simp [h3] at h
  ·simp only [h3,if_false,Bool.false_eq_true];unfold Sj;simp [hk]
 ·simp [he] at h
theorem Lr (a b:List Int):P (a++b)=P a * P b:=by
 induction a with
 | nil=>simp [P]
 | cons x a ih=>simp [P,ih,Int.mul_assoc]
theorem Jl:∀ {T:List (ai×aj)} {i:Nat} {v v':Sec},dJ G6 i T v = .inr v'→P v.1=P v.2.2→(∀ e,e∈v.1→0≤e∧e≤512)→P v'.1=P v'.2.2∧(∀ e,e∈v'.1→0≤e∧e≤512)∧v'.1.length≤v.1.length+T.length
 | [],i,v,v',h,h1,h2=>by cases h;exact ⟨h1,h2,by simp⟩
 | t::T,i,v,v',h,h1,h2=>by
  simp only [dJ] at h;cases hf:G6 i v t with
  | inl e=>rw [hf] at h;cases h
  | inr v2 =>
   rw [hf] at h;unfold G6 at hf;split at hf
   ·cases hf
   ·rename_i hs
    have hs:=Classical.not_not.1 hs;cases hf;have hsl:=(JY hs).1;by_cases hk:t.2.Kind=0
    ·simp only [hk,ne_eq,not_true,if_false] at h;have e1:=Qy hs hk;obtain ⟨g1,g2,g3⟩:=Jl h (by simp only [Lr,e1,P];simp [h1]) h2;exact ⟨g1,g2,by simp at g3 ⊢;omega⟩
    ·simp only [hk,ne_eq,not_false_eq_true,if_true] at h;obtain ⟨g1,g2,g3⟩:=Jl h (by simp only [Lr,h1]) (by
      intro e he;simp only [List.mem_append,List.mem_singleton] at he;rcases he with he | he
      ·exact h2 e he
      ·omega)
     exact ⟨g1,g2,by simp at g3 ⊢;omega⟩
theorem NC {p:List ai} {q:List aj} (h:(nP p q).2=0):Sct p (nP p q).1:=by
 unfold nP at h ⊢;by_cases hb:FT p=0
 ·have ok:=wX hb;have hl7:=ok.len;simp only [hb,ne_eq,not_true,if_false] at h ⊢;by_cases hl:(q.length:Int)=(p.length:Int)
  ·simp only [hl,not_true,if_false] at h ⊢;cases hv:tZ p q with
   | inl e =>
    rw [hv] at h
    exfalso
    have key:∀ (T:List (ai×aj)) (i:Nat) (v:Sec) (e:Int),dJ G6 i T v = .inl e→e≠0:=by
     intro T
     induction T with
     | nil=>intro i v e h;cases h
     | cons t T ih =>
      intro i v e h;simp only [dJ] at h;cases hf:G6 i v t with
      | inl e' =>
       rw [hf] at h;cases h;unfold G6 at hf;split at hf
       ·rename_i hs;cases hf;exact hs
       ·cases hf
      | inr v2=>rw [hf] at h;exact ih _ _ _ h
    exact key _ _ _ _ hv h
   | inr v =>
    rw [hv] at h;have so:=S9 (by omega) hv;obtain ⟨x1,x2,x3⟩:=Jl hv rfl (fun e he=>by cases he);simp only at h ⊢;unfold La at h ⊢;by_cases hs:gG v.2.2 > 512
    ·simp [hs] at h
    ·simp only [hs,if_false] at h ⊢;have hp:=so.pos;have hr:∀ x,x∈v.2.2→0≤x∧x≤512:=by
      intro x hx;rw [so.lens] at hx;obtain ⟨l,hl,rfl⟩:=List.mem_map.1 hx;have:=so.small l hl;omega
     obtain ⟨z1,z2⟩:=JM hr (by omega);have T:(p.zip q).length≤7:=by simp;omega
     refine ⟨?_,?_,?_,x2,by show v.1.length≤7;simp at x3;omega,?_⟩
     ·intro o ho;simp only [DJ,List.nil_append] at ho;obtain ⟨k,hk,rfl⟩:=List.mem_map.1 ho;have hk':(k:Int) < gG v.2.2:=by have:=List.mem_range.1 hk;omega
      obtain ⟨a1,a2⟩:=so.place k hk' (by omega);exact Gn (vJ a2.symm ok.num a1)
     ·intro hm;have:=(BD _ _ _ _ hm).2 (by simp);simp only [DJ,List.nil_append] at this ⊢;exact this
     ·simp only [BH,List.length_nil,List.length_range];omega
     ·simp only [BH,List.length_nil,List.length_range];omega
  ·simp [hl] at h
 ·simp [hb] at h
def Jt (es:List Int):List ai:=es.map fun e=>ai.mk 1 e
theorem Rz {es xs:List Int} (h:es.length < 16777216):nY es xs=some (ag.mk (Jt es) xs):=by
 unfold nY;rw [nV (step:=nY.s1 es) es (fun e=>ai.mk 1 e) (fun i b=>(i,b)) (fun b=>b) rfl ?_ ?_ (by omega)]
 ·rfl
 ·intro i hi b hb;simp only [nY.s1,eP hi,if_true,fK hi,Option.bind_some];rw [gB (by omega),wn (by omega)];rfl
 ·intro b;simp only [nY.s1,bu,if_false]
theorem Iq {a:ag} (h1:a.Bounds.length < 16777216) (h2:a.Elements.length < 16777216):jO a a=some true:=by
 unfold jO;rw [JQ h2 h2];simp only [Option.bind_some,beq_self_eq_true,not_true,if_false];rw [kQ (step:=jO.s1 a a) a.Bounds (fun _=>(none:Option Bool)) (fun c=>Sum.inr c) (Sum.inl ()) rfl ?_ ?_ (by omega)]
 ·have:a.Bounds.findSome? (fun _=>(none:Option Bool))=none:=by simp
  rw [this];rfl
 ·intro i hi;simp only [jO.s1,eP hi,if_true,fK hi,Option.bind_some,beq_self_eq_true,Bool.and_self,not_true,if_false];rw [wn (by omega)]
 ·simp only [jO.s1,bu,if_false]
theorem PE {es:List Int} (h:∀ e,e∈es→0≤e∧e≤512):exs (Jt es)=es:=by
 unfold exs Jt;rw [List.map_map]
 conv=>rhs;rw [← List.map_id es]
 refine List.map_congr_left fun e he=>?_
 have:=h e he
 show aC (ai.mk 1 e)=id e
 unfold aC mx;simp only [id];rw [qo (n:=e - 1) (by omega) (by omega),qo (by omega) (by omega)];split<;>omega
end Go.Sh
set_option linter.all false
namespace Go.Sh
open Go.Lx
theorem OO (rs:List aA) (h:rs.length < 1000):dB rs=some (match rs.findSome? (fun r=>if r.holds=true then none else some r.code) with | some c=>c | none=>0):=by
 unfold dB;rw [kQ (step:=dB.s1 rs) rs (fun r=>if r.holds=true then none else some r.code) (fun c=>Sum.inr c) (Sum.inl ()) rfl ?_ ?_ (by omega)]
 ·cases rs.findSome? (fun r=>if r.holds=true then none else some r.code)<;>rfl
 ·intro i hi;simp only [dB.s1,eP hi,if_true,fK hi,Option.bind_some];by_cases e:rs[i].holds=true
  ·simp only [e,not_true,if_false,if_true];rw [wn (by omega)]
  ·simp only [e,not_false_eq_true,if_true];rfl
 ·simp only [dB.s1,bu,if_false]
theorem qc (b:Bool) (c:Int):dB [aA.mk b c]=some (if b=true then 0 else c):=by
 rw [OO _ (by simp)];cases b<;>rfl
theorem Rq (a b:Bool) (c d:Int):dB [aA.mk a c,aA.mk b d]=some (if a=true then (if b=true then 0 else d) else c):=by
 rw [OO _ (by simp)];cases a<;>cases b<;>rfl
theorem VU (x y:Int):dS [x,y]=some (if x=0 then y else x):=by
 unfold dS;rw [kQ (step:=dS.s1 [x,y]) [x,y] (fun r=>if r=0 then none else some r) (fun c=>Sum.inr c) (Sum.inl ()) rfl ?_ ?_ (by simp)]
 ·by_cases h:x=0<;>by_cases k:y=0<;>simp [h,k]
 ·intro i hi;simp only [dS.s1,eP hi,if_true,fK hi,Option.bind_some];have hi2:i < 2:=by simpa using hi
  by_cases e:[x,y][i]=0
  ·simp only [e,not_true,if_false,if_true];rw [wn (by omega)]
  ·simp only [e,not_false_eq_true,if_true];rfl
 ·simp only [dS.s1,bu,if_false]
theorem FN (a b c:Int):cO a b c=aU a b c:=by
 unfold cO aU;simp only [Bool.not_or,← decide_not]
 congr 1<;>exact decide_eq_decide.2 (by omega)
theorem Lc {α:Type} {n:Nat} {a:α} (h:n≤16777216):Et (n:Int) a=some (List.replicate n a):=by unfold Et;rw [if_pos (by omega)];simp
def clean (n:ae):Bool :=
 (((((((n.Kind==0) || (n.Value==0))&&(((n.Kind==1) || ((n.Kind==8) || (n.Kind==9))) || (n.Var==0)))&&((aS n.Kind) || (n.B==0)))&&(((aS n.Kind) || (n.Kind==7)) || (n.A==0)))&&((n.Kind==1) || ((n.Subscripts.length:Int)==0)))&&((n.Kind==9) || ((n.Forms.length:Int)==0)))
theorem Nu (n:ae):eX n=some (clean n):=by
 unfold eX;by_cases h1:n.Kind=1
 ·rw [if_pos h1];unfold eX.j1 clean;simp [h1]
 ·rw [if_neg h1];by_cases h8:n.Kind=8
  ·rw [if_pos h8];unfold eX.j1 clean;simp [h8]
  ·rw [if_neg h8];unfold eX.j1 clean;have e1:(n.Kind==1)=false:=by simpa using h1
   have e8:(n.Kind==8)=false:=by simpa using h8
   simp only [e1,e8,Bool.false_or]
def ML (i:Nat) (n:ae):Bool:=(bY n).all fun k=>aU k 0 ((i:Int) - 1)
def Lu (i:Nat) (n:ae):Int:=if ¬ aU n.Kind 0 9=true then 15 else if (ML i n&&clean n)=true then 0 else 3
def bump (b:List Int) (k:Int):List Int:=b.set k.toNat (w (b.getD k.toNat 0+1))
def Pg (b:List Int) (n:ae):List Int:=(bY n).foldl bump b
theorem KJ (b:List Int) (k:Int):(bump b k).length=b.length:=by simp [bump]
theorem wR:∀ (ks:List Int) (b:List Int),(ks.foldl bump b).length=b.length
 | [],b=>rfl
 | k::ks,b=>by rw [List.foldl_cons,wR ks,KJ]
theorem BO (b:List Int) (n:ae):(Pg b n).length=b.length:=wR _ _
theorem jX {a b c:Int}:aU a b c=true↔b≤a∧a≤c:=by unfold aU;simp
theorem at_in {α:Type} [Inhabited α] {xs:List α} {k:Int} {d:α} (h0:0≤k) (h:k < xs.length):at_ xs k=some (xs.getD k.toNat d):=by
 have e:k=((k.toNat:Nat):Int):=by omega
 rw [e,fK (by omega)];simp only [Int.toNat_natCast]
 congr 1
 rw [List.getD_eq_getElem?_getD,List.getElem?_eq_getElem (by omega)];rfl
theorem Ls (i:Nat):∀ (ks:List Int) (j:Nat) (b:List Int),dJ (ρ:=Int×List Int) (fun _ b k=>if aU k 0 ((i:Int) - 1)=true then .inr (bump b k) else .inl (3,b)) j ks b =
  if ks.all (fun k=>aU k 0 ((i:Int) - 1))=true then .inr (ks.foldl bump b) else .inl (3,((dJ (ρ:=Int×List Int) (fun _ b k=>if aU k 0 ((i:Int) - 1)=true then .inr (bump b k) else .inl (3,b)) j ks b).elim (fun e=>e.2) id))
 | [],j,b=>by simp [dJ]
 | k::ks,j,b=>by
  simp only [dJ,List.all_cons,List.foldl_cons];by_cases h:aU k 0 ((i:Int) - 1)=true
  ·simp only [h,if_true,Bool.true_and];exact Ls i ks (j+1) (bump b k)
  ·simp [h]
theorem U3 {i:Nat} {n:ae} {b:List Int} (hi:i < b.length) (hb:b.length < 1000):∃ b',eu i n b=some (Lu i n,b')∧(Lu i n=0→b'=Pg b n):=by
 unfold eu Lu;by_cases hk:aU n.Kind 0 9=true
 ·simp only [hk,not_true,if_false];have hw:w ((i:Int) - 1)=(i:Int) - 1:=qo (by omega) (by omega);have hol:(bY n).length < 3:=by unfold bY;split<;>(try split)<;>simp
  rw [iy (step:=eu.s1 i n) (bY n) (fun j b=>(j,b)) (fun r=>Sum.inr r) (fun b=>Sum.inl b) (fun _ b k=>if aU k 0 ((i:Int) - 1)=true then .inr (bump b k) else .inl (3,b)) (fun _ b'=>b'.length=b.length) (a:=b) rfl ?_ ?_ rfl (by omega)]
  ·rw [Ls];unfold ML;by_cases ha:(bY n).all (fun k=>aU k 0 ((i:Int) - 1))=true
   ·simp only [ha,if_true,Option.bind_some,Nu,qc,Bool.true_and];exact ⟨_,rfl,fun _=>rfl⟩
   ·simp only [ha,Bool.false_eq_true,if_false,Option.bind_some,Bool.false_and];exact ⟨_,rfl,fun h=>by simp at h⟩
  ·intro j hj b' hb';refine ⟨?_,?_⟩
   ·simp only [eu.s1,eP hj,if_true,fK hj,Option.bind_some,hw];by_cases hin:aU (bY n)[j] 0 ((i:Int) - 1)=true
    ·simp only [hin,not_true,if_false,if_true];have hr:=jX.1 hin;rw [at_in (d:=0) hr.1 (by omega),wn (by omega)];rfl
    ·simp only [hin,not_false_eq_true,if_true];rfl
   ·intro b'' e;split at e
    ·cases e;rw [KJ];exact hb'
    ·cases e
  ·intro b' hb';simp only [eu.s1,bu,if_false]
 ·simp only [hk,not_false_eq_true,if_true];exact ⟨b,rfl,fun h=>by simp at h⟩
def nS (i:Nat) (b:List Int) (n:ae):Sum Int (List Int):=if Lu i n=0 then .inr (Pg b n) else .inl (Lu i n)
theorem uI {α β ρ τ:Type} {f:Nat→β→α→Sum ρ β} {g:Nat→β→α→Sum τ β} (π:ρ→τ) (Inv:β→Prop) (N:Nat)
  (h:∀ i b x,i < N→Inv b→(match f i b x with | .inl r=>g i b x = .inl (π r) | .inr b'=>g i b x = .inr b'∧Inv b')):∀ (xs:List α) (i:Nat) (b:β),i+xs.length=N→Inv b →
  (match dJ f i xs b with | .inl r=>dJ g i xs b = .inl (π r) | .inr b'=>dJ g i xs b = .inr b')
 | [],i,b,_,_=>rfl
 | x::xs,i,b,hN,hI=>by
  have h1:=h i b x (by simp at hN;omega) hI;simp only [dJ];cases hf:f i b x with
  | inl r=>rw [hf] at h1;simp only at h1 ⊢;rw [h1]
  | inr b' =>
   rw [hf] at h1;simp only at h1 ⊢;rw [h1.1];exact uI π Inv N h xs (i+1) b' (by simp at hN;omega) h1.2
def c1F (i:Nat) (b:List Int) (n:ae):Sum (Int×Int×List Int) (List Int) :=
 match eu i n b with
 | some (c,b')=>if c=0 then .inr b' else .inl ((i:Int),c,b')
 | none => .inr b
theorem Tm (e:List ae) (he:e.length < 1000):∃ k b',aH e (List.replicate e.length 0)=some (k,(match dJ nS 0 e (List.replicate e.length 0) with | .inl c=>c | .inr _=>0),b') ∧
  (∀ b,dJ nS 0 e (List.replicate e.length 0) = .inr b→b'=b)∧(∀ c,dJ nS 0 e (List.replicate e.length 0) = .inl c→c≠0):=by
 have key:∀ i (b:List Int) n,i < e.length→b.length=e.length→(match c1F i b n with | .inl r=>nS i b n = .inl r.2.1∧r.2.1≠0 | .inr b'=>nS i b n = .inr b'∧b'.length=e.length):=by
  intro i b n hi hb;obtain ⟨b',h1,h2⟩:=U3 (n:=n) (show i < b.length by omega) (by omega);unfold c1F nS;rw [h1];by_cases hn:Lu i n=0
  ·simp only [hn,if_true];rw [h2 hn];exact ⟨rfl,by rw [BO];exact hb⟩
  ·simp only [hn,if_false];exact ⟨trivial,hn⟩
 unfold aH;rw [iy (step:=aH.s1 e) e (fun i b=>(i,b)) (fun r=>Sum.inr r) (fun b=>Sum.inl b) c1F (fun _ b=>b.length=e.length) (a:=List.replicate e.length 0) rfl ?_ ?_ (by simp) (by omega)]
 ·have h3:=uI (f:=c1F) (g:=nS) (fun r=>r.2.1) (fun b=>b.length=e.length) e.length (fun i b x hi hb=>by
   have:=key i b x hi hb;cases hc:c1F i b x with
   | inl r=>rw [hc] at this;exact this.1
   | inr b'=>rw [hc] at this;exact this) e 0 (List.replicate e.length 0) (by simp) (by simp)
  have h4:=uI (f:=c1F) (g:=fun i b n=>match c1F i b n with | .inl r=>if r.2.1=0 then .inr b else .inl r.2.1 | .inr b' => .inr b') (fun r=>r.2.1) (fun b=>b.length=e.length) e.length (fun i b x hi hb=>by
   have:=key i b x hi hb;cases hc:c1F i b x with
   | inl r=>rw [hc] at this;simp only [this.2,if_false]
   | inr b'=>rw [hc] at this;simp only;exact ⟨trivial,this.2⟩) e 0 (List.replicate e.length 0) (by simp) (by simp)
  have h5:∀ (xs:List ae) (i:Nat) (b:List Int) r,i+xs.length=e.length→b.length=e.length→dJ c1F i xs b = .inl r→r.2.1≠0:=by
   intro xs
   induction xs with
   | nil=>intro i b r _ _ h;cases h
   | cons x xs ih =>
    intro i b r hN hb h;have:=key i b x (by simp at hN;omega) hb;simp only [dJ] at h;cases hc:c1F i b x with
    | inl r'=>rw [hc] at this h;cases h;exact this.2
    | inr b'=>rw [hc] at this h;exact ih (i+1) b' r (by simp at hN;omega) this.2 h
  cases hs:dJ c1F 0 e (List.replicate e.length 0) with
  | inl r =>
   rw [hs] at h3;simp only at h3;rw [h3];refine ⟨r.1,r.2.2,rfl,?_,?_⟩
   ·intro b h;cases h
   ·intro c h;cases h;exact h5 _ _ _ r (by simp) (by simp) hs
  | inr b' =>
   rw [hs] at h3;simp only at h3;rw [h3];refine ⟨0,b',rfl,?_,?_⟩
   ·intro b h;cases h;rfl
   ·intro c h;cases h
 ·intro i hi b hb;have hc:=key i b e[i] hi hb;refine ⟨?_,?_⟩
  ·simp only [aH.s1,eP hi,if_true,fK hi,Option.bind_some];obtain ⟨b',h1,h2⟩:=U3 (n:=e[i]) (show i < b.length by omega) (by omega);unfold c1F;rw [h1];simp only [Option.bind_some];by_cases hn:Lu i e[i]=0
   ·simp only [hn,not_true,if_false,if_true];rw [wn (by omega)]
   ·simp only [hn,not_false_eq_true,if_true,if_false]
  ·intro b' h;rw [h] at hc;exact hc.2
 ·intro b hb;simp only [aH.s1,bu,if_false]
def sF (N:Nat):Nat→List Int→Int
 | _,[]=>0
 | i,x::xs=>if ((i+1=N∧x=0)∨(i+1≠N∧x=1)) then sF N (i+1) xs else 3
def D7 (e:List ae):Int :=
 if e.length=0 then 17 else if 40 < e.length then 8 else
 match dJ nS 0 e (List.replicate e.length 0) with
 | .inl c=>c
 | .inr b=>sF e.length 0 b
theorem Gx (N:Nat):∀ (xs:List Int) (i:Nat),dJ (β:=Unit) (ρ:=Int) (fun i b x=>if ((i+1=N∧x=0)∨(i+1≠N∧x=1)) then .inr b else .inl 3) i xs ()=if sF N i xs=0 then .inr () else .inl 3
 | [],i=>rfl
 | x::xs,i=>by
  simp only [dJ,sF];by_cases h:((i+1=N∧x=0)∨(i+1≠N∧x=1))
  ·simp only [h,if_true];exact Gx N xs (i+1)
  ·simp [h]
theorem zf (N:Nat):∀ (xs:List Int) (i:Nat),sF N i xs=0∨sF N i xs=3
 | [],i => .inl rfl
 | x::xs,i=>by
  simp only [sF];split
  ·exact zf N xs (i+1)
  ·exact .inr rfl
theorem VF {b:List Int} {N:Nat} (hN:0 < N) (hb:b.length=N) (hl:N < 1000):∃ k,aW b (w ((N:Int) - 1))=some (k,sF N 0 b):=by
 have hw:w ((N:Int) - 1)=(N:Int) - 1:=qo (by omega) (by omega);rw [hw];unfold aW;rw [iy (step:=aW.s1 b ((N:Int) - 1)) b (fun i (_:Unit)=>i) (fun (r:Int×Int)=>Sum.inr r) (fun _=>Sum.inl ()) (fun i b x=>if ((i+1=N∧x=0)∨(i+1≠N∧x=1)) then .inr b else .inl ((i:Int),3)) (fun _ _=>True) rfl ?_ ?_ trivial (by omega)]
 ·have h3:=uI (f:=fun i (b:Unit) (x:Int)=>if ((i+1=N∧x=0)∨(i+1≠N∧x=1)) then Sum.inr b else Sum.inl ((i:Int),(3:Int))) (g:=fun i b x=>if ((i+1=N∧x=0)∨(i+1≠N∧x=1)) then .inr b else .inl (3:Int)) (fun r=>r.2) (fun _=>True) b.length (fun i b x _ _=>by
   by_cases h:((i+1=N∧x=0)∨(i+1≠N∧x=1))
   ·simp only [h,if_true];exact ⟨trivial,trivial⟩
   ·simp only [h,if_false]) b 0 () (by simp) trivial
  rw [Gx] at h3;cases hs:dJ (fun i (b:Unit) (x:Int)=>if ((i+1=N∧x=0)∨(i+1≠N∧x=1)) then Sum.inr b else Sum.inl ((i:Int),(3:Int))) 0 b () with
  | inl r =>
   rw [hs] at h3;simp only at h3;rcases zf N b 0 with h | h
   ·rw [h] at h3;simp at h3
   ·rw [h] at h3 ⊢;simp at h3;obtain ⟨k,c⟩:=r;simp only at h3;subst h3;exact ⟨k,rfl⟩
  | inr u =>
   rw [hs] at h3;simp only at h3;rcases zf N b 0 with h | h
   ·rw [h];exact ⟨0,rfl⟩
   ·rw [h] at h3;simp at h3
 ·intro i hi u _;refine ⟨?_,fun _ _=>trivial⟩;simp only [aW.s1,eP hi,if_true,fK hi,Option.bind_some,mP,qc];by_cases e1:i+1=N
  ·have e2:((i:Int)==(N:Int) - 1)=true:=by simp;omega
   have e3:((i:Int) != (N:Int) - 1)=false:=by simp;omega
   simp only [e2,e3,Bool.true_and,Bool.false_and,Bool.or_false,e1,true_and,ne_eq,not_true,false_and,or_false];by_cases e4:b[i]=0
   ·simp [e4];rw [wn (by omega)];congr 3
   ·simp [e4]
  ·have e2:((i:Int)==(N:Int) - 1)=false:=by simp;omega
   have e3:((i:Int) != (N:Int) - 1)=true:=by simp;omega
   simp only [e2,e3,Bool.true_and,Bool.false_and,Bool.false_or,e1,false_and,ne_eq,not_false_eq_true,true_and,false_or];by_cases e4:b[i]=1
   ·simp [e4];rw [wn (by omega)];congr 3
   ·simp [e4]
 ·intro u _;simp only [aW.s1,bu,if_false]
theorem BC:∀ (xs:List ae) (i:Nat) (b b':List Int),dJ nS i xs b = .inr b'→b'.length=b.length
 | [],i,b,b',h=>by cases h;rfl
 | x::xs,i,b,b',h=>by
  simp only [dJ,nS] at h;split at h
  ·cases h
  ·rename_i b1 hb1
   split at hb1
   ·cases hb1;rw [BC xs (i+1) _ b' h,BO]
   ·cases hb1
theorem MJ (e:List ae) (he:e.length < 1000):nZ e=some (D7 e):=by
 unfold nZ D7;rw [Rq];by_cases h0:e.length=0
 ·simp [h0]
 ·have h0':decide ((e.length:Int) > 0)=true:=by simp;omega
  rw [if_pos h0',if_neg h0];by_cases h4:40 < e.length
  ·have:decide ((e.length:Int)≤40)=false:=by simp;omega
   rw [this,if_pos h4];rfl
  ·have:decide ((e.length:Int)≤40)=true:=by simp;omega
   rw [this,if_neg h4];simp only [if_true,Option.bind_some,not_true,if_false,Lc (show e.length≤16777216 by omega)];obtain ⟨k,b',h1,h2,h3⟩:=Tm e he;rw [h1];simp only [Option.bind_some];cases hs:dJ nS 0 e (List.replicate e.length 0) with
   | inl c=>simp only;rw [if_pos (h3 c hs)]
   | inr b =>
    have:=h2 b hs;subst this;have hl:=BC _ _ _ _ hs;simp only [List.length_replicate] at hl;obtain ⟨k2,h5⟩:=VF (b:=b') (N:=e.length) (by omega) hl (by omega);simp only [not_true,if_false,h5,Option.bind_some]
end Go.Sh
set_option linter.all false
namespace Go.Sh
open Go.Lx
theorem Va (i N:Nat) (h:i < N) (hN:N < 1000):iW (decide ((i:Int) < w ((N:Int) - 1)))=if i+1=N then 0 else 1:=by
 rw [qo (by omega) (by omega)];unfold iW;by_cases e:i+1=N
 ·have:decide ((i:Int) < (N:Int) - 1)=false:=by simp;omega
  simp [this,e]
 ·have:decide ((i:Int) < (N:Int) - 1)=true:=by simp;omega
  simp [this,e]
theorem PL (e:List ae) (b:List Int) (hb:b.length=e.length) (hl:e.length < 1000):dG (aY.s4 e b) 0=some (if sF e.length 0 b=0 then .inl () else .inr (sF e.length 0 b)):=by
 rw [iy (step:=aY.s4 e b) b (fun i (_:Unit)=>i) (fun (r:Int)=>Sum.inr r) (fun _=>Sum.inl ()) (fun i b x=>if ((i+1=e.length∧x=0)∨(i+1≠e.length∧x=1)) then .inr b else .inl 3) (fun _ _=>True) rfl ?_ ?_ trivial (by omega)]
 ·rw [Gx];rcases zf e.length b 0 with h | h
  ·rw [h];rfl
  ·rw [h];rfl
 ·intro i hi u _;refine ⟨?_,fun _ _=>trivial⟩;simp only [aY.s4,eP (show i < e.length by omega),if_true,fK hi,Option.bind_some];rw [Va i e.length (by omega) hl];by_cases e1:i+1=e.length
  ·by_cases e2:b[i]=0
   ·simp only [e1,e2,if_true,not_true,if_false,true_and,true_or];rw [wn (by omega)];rw [← e1]
   ·simp [e1,e2]
  ·by_cases e2:b[i]=1
   ·simp only [e1,e2,if_true,not_true,if_false,ne_eq,not_false_eq_true,true_and,or_true];rw [wn (by omega)]
   ·simp [e1,e2]
 ·intro u _;have:((b.length:Nat):Int)=(e.length:Int):=by omega
  rw [this];simp only [aY.s4,bu,if_false]
theorem QN {i:Nat} {b:List Int} {n:ae} {a8:Bool×Bool×Bool×Bool×Bool×Bool} (hi:i < b.length) (hb:b.length < 1000) (h:a8.2.2.2.2.2=true→aU n.B 0 ((i:Int) - 1)=true) (b0:List Int) (h0:b0.length=b.length) :
  aY.j3 ((i:Int),b) n a8 b0=some (.inl (((i+1:Nat):Int),if a8.2.2.2.2.2=true then bump b0 n.B else b0)):=by
 unfold aY.j3;cases ha:a8.2.2.2.2.2 with
 | true =>
  have hr:=jX.1 (h ha);simp only [if_true];rw [at_in (d:=0) hr.1 (by omega),wn (by omega)];rfl
 | false=>simp only [Bool.false_eq_true,if_false];rw [wn (by omega)]
theorem VG {i:Nat} {b:List Int} {n:ae} {a8:Bool×Bool×Bool×Bool×Bool×Bool} (hi:i < b.length) (hb:b.length < 1000)
  (hops:bY n=(if a8.2.2.2.2.1=true then [n.A] else [])++(if a8.2.2.2.2.2=true then [n.B] else []))
  (hcl:clean n=!(((((((!a8.1)&&(n.Value != 0)) || ((!a8.2.1)&&(n.Var != 0))) || ((!a8.2.2.1)&&(decide ((n.Subscripts.length:Int) > 0)))) || ((!a8.2.2.2.1)&&(decide ((n.Forms.length:Int) > 0)))) || ((!a8.2.2.2.2.1)&&(n.A != 0))) || ((!a8.2.2.2.2.2)&&(n.B != 0)))) (hk:aU n.Kind 0 9=true) :
  aY.j2 ((i:Int),b) n a8=some (match nS i b n with | .inl c => .inr (.inr c) | .inr b' => .inl (((i+1:Nat):Int),b')):=by
 unfold aY.j2 nS Lu;simp only [hk,not_true,if_false];have hw:w ((i:Int) - 1)=(i:Int) - 1:=qo (by omega) (by omega);have hX:(((((((!a8.1)&&(n.Value != 0)) || ((!a8.2.1)&&(n.Var != 0))) || ((!a8.2.2.1)&&(decide ((n.Subscripts.length:Int) > 0)))) || ((!a8.2.2.2.1)&&(decide ((n.Forms.length:Int) > 0)))) || ((!a8.2.2.2.2.1)&&(n.A != 0))) || ((!a8.2.2.2.2.2)&&(n.B != 0)))=!(clean n):=by rw [hcl,Bool.not_not]
 by_cases hc:clean n=true
 ·rw [if_neg (by rw [hX,hc];simp)];simp only [FN,hw];unfold ML Pg;rw [hops,hc];obtain ⟨a1,a2,a3,a4,a5,a6⟩:=a8;simp only at *
  cases a5<;>cases a6
  ·simp;rw [QN hi hb (by simp) b rfl];simp
  ·by_cases hB:aU n.B 0 ((i:Int) - 1)=true
   ·simp [hB];rw [QN hi hb (by simp [hB]) b rfl];simp
   ·simp [hB]
  ·by_cases hA:aU n.A 0 ((i:Int) - 1)=true
   ·have hr:=jX.1 hA;simp [hA];rw [at_in (d:=0) hr.1 (by omega)];simp only [Option.bind_some];rw [QN hi hb (by simp) _ (by simp)];simp [bump]
   ·simp [hA]
  ·by_cases hA:aU n.A 0 ((i:Int) - 1)=true
   ·by_cases hB:aU n.B 0 ((i:Int) - 1)=true
    ·have hr:=jX.1 hA;simp [hA,hB];rw [at_in (d:=0) hr.1 (by omega)];simp only [Option.bind_some];rw [QN hi hb (by simp [hB]) _ (by simp)];simp [bump]
    ·simp [hA,hB]
   ·simp [hA]
 ·have:clean n=false:=eq_false_of_ne_true hc;rw [if_pos (by rw [hX,this];rfl)];simp [this]
theorem kinds {k:Int} (h:aU k 0 9=true):k=0∨k=1∨k=2∨k=3∨k=4∨k=5∨k=6∨k=7∨k=8∨k=9:=by
 have:=jX.1 h;omega
theorem MM {e:List ae} {i:Nat} (hi:i < e.length) (he:e.length < 1000) {b:List Int} (hb:b.length=e.length) :
  aY.s1 e ((i:Int),b)=some (match nS i b e[i] with | .inl c => .inr (.inr c) | .inr b' => .inl (((i+1:Nat):Int),b')):=by
 simp only [aY.s1,eP hi,if_true,fK hi,Option.bind_some,FN];generalize e[i]=n;by_cases hk:aU n.Kind 0 9=true
 ·simp only [hk,not_true,if_false];have key:=fun (a8:Bool×Bool×Bool×Bool×Bool×Bool) h1 h2=>VG (i:=i) (b:=b) (n:=n) (a8:=a8) (by omega) (by omega) h1 h2 hk
  have hz:∀ m:Nat,decide ((m:Int) > 0)=!((m:Int)==0):=by
   intro m;by_cases h:m=0
   ·subst h;rfl
   ·have h1:decide ((m:Int) > 0)=true:=by simp;omega
    have h2:((m:Int)==0)=false:=by simp;exact h
    rw [h1,h2];rfl
  have hsub:=hz n.Subscripts.length;have hfor:=hz n.Forms.length;rcases kinds hk with q | q | q | q | q | q | q | q | q | q<;>simp only [q,if_true,if_false,show (1:Int)≠0 by omega,show ((2:Int)=0)=False by simp,show ((2:Int)=1)=False by simp,show ((2:Int)=7)=False by simp,show ((2:Int)=8)=False by simp,show ((2:Int)=9)=False by simp,Int.reduceEq] <;>
   (refine key _ ?_ ?_
    ·simp [bY,aS,q]
    ·unfold clean;rw [hsub,hfor];generalize ((n.Subscripts.length:Int)==0)=u1;generalize ((n.Forms.length:Int)==0)=u2;simp only [aS,q,bne];generalize (n.Value==0)=u3;generalize (n.Var==0)=u4;generalize (n.A==0)=u5;generalize (n.B==0)=u6;revert u1 u2 u3 u4 u5 u6;decide)
 ·simp only [hk,not_false_eq_true,if_true];unfold nS Lu;simp [hk]
theorem Gu (e:List ae) (he:e.length < 1000):aY e=some (D7 e):=by
 unfold aY D7;by_cases h0:e.length=0
 ·simp [h0]
 ·rw [if_neg (by omega),if_neg h0];by_cases h4:40 < e.length
  ·rw [if_pos (by omega),if_pos h4]
  ·rw [if_neg (by omega),if_neg h4];rw [Lc (by omega)];simp only [Option.bind_some];rw [iy (step:=aY.s1 e) e (fun i b=>(i,b)) (fun r=>Sum.inr r) (fun b=>Sum.inl b) nS (fun _ b=>b.length=e.length) (a:=List.replicate e.length 0) rfl ?_ ?_ (by simp) (by omega)]
   ·cases hs:dJ nS 0 e (List.replicate e.length 0) with
    | inl c=>rfl
    | inr b =>
     have hl:=BC _ _ _ _ hs;simp only [List.length_replicate] at hl;simp only [Option.bind_some];rw [PL e b hl he];rcases zf e.length b 0 with h | h<;>rw [h]<;>rfl
   ·intro i hi b hb;refine ⟨?_,?_⟩
    ·rw [MM hi he hb];cases nS i b e[i]<;>rfl
    ·intro b' h;unfold nS at h;split at h
     ·cases h;rw [BO];exact hb
     ·cases h
   ·intro b hb;simp only [aY.s1,bu,if_false]
end Go.Sh
set_option linter.all false
namespace Go.Sh
open Go.Lx
def NG {ρ τ β γ:Type} (π:ρ→τ) (R:β→γ→Prop):Sum ρ β→Sum τ γ→Prop
 | .inl r, .inl t=>t=π r
 | .inr b, .inr c=>R b c
 | _,_=>False
theorem Ig {α β γ ρ τ:Type} {f:Nat→β→α→Sum ρ β} {g:Nat→γ→α→Sum τ γ} (π:ρ→τ) (R:Nat→β→γ→Prop) (e:List α)
  (h:∀ i (hi:i < e.length) b c,R i b c→NG π (R (i+1)) (f i b e[i]) (g i c e[i])) :
  ∀ (ys:List α) (i:Nat) (b:β) (c:γ),e.drop i=ys→i≤e.length→R i b c→NG π (R e.length) (dJ f i ys b) (dJ g i ys c)
 | [],i,b,c,hd,hi,hR=>by
  have:i=e.length:=by have:=congrArg List.length hd;simp at this;omega
  subst this;exact hR
 | y::ys,i,b,c,hd,hi,hR=>by
  have hlt:i < e.length:=by have:=congrArg List.length hd;simp at this;omega
  have hy:e[i]=y∧e.drop (i+1)=ys:=by
   rw [List.drop_eq_getElem_cons hlt] at hd;injection hd with h1 h2
   exact ⟨h1,h2⟩
  have h1:=h i hlt b c hR;rw [hy.1] at h1;simp only [dJ];cases hf:f i b y with
  | inl r =>
   rw [hf] at h1;cases hg:g i c y with
   | inl t=>rw [hg] at h1;exact h1
   | inr c'=>rw [hg] at h1;exact h1.elim
  | inr b' =>
   rw [hf] at h1;cases hg:g i c y with
   | inl t=>rw [hg] at h1;exact h1.elim
   | inr c'=>rw [hg] at h1;exact Ig π R e h ys (i+1) b' c' hy.2 hlt h1
theorem IJ:∀ (xs:List ae) (i:Nat) (b b':List Int),dJ nS i xs b = .inr b'→∀ k (hk:k < xs.length),Lu (i+k) xs[k]=0
 | [],i,b,b',h,k,hk=>by simp at hk
 | x::xs,i,b,b',h,k,hk=>by
  simp only [dJ] at h;cases hs:nS i b x with
  | inl c=>rw [hs] at h;cases h
  | inr b1 =>
   rw [hs] at h;have h0:Lu i x=0:=by unfold nS at hs;split at hs;assumption;cases hs
   cases k with
   | zero=>simpa using h0
   | succ k =>
    have:=IJ xs (i+1) b1 b' h k (by simpa using hk);rw [show i+1+k=i+(k+1) by omega] at this;simpa using this
structure BR (e:List ae):Prop where
 pos:0 < e.length
 len:e.length≤40
 node:∀ i (hi:i < e.length),Lu i e[i]=0
 use:∃ b,dJ nS 0 e (List.replicate e.length 0) = .inr b∧sF e.length 0 b=0
theorem Ou:∀ (xs:List ae) (i:Nat) (b:List Int) (c:Int),dJ nS i xs b = .inl c→c≠0
 | [],i,b,c,h=>by cases h
 | x::xs,i,b,c,h=>by
  simp only [dJ] at h;cases hs:nS i b x with
  | inl c'=>rw [hs] at h;cases h;unfold nS at hs;split at hs;cases hs;cases hs;assumption
  | inr b1=>rw [hs] at h;exact Ou xs (i+1) b1 c h
theorem JH {e:List ae} (h:D7 e=0):BR e:=by
 unfold D7 at h;split at h
 ·cases h
 ·rename_i h0
  split at h
  ·cases h
  ·rename_i h4
   cases hs:dJ nS 0 e (List.replicate e.length 0) with
   | inl c=>rw [hs] at h;exact absurd h (Ou _ _ _ _ hs)
   | inr b =>
    rw [hs] at h;exact ⟨by omega,by omega,fun i hi=>by have:=IJ e 0 _ b hs i hi;simpa using this,b,hs,h⟩
structure Fg (i:Nat) (n:ae):Prop where
 kind:aU n.Kind 0 9=true
 ops:ML i n=true
 cl:clean n=true
theorem Tf {i:Nat} {n:ae} (h:Lu i n=0):Fg i n:=by
 unfold Lu at h;split at h
 ·cases h
 ·rename_i h1
  split at h
  ·rename_i h2
   simp only [Bool.and_eq_true] at h2;exact ⟨by simpa using h1,h2.1,h2.2⟩
  ·cases h
theorem Fg.A {i:Nat} {n:ae} (h:Fg i n) (hk:n.Kind=7∨aS n.Kind=true):0≤n.A∧n.A < i:=by
 have h2:=h.ops;unfold ML bY at h2;rcases hk with q | q
 ·simp [q,aS] at h2;have:=jX.1 h2;omega
 ·simp [q] at h2;have:=jX.1 h2.1;omega
theorem Fg.B {i:Nat} {n:ae} (h:Fg i n) (hk:aS n.Kind=true):0≤n.B∧n.B < i:=by
 have h2:=h.ops;unfold ML bY at h2;simp [hk] at h2;have:=jX.1 h2.2;omega
theorem Hw {n:ae} (hk:aU n.Kind 0 9=true) (h0:n.Kind≠0) (h1:n.Kind≠1) (h7:n.Kind≠7) (h8:n.Kind≠8) (h9:n.Kind≠9):aS n.Kind=true:=by
 have:=jX.1 hk;unfold aS;simp;omega
def AY:ay:=ay.mk [] [] false
def xG (l:List ag) (v:Int) (q:List aj):ay×Int :=
 match at_ l v with
 | none=>(AY,6)
 | some a=>((nP a.Bounds q).1,if (nP a.Bounds q).2=0 then (if (nP a.Bounds q).1.Offsets.length≤60 then 0 else 8) else (nP a.Bounds q).2)
theorem Gz {α:Type} {xs:List α} {k:Int}:at_ xs k=none↔¬ aU k 0 ((xs.length:Int) - 1)=true:=by
 rw [jX];unfold at_;by_cases h:0≤k
 ·rw [if_pos h,List.getElem?_eq_none_iff];omega
 ·rw [if_neg h];simp;omega
theorem Rt {l:List ag} {v:Int} {q:List aj} (hl:l.length < 1000) (hq:∀ s,s∈q→s.List.length < 16777216):jW l v q=some (xG l v q):=by
 unfold jW xG;rw [qo (by omega) (by omega)];cases ha:at_ l v with
 | none=>rw [if_pos (Gz.1 ha)];rfl
 | some a =>
  have:aU v 0 ((l.length:Int) - 1)=true:=by
   have h1:=mt Gz.2 (by rw [ha];simp:¬ at_ l v=none);simpa using h1
  rw [if_neg (by simp [this])];simp only [Option.bind_some,Je a.Bounds q hq,qc,VU];by_cases h1:(nP a.Bounds q).1.Offsets.length≤60
  ·have:decide (((nP a.Bounds q).1.Offsets.length:Int)≤60)=true:=by simp;omega
   simp only [this,h1,if_true]
  ·have:decide (((nP a.Bounds q).1.Offsets.length:Int)≤60)=false:=by simp;omega
   simp only [this,h1,if_false,Bool.false_eq_true]
def iC (l:List ag) (i:Nat) (out:List (List Int)) (n:ae):Sum Int (List (List Int)) :=
 if n.Kind=0 then (if aU n.Value (-2147483648) 2147483647=true then .inr (out++[[]]) else .inl 2)
 else if n.Kind=1 then (if (xG l n.Var n.Subscripts).2=0 then .inr (out++[(xG l n.Var n.Subscripts).1.Extents]) else .inl (xG l n.Var n.Subscripts).2)
 else if n.Kind=7 then .inr (out++[out.getD n.A.toNat []])
 else if out.getD n.A.toNat []≠[]∧out.getD n.B.toNat []≠[]∧out.getD n.A.toNat []≠out.getD n.B.toNat [] then .inl 10
 else .inr (out++[if out.getD n.A.toNat []=[] then out.getD n.B.toNat [] else out.getD n.A.toNat []])
def shE (l:List ag) (e:List ae):Sum Int (List (List Int)):=dJ (iC l) 0 e []
def odd (n:ae):Bool:=(n.Kind==8) || (n.Kind==9)
def tJ (l:List ag) (e:List ae):Int :=
 if D7 e≠0 then D7 e else if e.any odd=true then 15 else match shE l e with | .inl c=>c | .inr _=>0
def Ov (l:List ag) (e:List ae):List (List Int):=match shE l e with | .inl _=>[] | .inr out=>out
theorem zU {l:List ag} {i:Nat} {out out':List (List Int)} {n:ae} (h:iC l i out n = .inr out'):out'.length=out.length+1:=by
 unfold iC at h
 repeat' split at h
 all_goals first | (cases h;simp) | (cases h;done)
theorem NL {l:List ag} {i:Nat} {out:List (List Int)} {n:ae} {c:Int} (h:iC l i out n = .inl c):c≠0:=by
 unfold iC at h
 repeat' split at h
 all_goals first | (cases h;first | assumption | simp) | (cases h;done)
def Small (e:List ae):Prop:=e.length < 1000∧∀ n,n∈e→∀ s,s∈n.Subscripts→s.List.length < 16777216
theorem Ud {a b:List Int} (ha:a.length < 16777216):slices_Equal_int a b=some (a==b):=by
 unfold slices_Equal_int;by_cases h:a.length=b.length
 ·rw [if_neg (by omega)];rw [iy (step:=slices_Equal_int.s1 a b) a (fun i (_:Unit)=>i) (fun (r:Bool)=>Sum.inr r) (fun _=>Sum.inl ()) (fun i u x=>if x=b.getD i 0 then .inr u else .inl false) (fun _ _=>True) rfl ?_ ?_ trivial (by omega)]
  ·have key:∀ (xs ys:List Int) (i:Nat),b.drop i=ys→xs.length=ys.length→dJ (ρ:=Bool) (fun i (u:Unit) x=>if x=b.getD i 0 then .inr u else .inl false) i xs ()=if xs=ys then .inr () else .inl false:=by
    intro xs
    induction xs with
    | nil=>intro ys i _ hy;cases ys with | nil=>rfl | cons _ _=>simp at hy
    | cons x xs ih =>
     intro ys i hd hy;cases ys with
     | nil=>simp at hy
     | cons y ys =>
      have hlt:i < b.length:=by have:=congrArg List.length hd;simp at this;omega
      rw [List.drop_eq_getElem_cons hlt] at hd;injection hd with h1 h2
      simp only [dJ];have e1:b.getD i 0=y:=by rw [List.getD_eq_getElem?_getD,List.getElem?_eq_getElem hlt];exact h1
      rw [e1];by_cases hx:x=y
      ·simp only [hx,if_true];rw [ih ys (i+1) h2 (by simpa using hy)];simp
      ·simp [hx]
   rw [key a b 0 (by simp) h];by_cases e:a=b
   ·simp [e]
   ·have:(a==b)=false:=by simpa using e
    simp [e,this]
  ·intro i hi u _;refine ⟨?_,fun _ _=>trivial⟩;simp only [slices_Equal_int.s1,eP hi,if_true,fK hi,fK (show i < b.length by omega),Option.bind_some];have e1:b.getD i 0=b[i]:=by rw [List.getD_eq_getElem?_getD,List.getElem?_eq_getElem (by omega)];rfl
   rw [e1];by_cases hx:a[i]=b[i]
   ·simp only [hx,not_true,if_false,if_true];rw [wn (by omega)]
   ·simp [hx]
  ·intro u _;simp only [slices_Equal_int.s1,bu,if_false]
 ·rw [if_pos (by omega)];have:(a==b)=false:=by simp;intro q;exact h (by rw [q])
  rw [this]
end Go.Sh
set_option linter.all false
namespace Go.Sh
open Go.Lx
theorem TV (e:List ae) (he:e.length < 1000):bz e=some (e.any odd):=by
 unfold bz aB;obtain ⟨k,hk⟩:=vU (step:=aB.s1 e) e odd (fun i=>Sum.inr i) (Sum.inl ()) (s:=0) rfl (fun i hi=>by
  simp only [aB.s1,eP hi,if_true,fK hi,Option.bind_some,lw];by_cases o:odd e[i]=true
  ·have:((e[i].Kind==8) || (e[i].Kind==9))=true:=o;simp only [this,o,if_true]
  ·have:((e[i].Kind==8) || (e[i].Kind==9))=false:=eq_false_of_ne_true o;simp only [this,o,if_false,Bool.false_eq_true];rw [wn (by omega)]) (by simp only [aB.s1,bu,if_false]) (by omega)
 rw [hk];by_cases h:e.any odd=true
 ·simp only [h,if_true,Option.bind_some];simp
 ·have h':e.any odd=false:=eq_false_of_ne_true h;simp only [h',Bool.false_eq_true,if_false,Option.bind_some];rfl
theorem O9 (e:List ae) (he:e.length < 1000):dG (dV.s1 e) 0=some (if e.any odd=true then .inr ([],15) else .inl ()):=by
 obtain ⟨k,hk⟩:=vU (step:=dV.s1 e) e odd (fun i=>Sum.inr (([]:List (List Int)),(15:Int))) (Sum.inl ()) (s:=0) rfl (fun i hi=>by
  simp only [dV.s1,eP hi,if_true,fK hi,Option.bind_some];unfold odd;by_cases h8:e[i].Kind=8
  ·simp [h8]
  ·by_cases h9:e[i].Kind=9
   ·simp [h9]
   ·simp only [h8,h9,if_false];have e8:(e[i].Kind==8)=false:=by simpa using h8
    have e9:(e[i].Kind==9)=false:=by simpa using h9
    simp only [e8,e9,Bool.or_false,Bool.false_eq_true,if_false];rw [wn (by omega)]) (by simp only [dV.s1,bu,if_false]) (by omega)
 rw [hk]
structure Nod (i:Nat) (n:ae):Prop where
 ok:Fg i n
 k8:n.Kind≠8
 k9:n.Kind≠9
theorem EQ {e:List ae} (F:BR e) (ho:e.any odd=false) (i:Nat) (hi:i < e.length):Nod i e[i]:=by
 have:=List.any_eq_false.1 ho e[i] (List.getElem_mem hi);unfold odd at this;simp at this;exact ⟨Tf (F.node i hi),this.1,this.2⟩
theorem Qx {l:List ag} {n:ae} {o:List (List Int)} {j:Int} (hl:l.length < 1000) (hq:∀ s,s∈n.Subscripts→s.List.length < 16777216) (hlen:o.length < 1000) :
  (if ¬ ((cO n.Var 0 (w ((l.length:Int) - 1)))=true) then (some (.inr (.inr (([]:List (List Int)),6))):Option (Sum (Int×List (List Int)) (Sum (List (List Int)) ((List (List Int))×Int))))
    else
     (at_ l n.Var).bind fun x19 =>
     (bJ x19.Bounds n.Subscripts).bind fun x20 =>
     if ¬ x20.2=0 then
      some (.inr (.inr (([]:List (List Int)),x20.2)))
     else
      if (x20.1.Offsets.length:Int) > 60 then
       some (.inr (.inr (([]:List (List Int)),8)))
      else
       (app o ([x20.1.Extents]:List (List Int))).bind fun x23 =>
       some (.inl (j,x23)))=some (if (xG l n.Var n.Subscripts).2=0 then .inl (j,o++[(xG l n.Var n.Subscripts).1.Extents]) else .inr (.inr ([],(xG l n.Var n.Subscripts).2))):=by
 rw [FN,qo (by omega) (by omega)];unfold xG;cases ha:at_ l n.Var with
 | none=>rw [if_pos (Gz.1 ha)];rfl
 | some a =>
  have:aU n.Var 0 ((l.length:Int) - 1)=true:=by
   have h1:=mt Gz.2 (by rw [ha];simp:¬ at_ l n.Var=none);simpa using h1
  rw [if_neg (by simp [this])];simp only [Option.bind_some,yG a.Bounds n.Subscripts hq];by_cases h2:(nP a.Bounds n.Subscripts).2=0
  ·simp only [h2,not_true,if_false,if_true];by_cases h3:(nP a.Bounds n.Subscripts).1.Offsets.length≤60
   ·rw [if_neg (by omega),gB (by omega)];simp [h3]
   ·rw [if_pos (by omega)];simp [h3]
  ·simp [h2]
theorem nH {b:List (List Int)} (k:Nat) (h:∀ x,x∈b→x.length≤7):(b.getD k []).length≤7:=by
 rw [List.getD_eq_getElem?_getD];cases hk:b[k]? with
 | none=>simp
 | some x=>exact h x (List.mem_of_getElem? hk)
theorem Bg {l:List ag} {v:Int} {q:List aj} (h:(xG l v q).2=0):∃ a,at_ l v=some a∧Sct a.Bounds (xG l v q).1∧(xG l v q).1.Offsets.length≤60∧xG l v q=nP a.Bounds q:=by
 unfold xG at h ⊢;cases ha:at_ l v with
 | none=>rw [ha] at h;cases h
 | some a =>
  rw [ha] at h;simp only at h ⊢;by_cases h2:(nP a.Bounds q).2=0
  ·simp only [h2,if_true] at h ⊢;by_cases h3:(nP a.Bounds q).1.Offsets.length≤60
   ·exact ⟨a,rfl,NC h2,h3,by simp [h3,← h2]⟩
   ·simp [h3] at h
  ·simp [h2] at h
theorem Au {l:List ag} {i:Nat} {b b':List (List Int)} {n:ae} (h:iC l i b n = .inr b') (hb:∀ x,x∈b→x.length≤7):∀ x,x∈b'→x.length≤7:=by
 have key:∀ z:List Int,z.length≤7→∀ x,x∈b++[z]→x.length≤7:=by
  intro z hz x hx;simp only [List.mem_append,List.mem_singleton] at hx;rcases hx with hx | hx
  ·exact hb x hx
  ·rw [hx];exact hz
 unfold iC at h;split at h
 ·split at h
  ·cases h;exact key _ (by simp)
  ·cases h
 ·split at h
  ·split at h
   ·rename_i h2
    cases h;obtain ⟨a,_,hs,_⟩:=Bg h2;exact key _ hs.dims
   ·cases h
  ·split at h
   ·cases h;exact key _ (nH _ hb)
   ·split at h
    ·cases h
    ·cases h;refine key _ ?_;split
     ·exact nH _ hb
     ·exact nH _ hb
theorem QU {l:List ag} {e:List ae} (hl:l.length < 1000) (hs:Small e) (F:BR e) (ho:e.any odd=false) :
  dG (dV.s2 l e) (0,[])=some (match shE l e with | .inl c => .inr ([],c) | .inr out => .inl out):=by
 unfold shE;rw [iy (step:=dV.s2 l e) e (fun i b=>(i,b)) (fun (c:Int)=>Sum.inr (([]:List (List Int)),c)) (fun b=>Sum.inl b) (iC l) (fun i b=>b.length=i∧∀ x,x∈b→x.length≤7) (a:=[]) rfl ?_ ?_ ⟨rfl,by simp⟩ (by have:=hs.1;omega)]
 ·cases dJ (iC l) 0 e []<;>rfl
 ·intro i hi b ⟨hb,h7s⟩;have hN:=EQ F ho i hi;have hlt:=hs.1;refine ⟨?_,fun b' h=>⟨by rw [zU h,hb],Au h h7s⟩⟩;simp only [dV.s2,eP hi,if_true,fK hi,Option.bind_some];have hq:=hs.2 e[i] (List.getElem_mem hi);generalize e[i]=n at *
  unfold iC;by_cases h0:n.Kind=0
  ·simp only [h0,if_true];rw [show gX n.Value=aU n.Value (-2147483648) 2147483647 from FN _ _ _];by_cases hv:aU n.Value (-2147483648) 2147483647=true
   ·simp only [hv,not_true,if_false,if_true];rw [gB (by omega),wn (by omega)];rfl
   ·simp [hv]
  ·by_cases h1:n.Kind=1
   ·simp only [h0,h1,if_true,if_false,Int.reduceEq];rw [Qx hl hq (by omega),wn (by omega)];by_cases h2:(xG l n.Var n.Subscripts).2=0<;>simp [h2]
   ·by_cases h7:n.Kind=7
    ·simp only [h0,h1,h7,if_true,if_false,Int.reduceEq];have hA:=hN.ok.A (.inl h7);rw [at_in (d:=[]) hA.1 (by omega)];simp only [Option.bind_some];rw [gB (by omega),wn (by omega)];rfl
    ·simp only [h0,h1,h7,if_false];have hb2:=Hw hN.ok.kind h0 h1 h7 hN.k8 hN.k9;have hA:=hN.ok.A (.inr hb2);have hB:=hN.ok.B hb2;rw [at_in (d:=[]) hA.1 (by omega),at_in (d:=[]) hB.1 (by omega)];simp only [Option.bind_some];have hxs:=nH n.A.toNat h7s;have hys:=nH n.B.toNat h7s;generalize b.getD n.A.toNat []=x at *
     generalize b.getD n.B.toNat []=y at *
     have la:∀ z:List Int,z.length≤7→((app b [z]).bind fun x35=>(some (.inl ((w ((i:Int)+1)),x35)):Option (Sum (Int×List (List Int)) (Sum (List (List Int)) ((List (List Int))×Int)))))=some (.inl (((i+1:Nat):Int),b++[z])):=by
      intro z _;rw [gB (by omega),wn (by omega)];rfl
     simp only [la x hxs,la y hys];cases x with
     | nil=>simp
     | cons x0 xr =>
      cases y with
      | nil=>simp;omega
      | cons y0 yr =>
       have e1:(decide (((x0::xr).length:Int) > 0)&&decide (((y0::yr).length:Int) > 0))=true:=by simp
       rw [if_pos e1,JQ (by omega) (by omega)];have e2:¬ (((x0::xr).length:Int)=0):=by simp;omega
       by_cases he:x0::xr=y0::yr
       ·simp [he]
       ·have:(x0::xr==y0::yr)=false:=by simpa using he
        simp only [Option.bind_some,this];simp [he]
 ·intro b hb;simp only [dV.s2,bu,if_false]
theorem Bl {l:List ag} {e:List ae} {out:List (List Int)} (h:shE l e = .inr out):out.length=e.length∧∀ x,x∈out→x.length≤7:=by
 have key:∀ (xs:List ae) (i:Nat) (b b':List (List Int)),dJ (iC l) i xs b = .inr b'→(∀ x,x∈b→x.length≤7)→b'.length=b.length+xs.length∧∀ x,x∈b'→x.length≤7:=by
  intro xs
  induction xs with
  | nil=>intro i b b' h hb;cases h;exact ⟨rfl,hb⟩
  | cons x xs ih =>
   intro i b b' h hb;simp only [dJ] at h;cases hf:iC l i b x with
   | inl c=>rw [hf] at h;cases h
   | inr b1 =>
    rw [hf] at h;have:=ih (i+1) b1 b' h (Au hf hb);rw [zU hf] at this;exact ⟨by rw [this.1];simp;omega,this.2⟩
 have:=key e 0 [] out h (by simp);exact ⟨by simpa using this.1,this.2⟩
theorem NV {l:List ag} {e:List ae} {c:Int} (h:shE l e = .inl c):c≠0:=by
 have key:∀ (xs:List ae) (i:Nat) (b:List (List Int)) (c:Int),dJ (iC l) i xs b = .inl c→c≠0:=by
  intro xs
  induction xs with
  | nil=>intro i b c h;cases h
  | cons x xs ih =>
   intro i b c h;simp only [dJ] at h;cases hf:iC l i b x with
   | inl c'=>rw [hf] at h;cases h;exact NL hf
   | inr b1=>rw [hf] at h;exact ih _ _ _ h
 exact key _ _ _ _ h
theorem IP {l:List ag} {e:List ae} (hl:l.length < 1000) (hs:Small e):dV l e=some (if tJ l e=0 then Ov l e else [],tJ l e):=by
 unfold dV tJ Ov;rw [Gu e hs.1];simp only [Option.bind_some];by_cases hf:D7 e=0
 ·simp only [hf,not_true,ne_eq,if_false];rw [O9 e hs.1];by_cases ho:e.any odd=true
  ·simp [ho]
  ·have ho':e.any odd=false:=eq_false_of_ne_true ho;simp only [ho',Bool.false_eq_true,if_false,Option.bind_some];rw [QU hl hs (JH hf) ho'];cases h:shE l e with
   | inl c=>simp [NV h]
   | inr out=>simp
 ·simp [hf]
def sec (l:List ag) (n:ae):ay:=if n.Kind=1 then (xG l n.Var n.Subscripts).1 else AY
structure FM (l:List ag) (e:List ae) (i:Nat) (b:List ay×List (List Int)) (out:List (List Int)):Prop where
 secs:b.1=(e.take i).map (sec l)++List.replicate (e.length - i) AY
 shs:b.2=out++List.replicate (e.length - i) []
 len:out.length=i
 small:∀ x,x∈out→x.length≤7
theorem CS {α:Type} (a:List α) (x d:α) {n i:Nat} (ha:a.length=i) (hi:i < n):(a++List.replicate (n - i) d).set i x=(a++[x])++List.replicate (n - (i+1)) d:=by
 have:n - i=(n - (i+1))+1:=by omega
 rw [this,List.replicate_succ,List.set_append_right _ _ (by omega),ha];simp
theorem FB {α:Type} (a:List α) (d:α) {k n:Nat} (hk:k < a.length):(a++List.replicate n d).getD k d=a.getD k d:=by
 rw [List.getD_eq_getElem?_getD,List.getD_eq_getElem?_getD,List.getElem?_append_left hk]
theorem QQ {α β:Type} (f:α→β) (e:List α) (i:Nat) (hi:i < e.length):(e.take (i+1)).map f=(e.take i).map f++[f e[i]]:=by
 rw [List.take_succ_eq_append_getElem hi,List.map_append];rfl
theorem RJ {l:List ag} {e:List ae} (hl:l.length < 1000) (hs:Small e) {i:Nat} (hi:i < e.length) (hN:Nod i e[i]) {b:List ay×List (List Int)} {out:List (List Int)} (R:FM l e i b out) :
  ∃ c b2 b3,ku i e[i] l e b.1 b.2=some (c,b2,b3)∧(match iC l i out e[i] with | .inl t=>c=t∧c≠0 | .inr out'=>c=0∧FM l e (i+1) (b2,b3) out'):=by
 obtain ⟨b2,b3⟩:=b;obtain ⟨r1,r2,r3,r4⟩:=R;simp only at r1 r2;have hlt:=hs.1;have h3l:b3.length=e.length:=by rw [r2];simp;omega
 have h2l:b2.length=e.length:=by rw [r1];simp;omega
 have hq:=hs.2 e[i] (List.getElem_mem hi);have tm:=QQ (sec l) e i hi;have mk:∀ (z:List Int),z.length≤7→e[i].Kind≠1→FM l e (i+1) (b2,b3.set i z) (out++[z]):=by
  intro z hz h1;refine ⟨?_,?_,by simp [r3],?_⟩
  ·simp only;rw [tm,r1];have:sec l e[i]=AY:=by unfold sec;rw [if_neg h1]
   rw [this];have:e.length - i=(e.length - (i+1))+1:=by omega
   rw [this,List.replicate_succ];simp
  ·simp only;rw [r2,CS out z [] r3 hi]
  ·intro x hx;simp only [List.mem_append,List.mem_singleton] at hx;rcases hx with hx | hx
   ·exact r4 x hx
   ·rw [hx];exact hz
 unfold ku iC;by_cases h0:e[i].Kind=0
 ·simp only [h0,if_true,qc,Option.bind_some];by_cases hv:aU e[i].Value (-2147483648) 2147483647=true
  ·simp only [hv,if_true];refine ⟨_,_,_,rfl,rfl,?_⟩;have:=mk [] (by simp) (by omega);rw [r2,CS out [] [] r3 hi] at this;rw [r2];have e1:e.length - i=(e.length - (i+1))+1:=by omega
   have e2:out++List.replicate (e.length - i) []=(out++[([]:List Int)])++List.replicate (e.length - (i+1)) []:=by rw [e1,List.replicate_succ];simp
   rw [e2];exact this
  ·simp only [hv,if_false];exact ⟨_,_,_,rfl,rfl,by simp⟩
 ·by_cases h1:e[i].Kind=1
  ·simp only [h0,h1,if_true,if_false,Int.reduceEq,Rt hl hq,Option.bind_some];rw [fK (by omega),fK (by omega)];simp only [Option.bind_some,Int.toNat_natCast];by_cases h2:(xG l e[i].Var e[i].Subscripts).2=0
   ·obtain ⟨a,_,hsc,_⟩:=Bg h2;simp only [h2,if_true];refine ⟨_,_,_,rfl,rfl,?_,?_,by simp [r3],?_⟩
    ·simp only;rw [tm,r1,CS _ _ AY (by simp;omega) hi];have:sec l e[i]=(xG l e[i].Var e[i].Subscripts).1:=by unfold sec;rw [if_pos h1]
     rw [this]
    ·simp only;rw [r2,CS out _ [] r3 hi]
    ·intro x hx;simp only [List.mem_append,List.mem_singleton] at hx;rcases hx with hx | hx
     ·exact r4 x hx
     ·rw [hx];exact hsc.dims
   ·simp only [h2,if_false];exact ⟨_,_,_,rfl,rfl,h2⟩
  ·by_cases h7:e[i].Kind=7
   ·have hA:=hN.ok.A (.inl h7);simp only [h0,h1,h7,if_true,if_false,Int.reduceEq];rw [at_in (d:=[]) hA.1 (by omega),fK (by omega)];simp only [Option.bind_some,Int.toNat_natCast];refine ⟨_,_,_,rfl,rfl,?_⟩;have e1:b3.getD e[i].A.toNat []=out.getD e[i].A.toNat []:=by rw [r2];exact FB out [] (by omega)
    rw [e1];exact mk _ (nH _ r4) h1
   ·have hb2:=Hw hN.ok.kind h0 h1 h7 hN.k8 hN.k9;have hA:=hN.ok.A (.inr hb2);have hB:=hN.ok.B hb2;simp only [h0,h1,h7,if_false];rw [at_in (d:=[]) hA.1 (by omega),at_in (d:=[]) hB.1 (by omega),fK (by omega)];simp only [Option.bind_some,Int.toNat_natCast];have e1:b3.getD e[i].A.toNat []=out.getD e[i].A.toNat []:=by rw [r2];exact FB out [] (by omega)
    have e2:b3.getD e[i].B.toNat []=out.getD e[i].B.toNat []:=by rw [r2];exact FB out [] (by omega)
    rw [e1,e2];have hxs:=nH e[i].A.toNat r4;have hys:=nH e[i].B.toNat r4;generalize out.getD e[i].A.toNat []=x at *
    generalize out.getD e[i].B.toNat []=y at *
    unfold qM;cases x with
    | nil=>simp [qc];exact ⟨_,_,_,⟨rfl,rfl,rfl⟩,rfl,mk _ hys h1⟩
    | cons x0 xr =>
     rw [if_neg (by simp;omega)];cases y with
     | nil=>simp [qc];exact ⟨_,_,_,⟨rfl,rfl,rfl⟩,rfl,mk _ hxs h1⟩
     | cons y0 yr =>
      rw [if_neg (by simp;omega),Ud (by omega)];by_cases he:x0::xr=y0::yr
      ·simp [he,qc];rw [← he];exact ⟨_,_,_,⟨rfl,rfl,rfl⟩,rfl,mk _ hxs h1⟩
      ·have:(x0::xr==y0::yr)=false:=by simpa using he
       simp only [Option.bind_some,this,qc];simp [he]
def c2F (l:List ag) (e:List ae) (i:Nat) (b:List ay×List (List Int)) (n:ae):Sum (Int×Int×List ay×List (List Int)) (List ay×List (List Int)) :=
 match ku i n l e b.1 b.2 with
 | some (c,b2,b3)=>if c=0 then .inr (b2,b3) else .inl ((i:Int),c,b2,b3)
 | none => .inr b
def Fq (l:List ag) (e:List ae):bI:=bI.mk e (e.map (sec l)) (Ov l e)
theorem I9 {l:List ag} {e:List ae} (hl:l.length < 1000) (hs:Small e):∃ x,lG l e=some (x,tJ l e)∧(tJ l e=0→x=some (Fq l e)):=by
 unfold lG tJ;rw [TV e hs.1,MJ e hs.1];simp only [Option.bind_some,qc,VU];have hlt:=hs.1;by_cases hf:D7 e=0
 ·simp only [hf,if_true,ne_eq,not_true,if_false];by_cases ho:e.any odd=true
  ·simp only [ho,Bool.not_true,Bool.false_eq_true,if_false,if_true];exact ⟨none,by simp,by simp⟩
  ·have ho':e.any odd=false:=eq_false_of_ne_true ho;have F:=JH hf;simp only [ho',Bool.not_false,if_true,not_true,if_false,Bool.false_eq_true,Lc (show e.length≤16777216 by omega),Option.bind_some];have step:∀ i (hi:i < e.length) b c,FM l e i b c→NG (fun (r:Int×Int×List ay×List (List Int))=>r.2.1) (FM l e (i+1)) (c2F l e i b e[i]) (iC l i c e[i]):=by
    intro i hi b c hR;obtain ⟨k,b2,b3,h1,h2⟩:=RJ hl hs hi (EQ F ho' i hi) hR;unfold c2F;rw [h1];cases hsh:iC l i c e[i] with
    | inl t=>rw [hsh] at h2;simp only [h2.2,if_false];exact h2.1.symm
    | inr out'=>rw [hsh] at h2;simp only [h2.1,if_true];exact h2.2
   have R0:FM l e 0 (List.replicate e.length AY,List.replicate e.length []) []:=⟨by simp,by simp,rfl,by simp⟩
   have sim:=Ig (f:=c2F l e) (g:=iC l) (fun r=>r.2.1) (FM l e) e step e 0 _ [] rfl (by omega) R0;have hloop:dG (aK.s1 e l e) (0,List.replicate e.length AY,List.replicate e.length [])=some (match dJ (c2F l e) 0 e (List.replicate e.length AY,List.replicate e.length []) with | .inl r => .inr r | .inr b => .inl b):=by
    rw [iy (step:=aK.s1 e l e) e (fun i b=>(i,b)) (fun r=>Sum.inr r) (fun b=>Sum.inl b) (c2F l e) (fun i b=>∃ c,FM l e i b c) (a:=(List.replicate e.length AY,List.replicate e.length [])) rfl ?_ ?_ ⟨_,R0⟩ (by omega)]
    ·cases dJ (c2F l e) 0 e (List.replicate e.length AY,List.replicate e.length [])<;>rfl
    ·rintro i hi b ⟨c,hR⟩
     have hst:=step i hi b c hR;obtain ⟨k,b2,b3,h1,h2⟩:=RJ hl hs hi (EQ F ho' i hi) hR;refine ⟨?_,?_⟩
     ·simp only [aK.s1,eP hi,if_true,fK hi,Option.bind_some];unfold c2F;rw [h1];simp only [Option.bind_some];by_cases hk:k=0
      ·simp only [hk,not_true,if_false,if_true];rw [wn (by omega)]
      ·simp only [hk,not_false_eq_true,if_true,if_false]
     ·intro b' hb';rw [hb'] at hst;cases hsh:iC l i c e[i] with
      | inl t=>rw [hsh] at hst;exact hst.elim
      | inr out'=>rw [hsh] at hst;exact ⟨out',hst⟩
    ·intro b hb;simp only [aK.s1,bu,if_false]
   unfold aK;rw [show (ay.mk [] [] false)=AY from rfl,hloop];simp only [Option.bind_some];unfold shE;cases hsc:dJ (c2F l e) 0 e (List.replicate e.length AY,List.replicate e.length []) with
   | inl r =>
    rw [hsc] at sim;cases hsh:dJ (iC l) 0 e [] with
    | inl t =>
     rw [hsh] at sim;have ht:t=r.2.1:=sim;have:=NV hsh;exact ⟨_,by rw [ht];rfl,fun h=>absurd h this⟩
    | inr out=>rw [hsh] at sim;exact sim.elim
   | inr b =>
    rw [hsc] at sim;cases hsh:dJ (iC l) 0 e [] with
    | inl t=>rw [hsh] at sim;exact sim.elim
    | inr out =>
     rw [hsh] at sim;have hR:FM l e e.length b out:=sim;refine ⟨_,rfl,fun _=>?_⟩;have h1:=hR.secs;have h2:=hR.shs;simp at h1 h2;have ho:Ov l e=out:=by unfold Ov shE;rw [hsh]
     simp only [Fq,ho,h1,h2]
 ·simp only [hf,if_false,not_false_eq_true,if_true,ne_eq];exact ⟨none,rfl,fun h=>h.elim⟩
end Go.Sh
set_option linter.all false
namespace Go.Sh
open Go.Lx
abbrev wr (x:Int):Int:=IntKind.i32.wrap x
def xQ (x:Int):Prop := -2147483648≤x∧x≤2147483647
theorem PN (x:Int):wr x=if 2147483648≤x % 4294967296 then x % 4294967296 - 4294967296 else x % 4294967296:=by
 simp only [wr,IntKind.wrap,IntKind.bits,IntKind.signed];simp
theorem VK (x:Int):xQ (wr x):=by
 rw [PN];unfold xQ;have:=Int.emod_nonneg x (b:=4294967296) (by omega);have:=Int.emod_lt_of_pos x (b:=4294967296) (by omega);split<;>omega
theorem UN {x:Int} (h:xQ x):wr x=x:=by
 rw [PN];unfold xQ at h;split<;>omega
theorem TY {a n:Int} (hn:1≤n) (hb:n≤8589934592):yz a n=some (a % n):=by
 unfold yz rem;rw [if_neg (by omega)];simp only [Option.bind_some];have e:=Int.tmod_eq_emod (a:=a) (b:=n);have m1:=Int.emod_nonneg a (b:=n) (by omega);have m2:=Int.emod_lt_of_pos a (b:=n) (by omega);unfold iW;by_cases h:a.tmod n < 0
 ·simp only [h,decide_true,if_true,Int.mul_one];rw [qo (n:=n) (by omega) (by omega)];by_cases hd:0≤a∨n ∣ a
  ·rw [if_pos hd] at e;omega
  ·rw [if_neg hd] at e;rw [qo (by omega) (by omega)];exact congrArg some (by omega)
 ·simp only [h,decide_false,Bool.false_eq_true,if_false,Int.mul_zero];have w0:w 0=0:=rfl;rw [w0,Int.add_zero];by_cases hd:0≤a∨n ∣ a
  ·rw [if_pos hd] at e;rw [qo (by omega) (by omega)];exact congrArg some (by omega)
  ·rw [if_neg hd] at e;omega
theorem zi {n:Int} (h0 : -4611686018427387905≤n) (h1:n≤4611686018427387905):oL n=some (wr n):=by
 unfold oL;rw [qo (by omega) (by omega),TY (by omega) (by omega)];simp only [Option.bind_some];rw [qo (by omega) (by omega),PN]
 congr 1
 split<;>omega
theorem UO {a b:Int} (ha:xQ a) (hb:xQ b) : -4611686018427387904≤a * b∧a * b≤4611686018427387904:=by
 unfold xQ at ha hb;have h1:a.natAbs≤2147483648:=by omega
 have h2:b.natAbs≤2147483648:=by omega
 have h3:(a * b).natAbs≤2147483648 * 2147483648:=by rw [Int.natAbs_mul];exact Nat.mul_le_mul h1 h2
 omega
def opV (k a b:Int):Int:=iF k a b
theorem QL (b:Bool):xQ (ji b):=by unfold ji xQ;split<;>omega
theorem UM (k a b:Int):xQ (opV k a b):=by
 unfold opV iF
 repeat' split
 all_goals first | exact VK _ | exact QL _
theorem Fz {k a b:Int} (ha:xQ a) (hb:xQ b):lY k a b=some (opV k a b):=by
 have hm:=UO ha hb;unfold lY opV iF;unfold xQ at ha hb;have tb:∀ c:Bool,iW c=ji c:=fun c=>rfl
 split
 ·rw [qo (by omega) (by omega),zi (by omega) (by omega)];rfl
 ·split
  ·rw [qo (by omega) (by omega),zi (by omega) (by omega)];rfl
  ·split
   ·rw [qo (by omega) (by omega),zi (by omega) (by omega)];rfl
   ·simp only [tb];split
    ·rfl
    ·split<;>rfl
theorem NM (a b c:Int):opV 7 a b=opV 7 a c:=by simp [opV,iF]
theorem EY {l:List ag} {i:Nat} {b b':List (List Int)} {n:ae} (h:iC l i b n = .inr b'):∃ z,b'=b++[z]:=by
 unfold iC at h
 repeat' split at h
 all_goals first | (cases h;exact ⟨_,rfl⟩) | (cases h;done)
theorem SE {l:List ag}:∀ (xs:List ae) (i:Nat) (b b':List (List Int)),dJ (iC l) i xs b = .inr b'→∃ t,b'=b++t
 | [],i,b,b',h=>by cases h;exact ⟨[],by simp⟩
 | x::xs,i,b,b',h=>by
  simp only [dJ] at h;cases hf:iC l i b x with
  | inl c=>rw [hf] at h;cases h
  | inr b1 =>
   rw [hf] at h;obtain ⟨t,rfl⟩:=SE xs (i+1) b1 b' h;obtain ⟨z,rfl⟩:=EY hf;exact ⟨z::t,by simp⟩
theorem SH {l:List ag}:∀ (xs:List ae) (i:Nat) (b b':List (List Int)),dJ (iC l) i xs b = .inr b'→b.length=i→∀ k (hk:k < xs.length),iC l (i+k) (b'.take (i+k)) xs[k] = .inr (b'.take (i+k+1))
 | [],i,b,b',h,hb,k,hk=>by simp at hk
 | x::xs,i,b,b',h,hb,k,hk=>by
  have h0:=h;simp only [dJ] at h;cases hf:iC l i b x with
  | inl c=>rw [hf] at h;cases h
  | inr b1 =>
   rw [hf] at h;have hl:=zU hf;cases k with
   | zero =>
    obtain ⟨t,rfl⟩:=SE xs (i+1) b1 b' h;obtain ⟨z,rfl⟩:=EY hf;simp only [Nat.add_zero,List.getElem_cons_zero];have e1:((b++[z])++t).take i=b:=by rw [List.append_assoc,List.take_append_of_le_length (by omega),List.take_of_length_le (by omega)]
    have e2:((b++[z])++t).take (i+1)=b++[z]:=by rw [List.take_append_of_le_length (by simp;omega),List.take_of_length_le (by simp;omega)]
    rw [e1,e2];exact hf
   | succ k =>
    have:=SH xs (i+1) b1 b' h (by omega) k (by simpa using hk);rw [show i+(k+1)=i+1+k by omega];simpa using this
theorem TT {l:List ag} {e:List ae} {out:List (List Int)} (h:shE l e = .inr out) (i:Nat) (hi:i < e.length):iC l i (out.take i) e[i] = .inr (out.take (i+1)):=by
 have:=SH e 0 [] out h rfl i hi;simpa using this
theorem Cb {b:List (List Int)} {i k:Nat} (hk:k < i):(b.take i).getD k []=b.getD k []:=by
 rw [List.getD_eq_getElem?_getD,List.getD_eq_getElem?_getD,List.getElem?_take,if_pos hk]
theorem Gl {b:List (List Int)} {i:Nat} (hi:i < b.length) {z:List Int} (h:b.take (i+1)=b.take i++[z]):b.getD i []=z:=by
 rw [List.take_succ_eq_append_getElem hi] at h;have:=List.append_cancel_left h;rw [List.getD_eq_getElem?_getD,List.getElem?_eq_getElem hi];simpa using this
theorem Qw {l:List ag} {e:List ae} {out:List (List Int)} (h:shE l e = .inr out) (F:BR e) (ho:e.any odd=false) {i:Nat} (hi:i < e.length) {j:Int} (hj:j∈bY e[i]) :
  0≤j∧j < i∧(out.getD j.toNat []=[]∨out.getD j.toNat []=out.getD i []):=by
 have hN:=EQ F ho i hi;have hl:=(Bl h).1;have hst:=TT h i hi;unfold bY at hj;unfold iC at hst;by_cases hb:aS e[i].Kind=true
 ·rw [if_pos hb] at hj;have hA:=hN.ok.A (.inr hb);have hB:=hN.ok.B hb;have hk:e[i].Kind≠0∧e[i].Kind≠1∧e[i].Kind≠7:=by unfold aS at hb;simp at hb;omega
  rw [if_neg hk.1,if_neg hk.2.1,if_neg hk.2.2,Cb (by omega),Cb (by omega)] at hst;split at hst
  ·cases hst
  ·rename_i hc
   have hlast:=Gl (by omega) (Sum.inr.inj hst).symm;rw [hlast];simp only [List.mem_cons,List.mem_nil_iff,or_false] at hj;rcases hj with rfl | rfl
   ·refine ⟨hA.1,hA.2,?_⟩;split
    ·rename_i q;exact .inl q
    ·exact .inr rfl
   ·refine ⟨hB.1,hB.2,?_⟩;split
    ·exact .inr rfl
    ·rename_i q
     by_cases q2:out.getD e[i].B.toNat []=[]
     ·exact .inl q2
     ·right;by_cases q3:out.getD e[i].A.toNat []=out.getD e[i].B.toNat []
      ·exact q3.symm
      ·exact absurd ⟨q,q2,q3⟩ hc
 ·rw [if_neg hb] at hj;split at hj
  ·rename_i h7
   have hA:=hN.ok.A (.inl h7);rw [if_neg (by omega),if_neg (by omega),if_pos h7,Cb (by omega)] at hst;have hlast:=Gl (by omega) (Sum.inr.inj hst).symm;simp only [List.mem_cons,List.mem_nil_iff,or_false] at hj;subst hj;exact ⟨hA.1,hA.2, .inr hlast.symm⟩
  ·simp at hj
theorem Nq {b:List Int} {n:ae} {j:Nat} (h:∀ k,k∈bY n→k.toNat≠j):(Pg b n).getD j 0=b.getD j 0:=by
 have key:∀ (ks:List Int) (b:List Int),(∀ k,k∈ks→k.toNat≠j)→(ks.foldl bump b).getD j 0=b.getD j 0:=by
  intro ks
  induction ks with
  | nil=>intro b _;rfl
  | cons k ks ih =>
   intro b hk;rw [List.foldl_cons,ih _ (fun x hx=>hk x (.tail _ hx))];have:=hk k (.head _);unfold bump;simp only [List.getD_eq_getElem?_getD,List.getElem?_set_ne this]
 exact key _ b h
theorem Jb:∀ (xs:List ae) (i:Nat) (b b':List Int) (j:Nat),dJ nS i xs b = .inr b'→(∀ n,n∈xs→∀ k,k∈bY n→k.toNat≠j)→b'.getD j 0=b.getD j 0
 | [],i,b,b',j,h,_=>by cases h;rfl
 | x::xs,i,b,b',j,h,hk=>by
  simp only [dJ] at h;cases hf:nS i b x with
  | inl c=>rw [hf] at h;cases h
  | inr b1 =>
   rw [hf] at h;rw [Jb xs (i+1) b1 b' j h (fun n hn=>hk n (.tail _ hn))];unfold nS at hf;split at hf
   ·cases hf;exact Nq (hk x (.head _))
   ·cases hf
theorem RV (N:Nat):∀ (xs:List Int) (i:Nat),sF N i xs=0→∀ k (hk:k < xs.length),i+k+1≠N→xs[k]=1
 | [],i,_,k,hk,_=>by simp at hk
 | x::xs,i,h,k,hk,hne=>by
  simp only [sF] at h;split at h
  ·rename_i hc
   cases k with
   | zero =>
    simp only [List.getElem_cons_zero];rcases hc with hc | hc
    ·omega
    ·exact hc.2
   | succ k =>
    have:=RV N xs (i+1) h k (by simpa using hk) (by omega);simpa using this
  ·cases h
theorem used {e:List ae} (F:BR e) (j:Nat) (hj:j+1 < e.length):∃ i,∃ hi:i < e.length,∃ k,k∈bY e[i]∧k.toNat=j:=by
 obtain ⟨b,h1,h2⟩:=F.use;have hl:=BC _ _ _ _ h1;simp only [List.length_replicate] at hl;have h3:=RV e.length b 0 h2 j (by omega) (by omega);refine Classical.byContradiction fun hn=>?_
 have h4:=Jb e 0 _ b j h1 (fun n hn2 k hk q=>by
  obtain ⟨i,hi,rfl⟩:=List.mem_iff_getElem.1 hn2;exact hn ⟨i,hi,k,hk,q⟩)
 rw [List.getD_eq_getElem?_getD,List.getElem?_eq_getElem (by omega)] at h4;simp [h3,List.getD_eq_getElem?_getD,List.getElem?_replicate] at h4;split at h4<;>simp at h4
theorem H8 {l:List ag} {e:List ae} {out:List (List Int)} (h:shE l e = .inr out) (F:BR e) (ho:e.any odd=false):∀ (d j:Nat),j+d+1=e.length→out.getD j []=[]∨out.getD j []=out.getD (e.length - 1) []
 | 0,j,hj=>by right;congr 1;omega
 | d+1,j,hj=>by
  obtain ⟨i,hi,k,hk,hkj⟩:=used F j (by omega);obtain ⟨k0,k1,k2⟩:=Qw h F ho hi hk;rw [hkj] at k2;have hd:∃ d',d'≤d∧i+d'+1=e.length:=⟨e.length - 1 - i,by omega,by omega⟩
  obtain ⟨d',hd1,hd2⟩:=hd;rcases k2 with k2 | k2
  ·exact .inl k2
  ·rw [k2];exact H8 h F ho d' i hd2
termination_by d=>d
end Go.Sh
set_option linter.all false
namespace Go.Sh
open Go.Lx
def pick (s:ay) (k:Int):Int:=if s.Extents=[] then s.Offsets.getD 0 0 else s.Offsets.getD k.toNat 0
def UU (l:List ag) (n:ae) (k:Int):Int :=
 match at_ l n.Var with
 | none=>0
 | some a=>a.Elements.getD (pick (xG l n.Var n.Subscripts).1 k).toNat 0
def Ji (l:List ag) (k:Int) (out:List Int) (n:ae):Int :=
 if n.Kind=0 then n.Value else if n.Kind=1 then UU l n k else opV n.Kind (out.getD n.A.toNat 0) (out.getD n.B.toNat 0)
def vals (l:List ag) (k:Int) (e:List ae):List Int:=e.foldl (fun out n=>out++[Ji l k out n]) []
def value (l:List ag) (e:List ae) (k:Int):Int:=(vals l k e).getD (e.length - 1) 0
def pR (l:List ag) (e:List ae):List Int:=(Ov l e).getD (e.length - 1) []
def OG (l:List ag):Prop:=l.length < 1000∧∀ a,a∈l→TZ a
structure JG (l:List ag) (e:List ae) (k:Int):Prop where
 st:OG l
 sm:Small e
 pl:tJ l e=0
 k0:0≤k
 k1:pR l e=[]∨k < P (pR l e)
theorem xI {l:List ag} {e:List ae} (h:tJ l e=0):BR e∧e.any odd=false∧shE l e = .inr (Ov l e):=by
 unfold tJ at h;by_cases hf:D7 e=0
 ·simp only [hf,ne_eq,not_true,if_false] at h;by_cases ho:e.any odd=true
  ·simp [ho] at h
  ·have ho':e.any odd=false:=eq_false_of_ne_true ho;simp only [ho',Bool.false_eq_true,if_false] at h;refine ⟨JH hf,ho',?_⟩;unfold Ov;cases hs:shE l e with
   | inl c=>rw [hs] at h;exact absurd h (NV hs)
   | inr out=>rfl
 ·simp [hf] at h
theorem isInt {x:Int} (h:bK x=true):xQ x:=by
 unfold bK aJ at h;simp at h;exact h
theorem JW {l:List ag} {e:List ae} {k:Int} (H:JG l e k) {i:Nat} (hi:i < e.length) (h1:e[i].Kind=1) :
  ∃ a,at_ l e[i].Var=some a∧(∀ q,q=(xG l e[i].Var e[i].Subscripts).1→lK q k=some (pick q k))∧0≤pick (xG l e[i].Var e[i].Subscripts).1 k∧pick (xG l e[i].Var e[i].Subscripts).1 k < a.Elements.length ∧
   xQ (UU l e[i] k)∧xG l e[i].Var e[i].Subscripts=nP a.Bounds e[i].Subscripts:=by
 obtain ⟨F,ho,hsh⟩:=xI H.pl;have hst:=TT hsh i hi;have hl:=(Bl hsh).1;unfold iC at hst;rw [if_neg (by omega),if_pos h1] at hst;split at hst
 ·rename_i h2
  have hlast:=Gl (by omega) (Sum.inr.inj hst).symm;obtain ⟨a,ha,sc,_,hse⟩:=Bg h2;have hva:TZ a:=by
   have:a∈l:=by
    unfold at_ at ha;split at ha
    ·exact List.mem_of_getElem? ha
    ·cases ha
   exact H.st.2 a this
  have hsz:pick (xG l e[i].Var e[i].Subscripts).1 k∈(xG l e[i].Var e[i].Subscripts).1.Offsets∧lK (xG l e[i].Var e[i].Subscripts).1 k=some (pick (xG l e[i].Var e[i].Subscripts).1 k):=by
   have hlen:=sc.len;generalize (xG l e[i].Var e[i].Subscripts).1=s at *
   unfold pick lK;have hn:((s.Extents.length:Int)=0)=(s.Extents=[]):=by cases s.Extents<;>simp<;>omega
   simp only [hn];by_cases hx:s.Extents=[]
   ·rw [hx] at hlen;simp [P] at hlen;simp only [hx,if_true];have h0:0 < s.Offsets.length:=by omega
    refine ⟨?_,?_⟩
    ·rw [List.getD_eq_getElem?_getD,List.getElem?_eq_getElem h0];exact List.getElem_mem h0
    ·have:=at_in (xs:=s.Offsets) (k:=0) (d:=0) (by omega) (by omega);rw [this];rfl
   ·simp only [hx,if_false];have hS:s.Extents=pR l e:=by
     have:=H8 hsh F ho (e.length - 1 - i) i (by omega);rw [hlast] at this;rcases this with q | q
     ·exact absurd q hx
     ·exact q
    have hk:k < s.Offsets.length:=by
     rcases H.k1 with q | q
     ·rw [← hS] at q;exact absurd q hx
     ·rw [← hS] at q;omega
    have hk0:=H.k0;refine ⟨?_,?_⟩
    ·rw [List.getD_eq_getElem?_getD,List.getElem?_eq_getElem (by omega)];exact List.getElem_mem _
    ·rw [at_in (d:=0) hk0 hk];rfl
  have hr:=sc.range _ hsz.1;have hle:=hva.len;refine ⟨a,ha,fun q hq=>by rw [hq];exact hsz.2,hr.1,by omega,?_,hse⟩;unfold UU;rw [ha];simp only;rw [List.getD_eq_getElem?_getD,List.getElem?_eq_getElem (by omega)];exact isInt (hva.int _ (List.getElem_mem _))
 ·cases hst
theorem V4 {l:List ag} {e:List ae} {k:Int} (H:JG l e k) {i:Nat} (hi:i < e.length) (h0:e[i].Kind=0):xQ e[i].Value:=by
 obtain ⟨F,ho,hsh⟩:=xI H.pl;have hst:=TT hsh i hi;unfold iC at hst;rw [if_pos h0] at hst;split at hst
 ·rename_i q;have:=jX.1 q;exact this
 ·cases hst
theorem GI {l:List ag} {e:List ae} {k:Int} (H:JG l e k) {i:Nat} (hi:i < e.length) (b:List Int):xQ (Ji l k b e[i]):=by
 unfold Ji;split
 ·rename_i h0;exact V4 H hi h0
 ·split
  ·rename_i h1;obtain ⟨a,_,_,_,_,h,_⟩:=JW H hi h1;exact h
  ·exact UM _ _ _
theorem getD_in {b:List Int} (k:Nat) (h:∀ x,x∈b→xQ x):xQ (b.getD k 0):=by
 rw [List.getD_eq_getElem?_getD];cases hk:b[k]? with
 | none=>simp [xQ]
 | some x=>exact h x (List.mem_of_getElem? hk)
theorem NP {b:List Int} {z:Int} (h:∀ x,x∈b→xQ x) (hz:xQ z):∀ x,x∈b++[z]→xQ x:=by
 intro x hx;simp only [List.mem_append,List.mem_singleton] at hx;rcases hx with hx | hx
 ·exact h x hx
 ·rw [hx];exact hz
theorem KZ (l:List ag) (k:Int) (e:List ae):(vals l k e).length=e.length:=by
 have key:∀ (xs:List ae) (b:List Int),(xs.foldl (fun out n=>out++[Ji l k out n]) b).length=b.length+xs.length:=by
  intro xs
  induction xs with
  | nil=>intro b;rfl
  | cons x xs ih=>intro b;rw [List.foldl_cons,ih];simp;omega
 have:=key e [];simpa [vals] using this
theorem Td {l:List ag} {e:List ae} {k:Int} (H:JG l e k):∀ x,x∈vals l k e→xQ x:=by
 have key:∀ (xs:List ae) (i:Nat) (b:List Int),e.drop i=xs→(∀ x,x∈b→xQ x)→∀ x,x∈xs.foldl (fun out n=>out++[Ji l k out n]) b→xQ x:=by
  intro xs
  induction xs with
  | nil=>intro i b _ hb;exact hb
  | cons x xs ih =>
   intro i b hd hb;have hlt:i < e.length:=by have:=congrArg List.length hd;simp at this;omega
   rw [List.drop_eq_getElem_cons hlt] at hd;injection hd with h1 h2
   rw [List.foldl_cons];refine ih (i+1) _ h2 (NP hb ?_);rw [← h1];exact GI H hlt b
 exact key e 0 [] rfl (by simp)
theorem MW {l:List ag} {e:List ae} {k:Int} (H:JG l e k):gU l e k=some (value l e k):=by
 obtain ⟨F,ho,hsh⟩:=xI H.pl;have hlt:=H.sm.1;unfold gU;rw [jZ (step:=gU.s1 l e k) e (fun i b=>(i,b)) (fun b=>b) (fun b n=>b++[Ji l k b n]) (fun i b=>b.length=i∧∀ x,x∈b→xQ x) (a:=[]) rfl ?_ ?_ ⟨rfl,by simp⟩ (by omega)]
 ·simp only [Option.bind_some];have hl:=KZ l k e;have hp:=F.pos
  show ((at_ (vals l k e) (w (((vals l k e).length:Int) - 1))).bind fun x20=>some x20)=_
  rw [qo (by omega) (by omega),at_in (d:=0) (by omega) (by omega)];simp only [Option.bind_some,value]
  congr 2
  omega
 ·rintro i hi b ⟨hb,hin⟩
  have hN:=EQ F ho i hi;refine ⟨?_,by simp [hb],NP hin (GI H hi b)⟩;simp only [gU.s1,eP hi,if_true,fK hi,Option.bind_some];have la:∀ z:Int,((app b [z]).bind fun x5=>(some (.inl ((w ((i:Int)+1)),x5)):Option (Sum (Int×List Int) (List Int))))=some (.inl (((i+1:Nat):Int),b++[z])):=by
   intro z;rw [gB (by omega),wn (by omega)];rfl
  by_cases h0:e[i].Kind=0
  ·simp only [h0,if_true,la,Ji]
  ·by_cases h1:e[i].Kind=1
   ·obtain ⟨a,ha,hof,g0,g1,_,hse⟩:=JW H hi h1;have hq:=H.sm.2 e[i] (List.getElem_mem hi);have hcell:rY l e[i] k=some (pick (xG l e[i].Var e[i].Subscripts).1 k):=by
     have:=hof _ rfl;unfold rY;rw [ha];simp only [Option.bind_some,yG a.Bounds e[i].Subscripts hq];rw [← hse];exact this
    simp only [h0,h1,if_true,if_false,Int.reduceEq,ha,Option.bind_some,hcell];rw [at_in (d:=0) g0 g1];simp only [Option.bind_some,la];simp only [Ji,h1,UU,ha,if_true,if_false,Int.reduceEq]
   ·by_cases h7:e[i].Kind=7
    ·have hA:=hN.ok.A (.inl h7);simp only [h0,h1,h7,if_true,if_false,Int.reduceEq];rw [at_in (d:=0) hA.1 (by omega)];simp only [Option.bind_some];rw [Fz (getD_in _ hin) (by simp [xQ])];simp only [Option.bind_some,la];simp only [Ji,h7,if_true,if_false,Int.reduceEq];rw [NM _ 0 (b.getD e[i].B.toNat 0)]
    ·have hb2:=Hw hN.ok.kind h0 h1 h7 hN.k8 hN.k9;have hA:=hN.ok.A (.inr hb2);have hB:=hN.ok.B hb2;simp only [h0,h1,h7,if_false];rw [at_in (d:=0) hA.1 (by omega),at_in (d:=0) hB.1 (by omega)];simp only [Option.bind_some];rw [Fz (getD_in _ hin) (getD_in _ hin)];simp only [Option.bind_some,la];simp only [Ji,h0,h1,if_false]
 ·rintro b ⟨hb,hin⟩
  simp only [gU.s1,bu,if_false]
theorem UV {n:ae} (h:clean n=true) (h7:n.Kind=7):n.B=0:=by
 unfold clean at h;simp [h7,aS] at h;exact h.1.1.2
theorem Ih {l:List ag} {e:List ae} {k:Int} (H:JG l e k):dR (some (Fq l e)) l k=some (value l e k):=by
 obtain ⟨F,ho,hsh⟩:=xI H.pl;have hlt:=H.sm.1;unfold dR;simp only [Option.bind_some,Fq];rw [Lc (by omega)];simp only [Option.bind_some];rw [jZ (step:=dR.s1 l k (bI.mk e (e.map (sec l)) (Ov l e))) e (fun i b=>(i,b++List.replicate (e.length - b.length) 0)) (fun b=>b++List.replicate (e.length - b.length) 0) (fun b n=>b++[Ji l k b n]) (fun i b=>b.length=i∧∀ x,x∈b→xQ x) (a:=[]) (by simp) ?_ ?_ ⟨rfl,by simp⟩ (by omega)]
 ·have hl:=KZ l k e;have hp:=F.pos
  show ((some (vals l k e++List.replicate (e.length - (vals l k e).length) 0)).bind fun z17=>(at_ z17 (w ((z17.length:Int) - 1))).bind fun x18=>some (w x18))=_
  rw [hl,Nat.sub_self,List.replicate_zero,List.append_nil];simp only [Option.bind_some];rw [qo (by omega) (by omega),at_in (d:=0) (by omega) (by omega)];simp only [Option.bind_some,value];have e1:(((vals l k e).length:Int) - 1).toNat=e.length - 1:=by omega
  rw [e1];have hv:=getD_in (e.length - 1) (Td H);unfold xQ at hv;rw [qo (by omega) (by omega)]
 ·rintro i hi b ⟨hb,hin⟩
  have hN:=EQ F ho i hi;refine ⟨?_,by simp [hb],NP hin (GI H hi b)⟩;have hbl:(b++List.replicate (e.length - b.length) (0:Int)).length=e.length:=by simp;omega
  have hset:∀ z:Int,(b++List.replicate (e.length - b.length) (0:Int)).set i z=(b++[z])++List.replicate (e.length - (b++[z]).length) 0:=by
   intro z;rw [hb,CS b z 0 hb hi];simp [hb]
  have hgetD:∀ j:Int,0≤j→j < i→(b++List.replicate (e.length - b.length) (0:Int)).getD j.toNat 0=b.getD j.toNat 0:=by
   intro j h0 h1;rw [List.getD_eq_getElem?_getD,List.getD_eq_getElem?_getD,List.getElem?_append_left (by omega)]
  simp only [dR.s1,eP hi,if_true,fK hi,Option.bind_some,Int.toNat_natCast,hset];rw [fK (show i < (b++List.replicate (e.length - b.length) (0:Int)).length by omega)];simp only [Option.bind_some];rw [wn (by omega)];by_cases h0:e[i].Kind=0
  ·have:=UN (V4 H hi h0);simp only [wr] at this;simp only [h0,if_true,Ji,this]
  ·by_cases h1:e[i].Kind=1
   ·obtain ⟨a,ha,hof,g0,g1,hin2,hse⟩:=JW H hi h1;simp only [h0,h1,if_true,if_false,Int.reduceEq,ha,Option.bind_some];rw [fK (show i < (e.map (sec l)).length by simp;exact hi)];have hsec:(e.map (sec l))[i]'(by simp;exact hi)=(xG l e[i].Var e[i].Subscripts).1:=by simp [sec,h1]
    simp only [Option.bind_some,hsec,hof _ rfl];rw [at_in (d:=0) g0 g1];simp only [Option.bind_some];have hv:Ji l k b e[i]=a.Elements.getD (pick (xG l e[i].Var e[i].Subscripts).1 k).toNat 0:=by simp only [Ji,h1,UU,ha,if_true,if_false,Int.reduceEq]
    have hw:=GI H hi b;rw [hv] at hw ⊢;have:=UN hw;simp only [wr] at this;rw [this]
   ·have hB0:0≤e[i].B∧e[i].B < e.length∧(e[i].Kind≠7→e[i].B < i):=by
     by_cases h7:e[i].Kind=7
     ·have:=UV hN.ok.cl h7;have:=F.pos;omega
     ·have hb2:=Hw hN.ok.kind h0 h1 h7 hN.k8 hN.k9;have:=hN.ok.B hb2;omega
    have hA:0≤e[i].A∧e[i].A < i:=by
     by_cases h7:e[i].Kind=7
     ·exact hN.ok.A (.inl h7)
     ·exact hN.ok.A (.inr (Hw hN.ok.kind h0 h1 h7 hN.k8 hN.k9))
    simp only [h0,h1,if_false];rw [at_in (d:=0) hA.1 (by omega),at_in (d:=0) hB0.1 (by omega)];simp only [Option.bind_some];rw [hgetD _ hA.1 hA.2];have hv:Ji l k b e[i]=opV e[i].Kind (b.getD e[i].A.toNat 0) (b.getD e[i].B.toNat 0):=by simp only [Ji,h0,h1,if_false]
    rw [hv];by_cases h7:e[i].Kind=7
    ·rw [h7];rw [show iF 7 (b.getD e[i].A.toNat 0) ((b++List.replicate (e.length - b.length) (0:Int)).getD e[i].B.toNat 0)=opV 7 (b.getD e[i].A.toNat 0) (b.getD e[i].B.toNat 0) from NM _ _ _]
    ·rw [hgetD _ hB0.1 (hB0.2.2 h7)];rfl
 ·rintro b ⟨hb,hin⟩
  simp only [dR.s1,bu,if_false]
end Go.Sh
set_option linter.all false
namespace Go.Sh
open Go.Lx
theorem rQ {α:Type} (p:α→Bool):∀ xs:List α,xs.findSome? (fun a=>if p a=true then (none:Option Bool) else some false)=if xs.all p=true then none else some false
 | []=>rfl
 | x::xs=>by
  rw [List.findSome?_cons,List.all_cons];by_cases h:p x=true
  ·simp only [h,if_true,Bool.true_and];exact rQ p xs
  ·simp [h]
def Uz (a:ag):Bool:=decide (a.Bounds.length≤9)&&decide (a.Elements.length≤40)
def few (l:List ag):Bool:=decide (l.length≤8)&&l.all Uz
theorem UD (l:List ag):lJ l=some (few l):=by
 unfold lJ few;by_cases h:l.length≤8
 ·rw [if_neg (by omega)];rw [kQ (step:=lJ.s1 l) l (fun a=>if Uz a=true then (none:Option Bool) else some false) (fun c=>Sum.inr c) (Sum.inl ()) rfl ?_ ?_ (by omega),rQ]
  ·simp only [h,decide_true,Bool.true_and];cases l.all Uz<;>rfl
  ·intro i hi;simp only [lJ.s1,eP hi,if_true,fK hi,Option.bind_some,Uz];by_cases h1:l[i].Bounds.length≤9
   ·rw [if_neg (by omega)];by_cases h2:l[i].Elements.length≤40
    ·rw [if_neg (by omega),wn (by omega)];simp [h1,h2]
    ·rw [if_pos (by omega)];simp [h2]
   ·rw [if_pos (by omega)];simp [h1]
  ·simp only [lJ.s1,bu,if_false]
 ·rw [if_pos (by omega)];simp [h]
def Ip (s:aj):Bool:=decide (s.List.length≤20)
def short (q:List aj):Bool:=decide (q.length≤9)&&q.all Ip
theorem Rh (q:List aj):jh q=some (short q):=by
 unfold jh short;by_cases h:q.length≤9
 ·rw [if_neg (by omega)];rw [kQ (step:=jh.s1 q) q (fun a=>if Ip a=true then (none:Option Bool) else some false) (fun c=>Sum.inr c) (Sum.inl ()) rfl ?_ ?_ (by omega),rQ]
  ·simp only [h,decide_true,Bool.true_and];cases q.all Ip<;>rfl
  ·intro i hi;simp only [jh.s1,eP hi,if_true,fK hi,Option.bind_some,Ip];by_cases h1:q[i].List.length≤20
   ·rw [if_neg (by omega),wn (by omega)];simp [h1]
   ·rw [if_pos (by omega)];simp [h1]
  ·simp only [jh.s1,bu,if_false]
 ·rw [if_pos (by omega)];simp [h]
def Iy (s:aN):Bool:=decide (s.Coefs.length≤9)
def Ai (q:List aN):Bool:=decide (q.length≤9)&&q.all Iy
theorem Q9 (q:List aN):je q=some (Ai q):=by
 unfold je Ai;by_cases h:q.length≤9
 ·rw [if_neg (by omega)];rw [kQ (step:=je.s1 q) q (fun a=>if Iy a=true then (none:Option Bool) else some false) (fun c=>Sum.inr c) (Sum.inl ()) rfl ?_ ?_ (by omega),rQ]
  ·simp only [h,decide_true,Bool.true_and];cases q.all Iy<;>rfl
  ·intro i hi;simp only [je.s1,eP hi,if_true,fK hi,Option.bind_some,Iy];by_cases h1:q[i].Coefs.length≤9
   ·rw [if_neg (by omega),wn (by omega)];simp [h1]
   ·rw [if_pos (by omega)];simp [h1]
  ·simp only [je.s1,bu,if_false]
 ·rw [if_pos (by omega)];simp [h]
def H7 (n:ae):Bool:=short n.Subscripts&&Ai n.Forms
def small (e:List ae):Bool:=decide (e.length≤42)&&(!(decide (20 < e.length)&&decide (e.length≤40))&&e.all H7)
theorem Qi (e:List ae):jg e=some (small e):=by
 unfold jg small;by_cases h:((decide (20 < e.length)&&decide (e.length≤40)) || decide (42 < e.length))=true
 ·have:((decide ((e.length:Int) > 20)&&decide ((e.length:Int)≤40)) || decide ((e.length:Int) > 42))=true:=by simp at h ⊢;omega
  rw [if_pos this]
  congr 1
  symm;simp at h ⊢;omega
 ·have:¬ ((decide ((e.length:Int) > 20)&&decide ((e.length:Int)≤40)) || decide ((e.length:Int) > 42))=true:=by simp at h ⊢;omega
  rw [if_neg this];have h42:e.length≤42:=by simp at h;omega
  have hm:(decide (20 < e.length)&&decide (e.length≤40))=false:=by simp at h ⊢;omega
  rw [kQ (step:=jg.s1 e) e (fun a=>if H7 a=true then (none:Option Bool) else some false) (fun c=>Sum.inr c) (Sum.inl ()) rfl ?_ ?_ (by omega),rQ]
  ·simp only [h42,hm,decide_true,Bool.true_and,Bool.not_false];cases e.all H7<;>rfl
  ·intro i hi;simp only [jg.s1,eP hi,if_true,fK hi,Option.bind_some,Rh,Q9,H7];by_cases h1:short e[i].Subscripts=true
   ·by_cases h2:Ai e[i].Forms=true
    ·simp only [h1,h2,not_true,if_false,Bool.and_self,if_true];rw [wn (by omega)]
    ·simp [h1,h2]
   ·simp [h1]
  ·simp only [jg.s1,bu,if_false]
theorem KG {q:List aj} (h:short q=true):q.length≤9∧∀ s,s∈q→s.List.length < 16777216:=by
 unfold short Ip at h;simp at h;exact ⟨h.1,fun s hs=>by have:=h.2 s hs;omega⟩
theorem Qk {q:List aN} (h:Ai q=true):q.length≤9∧∀ s,s∈q→s.Coefs.length≤9:=by
 unfold Ai Iy at h;simp at h;exact h
theorem yt {e:List ae} (h:small e=true):e.length≤42∧(∀ n,n∈e→short n.Subscripts=true∧Ai n.Forms=true)∧Small e:=by
 unfold small H7 at h;simp at h;refine ⟨h.1,h.2.2,by omega,fun n hn s hs=>?_⟩;exact (KG (h.2.2 n hn).1).2 s hs
theorem zH {l:List ag} (h:few l=true):l.length≤8∧∀ a,a∈l→a.Bounds.length≤9∧a.Elements.length≤40:=by
 unfold few Uz at h;simp at h;exact h
theorem IG {l:List ag} (h:few l=true):eH l=some l:=by
 obtain ⟨h1,h2⟩:=zH h;unfold eH;rw [nV (step:=eH.s1 l) l (fun a=>a) (fun i b=>(i,b)) (fun b=>b) rfl ?_ ?_ (by omega)]
 ·simp
 ·intro i hi b hb;have:=h2 l[i] (List.getElem_mem hi);simp only [eH.s1,eP hi,if_true,fK hi,Option.bind_some];rw [LZ (by omega) (by omega)];simp only [Option.bind_some];rw [gB (by omega),wn (by omega)];rfl
 ·intro b;simp only [eH.s1,bu,if_false]
theorem Jf {q:List aN} (h:Ai q=true):fB q=some q:=by
 obtain ⟨h1,h2⟩:=Qk h;unfold fB;rw [nV (step:=fB.s1 q) q (fun a=>a) (fun i b=>(i,b)) (fun b=>b) rfl ?_ ?_ (by omega)]
 ·simp
 ·intro i hi b hb;have:=h2 q[i] (List.getElem_mem hi);simp only [fB.s1,eP hi,if_true,fK hi,Option.bind_some];rw [sQ (by omega)];simp only [Option.bind_some];rw [gB (by omega),wn (by omega)];rfl
 ·intro b;simp only [fB.s1,bu,if_false]
theorem Ku {e:List ae} (h:small e=true):fD e=some e:=by
 obtain ⟨h1,h2,_⟩:=yt h;unfold fD;rw [nV (step:=fD.s1 e) e (fun a=>a) (fun i b=>(i,b)) (fun b=>b) rfl ?_ ?_ (by omega)]
 ·simp
 ·intro i hi b hb;obtain ⟨k1,k2⟩:=h2 e[i] (List.getElem_mem hi);have hs:=KG k1;simp only [fD.s1,eP hi,if_true,fK hi,Option.bind_some];rw [zV (by omega) hs.2,Jf k2];simp only [Option.bind_some];rw [gB (by omega),wn (by omega)];rfl
 ·intro b;simp only [fD.s1,bu,if_false]
def stE (l:List ag):Int:=if 6 < l.length then 8 else match l.findSome? (fun a=>if (chk a).2=0 then none else some (chk a).2) with | some c=>c | none=>0
theorem Ll:∀ (l:List ag) (i:Nat),dJ (fun _ (u:Unit) (a:ag)=>if (chk a).2=0 then Sum.inr u else Sum.inl (chk a).2) i l ()=(match l.findSome? (fun a=>if (chk a).2=0 then none else some (chk a).2) with | some r => .inl r | none => .inr ())
 | [],i=>rfl
 | x::xs,i=>by
  simp only [dJ,List.findSome?_cons];by_cases h:(chk x).2=0
  ·simp only [h,if_true];exact Ll xs (i+1)
  ·simp only [h,if_false]
theorem DR {l:List ag} (h:few l=true):jJ l=some (stE l):=by
 obtain ⟨h1,h2⟩:=zH h;unfold jJ stE;by_cases h6:6 < l.length
 ·rw [if_pos (by omega),if_pos h6]
 ·rw [if_neg (by omega),if_neg h6];have hfind:∃ k,aQ l=some (k,match l.findSome? (fun a=>if (chk a).2=0 then none else some (chk a).2) with | some c=>c | none=>0):=by
   unfold aQ;rw [iy (step:=aQ.s1 l) l (fun i (_:Unit)=>i) (fun (r:Int×Int)=>Sum.inr r) (fun _=>Sum.inl ()) (fun i u a=>if (chk a).2=0 then .inr u else .inl ((i:Int),(chk a).2)) (fun _ _=>True) (a:=()) rfl ?_ ?_ trivial (by omega)]
   ·have h3:=uI (f:=fun i (u:Unit) (a:ag)=>if (chk a).2=0 then Sum.inr u else Sum.inl ((i:Int),(chk a).2)) (g:=fun _ (u:Unit) (a:ag)=>if (chk a).2=0 then Sum.inr u else Sum.inl (chk a).2) (fun r=>r.2) (fun _=>True) l.length (fun i u a _ _=>by
     by_cases h:(chk a).2=0<;>simp [h]) l 0 () (by simp) trivial
    rw [Ll] at h3;cases hs:dJ (fun i (u:Unit) (a:ag)=>if (chk a).2=0 then Sum.inr u else Sum.inl ((i:Int),(chk a).2)) 0 l () with
    | inl r =>
     rw [hs] at h3;simp only at h3;cases hf:l.findSome? (fun a=>if (chk a).2=0 then none else some (chk a).2) with
     | some c=>rw [hf] at h3;cases h3;exact ⟨r.1,rfl⟩
     | none=>rw [hf] at h3;cases h3
    | inr u =>
     rw [hs] at h3;simp only at h3;cases hf:l.findSome? (fun a=>if (chk a).2=0 then none else some (chk a).2) with
     | some c=>rw [hf] at h3;cases h3
     | none=>exact ⟨0,rfl⟩
   ·intro i hi u _;have:=h2 l[i] (List.getElem_mem hi);refine ⟨?_,fun _ _=>trivial⟩;simp only [aQ.s1,eP hi,if_true,fK hi,Option.bind_some,lV];rw [FD (by omega)];simp only [Option.bind_some];by_cases hc:(chk l[i]).2=0
    ·simp only [hc,not_true,if_false,if_true];rw [wn (by omega)]
    ·simp only [hc,not_false_eq_true,if_true,if_false]
   ·intro u _;simp only [aQ.s1,bu,if_false]
  obtain ⟨k,hk⟩:=hfind;rw [hk];rfl
theorem Ey {l:List ag} (h:few l=true):fQ l=some (stE l):=by
 obtain ⟨h1,h2⟩:=zH h;unfold fQ stE;by_cases h6:6 < l.length
 ·rw [if_pos (by omega),if_pos h6]
 ·rw [if_neg (by omega),if_neg h6];rw [kQ (step:=fQ.s1 l) l (fun a=>if (chk a).2=0 then none else some (chk a).2) (fun c=>Sum.inr c) (Sum.inl ()) rfl ?_ ?_ (by omega)]
  ·cases l.findSome? (fun a=>if (chk a).2=0 then none else some (chk a).2)<;>rfl
  ·intro i hi;have:=h2 l[i] (List.getElem_mem hi);simp only [fQ.s1,eP hi,if_true,fK hi,Option.bind_some];rw [OJ (by omega)];simp only [Option.bind_some];by_cases hc:(chk l[i]).2=0
   ·simp only [hc,not_true,if_false,if_true];rw [wn (by omega)]
   ·simp only [hc,not_false_eq_true,if_true,if_false]
  ·simp only [fQ.s1,bu,if_false]
theorem VD {l:List ag} (h:stE l=0):OG l:=by
 unfold stE at h;split at h
 ·cases h
 ·rename_i h6
  refine ⟨by omega,fun a ha=>Pm ?_⟩;cases hf:l.findSome? (fun a=>if (chk a).2=0 then none else some (chk a).2) with
  | some c =>
   rw [hf] at h;obtain ⟨b,_,hb⟩:=List.exists_of_findSome?_eq_some hf;simp only at h;split at hb
   ·cases hb
   ·cases hb;rename_i q;exact absurd h q
  | none =>
   have:=List.findSome?_eq_none_iff.1 hf a ha;simpa using this
end Go.Sh
set_option linter.all false
namespace Go.Sh
open Go.Lx
theorem TW:sZ=some true:=by decide +kernel
structure Shp (x:List Int):Prop where
 dims:x.length≤7
 ext:∀ e,e∈x→0≤e∧e≤512
 p0:0≤P x
 p1:P x≤60
theorem Shp.nil:Shp []:=⟨by simp,by simp,by simp [P],by simp [P]⟩
theorem BA {b:List (List Int)} (k:Nat) (h:∀ x,x∈b→Shp x):Shp (b.getD k []):=by
 rw [List.getD_eq_getElem?_getD];cases hk:b[k]? with
 | none=>exact Shp.nil
 | some x=>exact h x (List.mem_of_getElem? hk)
theorem MR {l:List ag} {i:Nat} {b b':List (List Int)} {n:ae} (h:iC l i b n = .inr b') (hb:∀ x,x∈b→Shp x):∀ x,x∈b'→Shp x:=by
 have key:∀ z:List Int,Shp z→∀ x,x∈b++[z]→Shp x:=by
  intro z hz x hx;simp only [List.mem_append,List.mem_singleton] at hx;rcases hx with hx | hx
  ·exact hb x hx
  ·rw [hx];exact hz
 unfold iC at h;split at h
 ·split at h
  ·cases h;exact key _ Shp.nil
  ·cases h
 ·split at h
  ·split at h
   ·rename_i h2
    cases h;obtain ⟨a,_,hs,h60,_⟩:=Bg h2;have:=hs.len;exact key _ ⟨hs.dims,hs.ext,by omega,by omega⟩
   ·cases h
  ·split at h
   ·cases h;exact key _ (BA _ hb)
   ·split at h
    ·cases h
    ·cases h;refine key _ ?_;split
     ·exact BA _ hb
     ·exact BA _ hb
theorem TU {l:List ag} {e:List ae} {out:List (List Int)} (h:shE l e = .inr out):∀ x,x∈out→Shp x:=by
 have key:∀ (xs:List ae) (i:Nat) (b b':List (List Int)),dJ (iC l) i xs b = .inr b'→(∀ x,x∈b→Shp x)→∀ x,x∈b'→Shp x:=by
  intro xs
  induction xs with
  | nil=>intro i b b' h hb;cases h;exact hb
  | cons x xs ih =>
   intro i b b' h hb;simp only [dJ] at h;cases hf:iC l i b x with
   | inl c=>rw [hf] at h;cases h
   | inr b1=>rw [hf] at h;exact ih (i+1) b1 b' h (MR hf hb)
 exact key e 0 [] out h (by simp)
theorem yh {l:List ag} {e:List ae} (h:tJ l e=0):Shp (pR l e):=BA _ (TU (xI h).2.2)
theorem Qc {xs:List Int} (h:∀ x,x∈xs→0≤x∧x≤512) (hs:P xs≤512):gG xs=P xs:=by
 unfold gG;by_cases h0:xs.any (fun x=>0==x)=true
 ·rw [if_pos h0];exact (KL (by
   simp only [List.any_eq_true,beq_iff_eq] at h0;obtain ⟨x,h1,h2⟩:=h0;exact ⟨x,h1,h2.symm⟩)).symm
 ·rw [if_neg h0];have hx:∀ x,x∈xs→1≤x∧x≤512:=fun x hx=>by
   obtain ⟨h1,h2⟩:=h x hx;simp only [List.any_eq_true,not_exists,not_and,beq_iff_eq] at h0;have:=h0 x hx;omega
  have:=Gs (a:=1) hx (by omega) (by omega);have hp:=JA fun x hq=>(hx x hq).1
  unfold Ur;omega
theorem CG {x:List Int} (h:Shp x):eG x=some (P x):=by
 have:=h.dims;rw [qf (by omega),Qc h.ext (by have:=h.p1;omega)]
theorem SS (x:Int):w x=if 9223372036854775808≤x % 18446744073709551616 then x % 18446744073709551616 - 18446744073709551616 else x % 18446744073709551616:=by
 show IntKind.i64.wrap x=_
 simp only [IntKind.wrap,IntKind.bits,IntKind.signed];simp
theorem Vy (a:Int):∃ q:Int,w a=a+q * 18446744073709551616:=by
 rw [SS];split
 ·exact ⟨-(a / 18446744073709551616) - 1,by omega⟩
 ·exact ⟨-(a / 18446744073709551616),by omega⟩
theorem Vq (a q:Int):w (a+q * 18446744073709551616)=w a:=by
 rw [SS,SS];have:(a+q * 18446744073709551616) % 18446744073709551616=a % 18446744073709551616:=by omega
 rw [this]
theorem UC (a x:Int):w (w a * x)=w (a * x):=by
 obtain ⟨q,hq⟩:=Vy a;rw [hq,Int.add_mul,Int.mul_right_comm,Vq]
theorem SK:∀ (xs:List Int) (a:Int),xs.foldl (fun a x=>w (a * x)) (w a)=w (a * P xs)
 | [],a=>by simp [P]
 | x::xs,a=>by
  rw [List.foldl_cons,UC,SK xs (a * x)];simp only [P];rw [Int.mul_assoc]
theorem Qr {x:List Int} (h:Shp x):jT x=some (P x):=by
 have hd:=h.dims;unfold jT;rw [jZ (step:=jT.s1 x) x (fun i b=>(b,i)) (fun b=>b) (fun a y=>w (a * y)) (fun _ _=>True) (a:=1) rfl ?_ ?_ trivial (by omega)]
 ·simp only [Option.bind_some];have:=SK x 1;rw [show w 1=1 from rfl] at this;rw [this,Int.one_mul,qo (by have:=h.p0;omega) (by have:=h.p1;omega)]
 ·intro i hi b _;refine ⟨?_,trivial⟩;simp only [jT.s1,eP hi,if_true,fK hi,Option.bind_some];rw [wn (by omega)]
 ·intro b _;simp only [jT.s1,bu,if_false]
def Em (l:List ag) (e:List ae):Int:=if stE l=0 then tJ l e else stE l
def VH (l:List ag) (e:List ae):List Int:=(List.range (P (pR l e)).toNat).map fun (k:Nat)=>value l e (k:Int)
def Ul (l:List ag) (e:List ae):ag:=if Em l e=0 then ⟨Jt (pR l e),VH l e⟩ else ⟨[],[]⟩
theorem NQ {l:List ag} {e:List ae} (h:Em l e=0):stE l=0∧tJ l e=0:=by
 unfold Em at h;split at h
 ·rename_i q;exact ⟨q,h⟩
 ·rename_i q;exact absurd h q
theorem LU {l:List ag} {e:List ae} (hs:Small e) (h:tJ l e=0):ig (some (Fq l e))=some (pR l e):=by
 obtain ⟨F,_,hsh⟩:=xI h;have hl:=(Bl hsh).1;have hp:=F.pos;have:=hs.1;unfold ig;simp only [Option.bind_some,Fq];rw [qo (by omega) (by omega),at_in (d:=[]) (by omega) (by omega)];simp only [Option.bind_some,pR]
 congr 2
 omega
theorem Na {l:List ag} {e:List ae} (hf:few l=true) (he:small e=true):nX l e=some (if Em l e=0 then pR l e else [],Em l e):=by
 have hs:=(yt he).2.2;have hl:=(zH hf).1;unfold nX;rw [DR hf];simp only [Option.bind_some];by_cases h0:stE l=0
 ·have he0:Em l e=tJ l e:=by unfold Em;rw [if_pos h0]
  obtain ⟨x,hx,hx2⟩:=I9 (e:=e) (show l.length < 1000 by omega) hs;simp only [h0,not_true,if_false,hx,Option.bind_some,he0];by_cases hp:tJ l e=0
  ·simp only [hp,not_true,if_false,if_true,hx2 hp,LU hs hp,Option.bind_some];have hd:=(yh hp).dims;unfold slices_Clone_int;rw [Jn (by omega)];rfl
  ·simp [hp]
 ·have he0:Em l e=stE l:=by unfold Em;rw [if_neg h0]
  simp [h0,he0]
theorem Dl {step:Int×List Int→Option (Sum (Int×List Int) (List Int))} {f:Nat→Int} {N:Nat} (hN:N < 1000)
  (h:∀ i,i < N→∀ b:List Int,b.length=i→step ((i:Int),b)=some (.inl (((i+1:Nat):Int),b++[f i]))) (hend:∀ b,step ((N:Int),b)=some (.inr b)):dG step (0,[])=some ((List.range N).map f):=by
 have hl:(List.range N).length=N:=List.length_range;rw [nV (step:=step) (List.range N) f (fun i b=>(i,b)) (fun b=>b) rfl ?_ ?_ (by omega)]
 ·intro i hi b hb;rw [hl] at hi;rw [h i hi b hb];simp
 ·intro b;rw [hl];exact hend b
theorem val_ok {l:List ag} {e:List ae} (hf:few l=true) (he:small e=true) (h:Em l e=0) {k:Nat} (hk:k < (P (pR l e)).toNat):JG l e k:=by
 obtain ⟨h1,h2⟩:=NQ h;have:=(yh h2).p0;exact ⟨VD h1,(yt he).2.2,h2,by omega, .inr (by omega)⟩
theorem Nb {l:List ag} {e:List ae} (hf:few l=true) (he:small e=true):dU l e=some (Ul l e,Em l e):=by
 have hs:=(yt he).2.2;have hl:=(zH hf).1;unfold dU Ul;rw [DR hf];simp only [Option.bind_some];by_cases h0:stE l=0
 ·have he0:Em l e=tJ l e:=by unfold Em;rw [if_pos h0]
  obtain ⟨x,hx,hx2⟩:=I9 (e:=e) (show l.length < 1000 by omega) hs;simp only [h0,not_true,if_false,hx,Option.bind_some];by_cases hp:tJ l e=0
  ·have hsp:=yh hp;have hd:=hsp.dims;have hp0:=hsp.p0;have hp1:=hsp.p1;simp only [he0,hp,not_true,if_false,if_true,hx2 hp,LU hs hp,Option.bind_some,Qr hsp];have hb:dG (dU.s1 (pR l e)) (0,[])=some (Jt (pR l e)):=by
    rw [nV (step:=dU.s1 (pR l e)) (pR l e) (fun y=>ai.mk 1 y) (fun i b=>(i,b)) (fun b=>b) rfl ?_ ?_ (by omega)]
    ·rfl
    ·intro i hi b hb;simp only [dU.s1,eP hi,if_true,fK hi,Option.bind_some];rw [gB (by omega),wn (by omega)];rfl
    ·intro b;simp only [dU.s1,bu,if_false]
   rw [hb];simp only [Option.bind_some];rw [Dl (f:=fun k=>value l e (k:Int)) (N:=(P (pR l e)).toNat) (by omega) ?_ ?_]
   ·rfl
   ·intro i hi b hb;have hlt:((i:Int) < P (pR l e))=True:=eq_true (by omega);simp only [dU.s2,hlt,if_true];rw [Ih (val_ok hf he (by rw [he0,hp]) hi)];simp only [Option.bind_some];rw [gB (by omega),wn (by omega)];rfl
   ·intro b;have:¬ (((P (pR l e)).toNat:Int) < P (pR l e)):=by omega
    simp only [dU.s2,this,if_false]
  ·simp only [he0,hp,not_false_eq_true,if_true,if_false]
 ·have he0:Em l e=stE l:=by unfold Em;rw [if_neg h0]
  simp [h0,he0]
theorem Kt {l:List ag} {e:List ae} (hf:few l=true) (he:small e=true):jH l e=some (Ul l e,Em l e):=by
 have hs:=(yt he).2.2;have hl:=(zH hf).1;unfold jH qU Ul;rw [Ey hf];simp only [Option.bind_some];by_cases h0:stE l=0
 ·have he0:Em l e=tJ l e:=by unfold Em;rw [if_pos h0]
  simp only [h0,not_true,if_false,IP (show l.length < 1000 by omega) hs,Option.bind_some];by_cases hp:tJ l e=0
  ·have hsp:=yh hp;have hd:=hsp.dims;have hp0:=hsp.p0;have hp1:=hsp.p1;obtain ⟨F,_,hsh⟩:=xI hp;have hol:=(Bl hsh).1;have hpos:=F.pos;have hlt2:=hs.1;simp only [he0,hp,not_true,if_false,if_true];rw [qo (by omega) (by omega),at_in (d:=[]) (by omega) (by omega)];have hr:(Ov l e).getD (((Ov l e).length:Int) - 1).toNat []=pR l e:=by
    unfold pR;congr 1;omega
   simp only [Option.bind_some,hr];rw [Dl (f:=fun k=>value l e (k:Int)) (N:=(P (pR l e)).toNat) (by omega) ?_ ?_]
   ·simp only [Option.bind_some];rw [Rz (by omega)];rfl
   ·intro i hi b hb;have hlt:((i:Int) < P (pR l e))=True:=eq_true (by omega);simp only [jH.s1,CG hsp,Option.bind_some,hlt,if_true];rw [MW (val_ok hf he (by rw [he0,hp]) hi)];simp only [Option.bind_some];rw [gB (by omega),wn (by omega)];rfl
   ·intro b;have:¬ (((P (pR l e)).toNat:Int) < P (pR l e)):=by omega
    simp only [jH.s1,CG hsp,Option.bind_some,this,if_false]
  ·simp only [he0,hp,not_false_eq_true,if_true,if_false]
 ·have he0:Em l e=stE l:=by unfold Em;rw [if_neg h0]
  simp [h0,he0]
theorem IM {a:List Int} (h:a.length < 16777216):kU a a=some true:=by rw [JQ h h];simp
theorem AV (l:List ag) (e:List ae):lQ l e=some true:=by
 unfold lQ;rw [TW,UD];simp only [Option.bind_some,not_true,if_false];by_cases hf:few l=true
 ·simp only [hf,not_true,if_false,Qi,Option.bind_some];by_cases he:small e=true
  ·simp only [he,not_true,if_false,IG hf,Ku he,Option.bind_some,Na hf he,Nb hf he,Kt hf he,beq_self_eq_true,Bool.and_self,if_true];by_cases h0:Em l e=0
   ·obtain ⟨h1,h2⟩:=NQ h0;have hsp:=yh h2;have hd:=hsp.dims;have hp1:=hsp.p1;have hb:(Jt (pR l e)).length < 16777216:=by simp [Jt];omega
    have hel:(VH l e).length < 16777216:=by simp [VH];omega
    simp only [Ul,h0,if_true];rw [Iq hb hel];simp only [Option.bind_some,if_true];rw [pG hb,PE hsp.ext];simp only [Option.bind_some];rw [IM (by omega)];rfl
   ·simp only [Ul,h0,if_false];rw [Iq (by simp) (by simp)];simp only [Option.bind_some,if_true];rw [pG (by simp)];simp only [Option.bind_some];rw [show exs []=[] from rfl,IM (by simp)];rfl
  ·simp [he]
 ·simp [hf]
end Go.Sh
