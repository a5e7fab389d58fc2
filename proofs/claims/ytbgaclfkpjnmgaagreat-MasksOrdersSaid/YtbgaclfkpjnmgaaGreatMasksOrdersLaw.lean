/- What the functions compute answers as the statement says. -/
import Derived.Test.YtbgaclfkpjnmgaaGreatMasksOrdersSh
set_option linter.all false
namespace Go.Sh
open Go.Lx
set_option linter.unusedVariables false
set_option linter.unusedSimpArgs false
theorem iC {i n:Nat} (h:i < n):((i:Int) < (n:Int))=True:=eq_true (by omega)
theorem dh (n:Nat):((n:Int) < (n:Int))=False:=eq_false (by omega)
theorem KG {p:List ai} (h:p.length≤16777216):qi p=some p:=by
 unfold qi;rw [Kw h];rfl
theorem vV {p:List Int} (h:p.length≤16777216):lV p=some p:=by
 unfold lV;rw [VY h];simp [QQ]
theorem JF {p:List ai} (h:p.length < 16777216):jJ p=some (p.map aZ):=by
 unfold jJ;rw [tZ p aZ (fun i b=>(i,b)) (fun b=>b) rfl ?_ ?_ (by omega)]
 ·rfl
 ·intro i hi b hb;simp only [jJ.s1,iC hi,aG,jc hi,ah];rw [jT (by omega),wn (by omega)];rfl
 ·intro b;simp only [jJ.s1,dh,au]
theorem DD {p:List ai} (h:p.length < 16777216):jO p=some (p.map aZ):=by
 unfold jO;rw [tZ p aZ (fun i b=>(i,b)) (fun b=>b) rfl ?_ ?_ (by omega)]
 ·rfl
 ·intro i hi b hb;simp only [jO.s1,iC hi,aG,jc hi,ah];rw [jT (by omega),wn (by omega)];rfl
 ·intro b;simp only [jO.s1,dh,au]
theorem TL (p:List Int) (v:Int) (h:p.length < 16777216):∃ k:Nat,slices_Index_int p v=some (if p.any (fun x=>v==x)=true then (k:Int) else -1):=by
 unfold slices_Index_int;obtain ⟨k,hk⟩:=vJ (step:=slices_Index_int.s1 p v) p (fun x=>v==x) (fun i=>Sum.inr i) (Sum.inl ()) (s:=0) rfl (fun i hi=>by
  simp only [slices_Index_int.s1,iC hi,aG,jc hi,ah];by_cases e:v=p[i]
  ·simp [e]
  ·simp only [e,au,lT];rw [wn (by omega)]) (by simp only [slices_Index_int.s1,dh,au]) (by omega)
 refine ⟨k,?_⟩;rw [hk];by_cases e:p.any (fun x=>v==x)=true
 ·rw [if_pos e,if_pos e];rfl
 ·rw [if_neg e,if_neg e];rfl
theorem Ox {p:List Int} {v:Int} (h:p.length < 16777216):slices_Contains_int p v=some (p.any (fun x=>v==x)):=by
 unfold slices_Contains_int;obtain ⟨k,hk⟩:=TL p v h;rw [hk];by_cases e:p.any (fun x=>v==x)=true
 ·rw [if_pos e,e];simp
 ·rw [if_neg e,jH e];rfl
def Yu (xs:List Int):Int:=xs.foldl (fun a x=>mn (w (a * mn x 513)) 513) 1
def lq (xs:List Int):Int:=if xs.any (fun x=>0==x)=true then 0 else Yu xs
theorem JX {p:List Int} (h:p.length < 16777216):jK p=some (lq p):=by
 unfold jK;rw [nK (step:=jK.s1 p) p (fun i b=>(b,i)) (fun b=>b) (fun a x=>mn (w (a * mn x 513)) 513) (fun _ _=>True) (a:=1) rfl ?_ ?_ trivial (by omega)]
 ·simp only [ah,Ox h];unfold lq Yu;split<;>rfl
 ·intro i hi b _;refine ⟨?_,trivial⟩;simp only [jK.s1,iC hi,aG,jc hi,ah];rw [wn (by omega)]
 ·intro b _;simp only [jK.s1,dh,au]
theorem NT:∀ (xs:List Int) (i:Nat) (a:Int),gK (ρ:=Unit) (fun _ (b:Int) x=>if x=0 then .inl () else .inr (mn (w (b * mn x 513)) 513)) i xs a=(if xs.any (fun x=>0==x)=true then .inl () else .inr (xs.foldl (fun a x=>mn (w (a * mn x 513)) 513) a))
 | [],i,a=>rfl
 | x::xs,i,a=>by
  simp only [gK,List.any_cons,fD];by_cases e:x=0
  ·subst e;simp
  ·have e':(0==x)=false:=by simp;exact fun q=>e q.symm
   simp only [e,au,e',Bool.false_or];exact NT xs (i+1) _
theorem yL {p:List Int} (h:p.length < 16777216):jP p=some (lq p):=by
 unfold jP;rw [jS (step:=jP.s1 p) p (fun i b=>(b,i)) (fun (_:Unit)=>Sum.inr 0) (fun b=>Sum.inl b) (fun _ (b:Int) x=>if x=0 then .inl () else .inr (mn (w (b * mn x 513)) 513)) (fun _ _=>True) (a:=1) rfl ?_ ?_ trivial (by omega)]
 ·rw [NT];unfold lq Yu;by_cases e:p.any (fun x=>0==x)=true
  ·simp only [e,aG];rfl
  ·simp only [e,au];rfl
 ·intro i hi b _;refine ⟨?_,fun _ _=>trivial⟩;simp only [jP.s1,iC hi,aG,jc hi,ah];by_cases e:p[i]=0
  ·simp only [e,aG]
  ·simp only [e,au];rw [wn (by omega)]
 ·intro b _;simp only [jP.s1,dh,au]
def num (b:ai):Bool:=bC b.Low&&bC b.High
def Kz (p:List ai):Int:=if (p.length:Int) > 7 then 32 else if p.any (fun b=>!num b)=true then 2 else if p.any (fun b=>decide (aZ b > 512))=true then 8 else if lq (p.map aZ) > 512 then 8 else 0
theorem DL (a b c:Int):eX a b c=bn a b c:=by
 unfold eX bn;simp only [Bool.not_or,← decide_not]
 congr 1<;>exact decide_eq_decide.2 (by omega)
theorem rH {α ρ:Type} {p:α→Bool} {c:ρ}:∀ xs:List α,xs.findSome? (fun x=>if p x=true then some c else none)=if xs.any p=true then some c else none
 | []=>rfl
 | x::xs=>by
  simp only [List.findSome?_cons,List.any_cons];by_cases e:p x=true
  ·simp [e]
  ·simp only [e,au,Bool.false_or];exact rH xs
theorem SK (b:Bool) (c:Int):gY [aK.mk b c]=some (if b=true then 0 else c):=by
 unfold gY;rw [oz (step:=gY.s1 [aK.mk b c]) [aK.mk b c] (fun r=>if r.holds=true then none else some r.code) (fun c=>Sum.inr c) (Sum.inl ()) rfl ?_ ?_ (by simp)]
 ·cases b<;>rfl
 ·intro i hi;simp only [gY.s1,iC hi,aG,jc hi,ah];have:i=0:=by simpa using hi
  subst this;cases b<;>simp [w,IntKind.wrap]<;>rfl
 ·rfl
theorem TJ (p:List ai) (h:p.length < 16777216):eP p=some (p.any (fun b=>!num b)):=by
 unfold eP bG;obtain ⟨k,hk⟩:=vJ (step:=bG.s1 p) p (fun b=>!num b) (fun i=>Sum.inr i) (Sum.inl ()) (s:=0) rfl (fun i hi=>by
  simp only [bG.s1,iC hi,aG,jc hi,ah];have:lQ p[i]=!num p[i]:=by unfold lQ num;simp
  rw [this,wn (by omega)];split<;>rfl) (by simp only [bG.s1,dh,au]) (by omega)
 rw [hk];by_cases e:p.any (fun b=>!num b)=true
 ·rw [if_pos e,e];simp
 ·rw [if_neg e,jH e];rfl
theorem TK (p:List ai) (h:p.length < 16777216):eQ p=some (p.any (fun b=>decide (aZ b > 512))):=by
 unfold eQ bH;obtain ⟨k,hk⟩:=vJ (step:=bH.s1 p) p (fun b=>decide (aZ b > 512)) (fun i=>Sum.inr i) (Sum.inl ()) (s:=0) rfl (fun i hi=>by
  simp only [bH.s1,iC hi,aG,jc hi,ah];unfold nS;rw [wn (by omega)];split<;>rfl) (by simp only [bH.s1,dh,au]) (by omega)
 rw [hk];by_cases e:p.any (fun b=>decide (aZ b > 512))=true
 ·rw [if_pos e,e];simp
 ·rw [if_neg e,jH e];rfl
theorem size_eq {p:List ai} (h:p.length < 16777216):uG p=some (lq (p.map aZ)):=by
 unfold uG;rw [JF h];simp only [ah];rw [JX (by simpa using h)];rfl
theorem EU (p:List ai):oh p=some (Kz p):=by
 unfold oh Kz;by_cases h7:(p.length:Int) > 7
 ·simp only [h7,aG]
 ·have h:p.length < 16777216:=by omega
  simp only [h7,au,TJ p h,TK p h,size_eq h,SK,ah];by_cases e1:p.any (fun b=>!num b)=true
  ·simp only [e1,aG]
  ·simp only [e1,au];by_cases e2:p.any (fun b=>decide (aZ b > 512))=true
   ·simp [e2]
   ·simp only [e2,au];by_cases e3:lq (p.map aZ) > 512
    ·have:¬ lq (p.map aZ)≤512:=by omega
     simp [e3,this]
    ·have:lq (p.map aZ)≤512:=by omega
     simp [e3,this]
theorem zS (p:List ai):fQ p=some (Kz p):=by
 unfold fQ Kz;by_cases h7:(p.length:Int) > 7
 ·simp only [h7,aG]
 ·have h:p.length < 16777216:=by omega
  simp only [h7,au,DD h,ah];rw [oz (step:=fQ.s1 p) p (fun b=>if (!num b)=true then some (2:Int) else none) (fun c=>Sum.inr c) (Sum.inl ()) rfl ?_ ?_ (by omega),rH]
  ·by_cases e1:p.any (fun b=>!num b)=true
   ·simp only [e1,aG,ah]
   ·simp only [e1,au,ah];rw [oz (step:=fQ.s2 (p.map aZ)) (p.map aZ) (fun x=>if (decide (x > 512))=true then some (8:Int) else none) (fun c=>Sum.inr c) (Sum.inl ()) rfl ?_ ?_ (by simp;omega),rH,List.any_map]
    ·by_cases e2:p.any (fun b=>decide (aZ b > 512))=true
     ·have e2':p.any ((fun x=>decide (x > 512)) ∘ aZ)=true:=e2;simp only [e2,e2',aG,ah,aF,au]
     ·have e2':¬ p.any ((fun x=>decide (x > 512)) ∘ aZ)=true:=e2;simp only [e2,e2',au,ah,aF];rw [yL (by simpa using h)];simp only [ah];split<;>rfl
    ·intro i hi;simp only [fQ.s2,iC hi,aG,jc hi,ah];by_cases e:(p.map aZ)[i] > 512
     ·simp only [e,aG,decide_true]
     ·simp only [e,au,decide_false,aF];rw [wn (by simp at hi;omega)]
    ·simp only [fQ.s2,dh,au]
  ·intro i hi;simp only [fQ.s1,iC hi,aG,jc hi,ah,dZ,DL,num,bC];rw [wn (by omega)];by_cases e1:bn p[i].Low (-2147483647) 2147483647=true
   ·by_cases e2:bn p[i].High (-2147483647) 2147483647=true
    ·simp [e1,e2]
    ·simp [e1,e2]
   ·simp [e1]
  ·simp only [fQ.s1,dh,au]
set_option linter.unusedVariables false
set_option linter.unusedSimpArgs false
theorem MC:∀ (n:Nat) (a b:List Int),a.length < n→n≤16777217→b.length < 16777216→∃ r,eU.N n a b=some r∧(r=true→a≠b)
 | 0,a,b,h,_,_=>absurd h (Nat.not_lt_zero _)
 | n+1,a,b,h,hn,hb=>by
  show ∃ r,eU.F (eU.N n) a b=some r∧_
  unfold eU.F
  match a,b with
  | [],b=>exact ⟨_,rfl,fun h=>by simp at h;intro q;subst q;simp at h⟩
  | x::a,[]=>exact ⟨_,rfl,fun h=>by simp at h;omega⟩
  | x::a,y::b =>
   have e0:¬ ((((x::a).length:Int)==0) || (((y::b).length:Int)==0))=true:=by simp;omega
   have c1:cut (x::a) 1 ((x::a).length:Int)=some a:=by unfold cut;rw [if_pos (by simp;omega)];simp
   have c2:cut (y::b) 1 ((y::b).length:Int)=some b:=by unfold cut;rw [if_pos (by simp;omega)];simp
   have a1:at_ (x::a) 0=some x:=rfl;have a2:at_ (y::b) 0=some y:=rfl;rw [if_neg e0];simp only [a1,a2,ah];by_cases h1:x < y
   ·exact ⟨true,by simp [h1],fun _ q=>by simp at q;omega⟩
   ·by_cases h2:x=y
    ·obtain ⟨r,h3,h4⟩:=MC n a b (by simp at h;omega) (by omega) (by simp at hb;omega);refine ⟨r,?_,fun hr q=>h4 hr (by simp at q;exact q.2)⟩;subst h2;rw [if_neg h1,if_pos rfl,c1,c2];simp only [ah,h3]
    ·exact ⟨false,by simp [h1,h2],fun q=>by cases q⟩
theorem JC:∀ (n m:Nat) (a b:List Int),eU.N n a b=some false→eU.N m b a=some false→a.length=b.length→a=b
 | 0,m,a,b,h,_,_=>by cases h
 | n+1,0,a,b,_,h,_=>by cases h
 | n+1,m+1,a,b,h,k,hl=>by
  change eU.F (eU.N n) a b=some false at h;change eU.F (eU.N m) b a=some false at k;unfold eU.F at h k
  match a,b,hl with
  | [],[],_=>rfl
  | x::a,y::b,hl =>
   have e0:¬ ((((x::a).length:Int)==0) || (((y::b).length:Int)==0))=true:=by simp;omega
   have e1:¬ ((((y::b).length:Int)==0) || (((x::a).length:Int)==0))=true:=by simp;omega
   have c1:cut (x::a) 1 ((x::a).length:Int)=some a:=by unfold cut;rw [if_pos (by simp;omega)];simp
   have c2:cut (y::b) 1 ((y::b).length:Int)=some b:=by unfold cut;rw [if_pos (by simp;omega)];simp
   have a1:at_ (x::a) 0=some x:=rfl;have a2:at_ (y::b) 0=some y:=rfl;rw [if_neg e0] at h;rw [if_neg e1] at k;simp only [a1,a2,ah,c1,c2] at h k;by_cases h1:x < y
   ·simp [h1] at h
   ·by_cases h2:y < x
    ·simp [h2] at k
    ·have h3:x=y:=by omega
     subst h3;simp only [h1,au,aG] at h k;obtain ⟨r,hr,h⟩:=fE.1 h;obtain ⟨r',hr',k⟩:=fE.1 k;cases h;cases k;rw [JC n m a b hr hr' (by simpa using hl)]
theorem OW {a b:List Int} (ha:a.length < 16777216) (hb:b.length < 16777216):qH a b=some (a==b):=by
 unfold qH;have hF:(16777217:Nat)≤FUEL:=by unfold FUEL;omega
 have step:∀ (n:Nat) (a b:List Int) (r:Bool),eU.N n a b=some r→eU.N (n+1) a b=some r:=by
  intro n
  induction n with
  | zero=>intro a b r h;cases h
  | succ n ih =>
   intro a b r h;change eU.F (eU.N n) a b=some r at h
   show eU.F (eU.N (n+1)) a b=some r
   unfold eU.F at h ⊢;split
   ·rename_i hc;rw [if_pos hc] at h;exact h
   ·rename_i hc
    rw [if_neg hc] at h;obtain ⟨x4,h4,h⟩:=fE.1 h;obtain ⟨x5,h5,h⟩:=fE.1 h;rw [h4,h5];simp only [ah];split
    ·rename_i hd;rw [if_pos hd] at h;exact h
    ·rename_i hd
     rw [if_neg hd] at h;rw [h4,h5] at h;simp only [ah] at h ⊢;split
     ·rename_i he
      rw [if_pos he] at h;obtain ⟨x6,h6,h⟩:=fE.1 h;obtain ⟨x7,h7,h⟩:=fE.1 h;obtain ⟨x8,h8,h⟩:=fE.1 h;rw [h6,h7];simp only [ah];rw [ih _ _ _ h8];exact h
     ·rename_i he;rw [if_neg he] at h;exact h
 have up:∀ (n m:Nat) (a b:List Int) (r:Bool),n≤m→eU.N n a b=some r→eU.N m a b=some r:=by
  intro n m a b r hnm h
  induction hnm with
  | refl=>exact h
  | step _ ih=>exact step _ _ _ _ ih
 have get:∀ a b:List Int,a.length < 16777216→b.length < 16777216→∃ r,eU a b=some r∧(r=true→a≠b):=by
  intro a b ha hb;obtain ⟨r,h1,h2⟩:=MC 16777217 a b (by omega) (aY _) hb;exact ⟨r,up _ _ _ _ _ hF h1,h2⟩
 by_cases hl:(a.length:Int)=(b.length:Int)
 ·rw [if_pos hl];obtain ⟨r,h1,h2⟩:=get a b ha hb;obtain ⟨r',h3,h4⟩:=get b a hb ha;rw [h1,h3];simp only [ah];cases r with
  | true=>simp;exact h2 rfl
  | false =>
   cases r' with
   | true=>simp;exact fun q=>h4 rfl q.symm
   | false=>simp;exact JC _ _ _ _ h1 h3 (by omega)
 ·rw [if_neg hl];have:a≠b:=fun q=>hl (by rw [q])
  simp [this]
set_option linter.unusedVariables false
set_option linter.unusedSimpArgs false
def P:List Int→Int
 | []=>1
 | x::xs=>x * P xs
def H:List Int→List Int→Int
 | e::es,d::ds=>d+e * H es ds
 | _,_=>0
def dig:List Int→Int→List Int
 | [],_=>[]
 | e::es,n=>n % e::dig es (n / e)
def inBase:List Int→List Int→Prop
 | e::es,d::ds=>0≤d∧d < e∧inBase es ds
 | [],[]=>True
 | _,_=>False
theorem QL:∀ {es:List Int},(∀ e,e∈es→1≤e)→1≤P es
 | [],_=>Int.le_refl 1
 | e::es,h=>by
  have h1:=h e (.head _);have h2:=QL (es:=es) fun x hx=>h x (.tail _ hx)
  have:=Int.mul_le_mul h1 h2 (by omega) (by omega);simpa [P] using this
theorem Yj {e:Int} {es:List Int} (h:∀ x,x∈e::es→1≤x):P es≤P (e::es):=by
 have h1:=h e (.head _);have h2:=QL (es:=es) fun x hx=>h x (.tail _ hx)
 have:=Int.mul_le_mul h1 (Int.le_refl (P es)) (by omega) (by omega);simpa [P] using this
theorem Eb:∀ {es ds:List Int},inBase es ds→∀ e,e∈es→1≤e
 | [],_,_,e,h=>by cases h
 | e::es,[],h,_,_=>by cases h
 | e::es,d::ds,⟨h1,h2,h3⟩,x,hx=>by
  cases hx with
  | head=>omega
  | tail _ hx=>exact Eb h3 x hx
theorem Ko:∀ {es ds:List Int},inBase es ds→0≤H es ds∧H es ds < P es
 | [],[],_=>by simp [H,P]
 | [],_::_,h=>by cases h
 | e::es,[],h=>by cases h
 | e::es,d::ds,⟨h1,h2,h3⟩=>by
  obtain ⟨i1,i2⟩:=Ko h3;have a1:0≤e * H es ds:=Int.mul_nonneg (by omega) i1;have a2:e * H es ds≤e * (P es - 1):=ji (by omega) (by omega);rw [Int.mul_sub,Int.mul_one] at a2;simp only [H,P];omega
theorem WN:∀ {es:List Int} {n:Int},(∀ e,e∈es→1≤e)→0≤n→n < P es→inBase es (dig es n)∧H es (dig es n)=n
 | [],n,_,h1,h2=>by simp [P] at h2;simp [inBase,dig,H];omega
 | e::es,n,h,h1,h2=>by
  have he:=h e (.head _);have g1:0≤n / e:=Int.ediv_nonneg h1 (by omega);have g2:n / e < P es:=Int.ediv_lt_of_lt_mul (by omega) (by simp only [P] at h2;rw [Int.mul_comm];exact h2);obtain ⟨i1,i2⟩:=WN (es:=es) (fun x hx=>h x (.tail _ hx)) g1 g2;refine ⟨⟨Int.emod_nonneg _ (by omega),Int.emod_lt_of_pos _ (by omega),i1⟩,?_⟩;simp only [dig,H,i2];exact Int.emod_add_mul_ediv n e
theorem S9:∀ (es:List Int) (n:Int),(dig es n).length=es.length
 | [],n=>rfl
 | e::es,n=>by simp [dig,S9 es]
theorem Su:∀ {es:List Int},(∃ e,e∈es∧e=0)→P es=0
 | [],h=>by obtain ⟨e,h,_⟩:=h;cases h
 | e::es,h=>by
  obtain ⟨x,hx,rfl⟩:=h;cases hx with
  | head=>simp [P]
  | tail _ hx=>rw [P,Su ⟨0,hx,rfl⟩];simp
theorem min_mul {a b m:Int} (ha:1≤a) (hb:1≤b) (hm:0≤m):min (min a m * b) m=min (a * b) m:=by
 rcases Int.le_total a m with h | h
 ·rw [Int.min_eq_left h]
 ·rw [Int.min_eq_right h];have h1:m * 1≤m * b:=ji hb hm;have h2:m * b≤a * b:=Int.mul_le_mul_of_nonneg_right h (by omega);omega
theorem Ot:∀ {xs:List Int} {a:Int},(∀ x,x∈xs→1≤x∧x≤512)→1≤a→a≤513→xs.foldl (fun a x=>mn (w (a * mn x 513)) 513) a=min (a * P xs) 513
 | [],a,_,h1,h2=>by simp [P];omega
 | x::xs,a,h,h1,h2=>by
  obtain ⟨g1,g2⟩:=h x (.head _);have m1:mn x 513=x:=by unfold mn;rw [if_neg (by omega)]
  have b1:1 * 1≤a * x:=Int.mul_le_mul h1 g1 (by omega) (by omega);have b2:a * x≤513 * 512:=Int.mul_le_mul h2 g2 (by omega) (by omega);have m2:mn (w (a * x)) 513=min (a * x) 513:=by
   rw [wJ (by omega) (by omega)];unfold mn;split<;>omega
  rw [fD,m1,m2,Ot (fun y hy=>h y (.tail _ hy)) (by omega) (by omega)];have hp:=QL (es:=xs) fun y hy=>(h y (.tail _ hy)).1
  rw [min_mul (by omega) hp (by omega),P,Int.mul_assoc]
structure Ok (p:List ai):Prop where
 len:p.length≤7
 num:∀ b,b∈p→num b=true
 big:∀ b,b∈p→aZ b≤512
 pos:∀ b,b∈p→0≤aZ b
 sz:lq (p.map aZ)≤512
theorem QW (b:ai):0≤aZ b:=by unfold aZ mx;split<;>omega
theorem zq {p:List ai} (h:Kz p=0):Ok p:=by
 unfold Kz at h;split at h
 ·cases h
 split at h
 ·cases h
 split at h
 ·cases h
 split at h
 ·cases h
 rename_i h1 h2 h3 h4
 refine ⟨by omega,fun b hb=>?_,fun b hb=>?_,fun b _=>QW b,by omega⟩
 ·simp only [kE,not_exists,not_and,Bool.not_eq_true',Bool.not_eq_false] at h2;exact h2 b hb
 ·simp only [kE,not_exists,not_and,iW] at h3;have:=h3 b hb;omega
theorem Nz {b:ai} (h:num b=true) : -2147483647≤b.Low∧b.Low≤2147483647 ∧ -2147483647≤b.High∧b.High≤2147483647:=by
 simp [num,bC,bn] at h;omega
theorem Xu {b:ai} (h:num b=true):aZ b=max 0 (b.High - b.Low+1):=by
 have:=Nz h;unfold aZ mx;rw [wJ (n:=b.High - b.Low) (by omega) (by omega),wJ (by omega) (by omega)];split<;>omega
theorem O8 {xs:List Int} (h:∀ x,x∈xs→0≤x∧x≤512) (hs:lq xs≤512):lq xs=P xs∧0≤P xs:=by
 unfold lq at hs ⊢;by_cases h0:xs.any (fun x=>0==x)=true
 ·rw [if_pos h0];have:P xs=0:=Su (by
   simp only [kE,lT] at h0;obtain ⟨x,h1,h2⟩:=h0;exact ⟨x,h1,h2.symm⟩)
  omega
 ·rw [if_neg h0] at hs ⊢;have hx:∀ x,x∈xs→1≤x∧x≤512:=fun x hx=>by
   obtain ⟨h1,h2⟩:=h x hx;simp only [kE,not_exists,not_and,lT] at h0;have:=h0 x hx;omega
  have:=Ot (a:=1) hx (by omega) (by omega);unfold Yu at hs ⊢;have hp:=QL fun x hq=>(hx x hq).1
  omega
theorem Ok.size {p:List ai} (h:Ok p):lq (p.map aZ)=P (p.map aZ)∧0≤P (p.map aZ)∧P (p.map aZ)≤512:=by
 have:=O8 (xs:=p.map aZ) (fun x hx=>by
  obtain ⟨b,hb,rfl⟩:=iR.1 hx;exact ⟨h.pos b hb,h.big b hb⟩) h.sz
 have hs:=h.sz;omega
def allIn:List ai→List Int→Bool
 | b::bs,x::xs=>bn x b.Low b.High&&allIn bs xs
 | _,_=>true
def Vs (bs:List ai) (xs:List Int):List Int:=(xs.zip bs).map fun p=>w (p.1 - p.2.Low)
def exs (bs:List ai):List Int:=bs.map aZ
theorem Vx {b:ai} {bs:List ai}:exs (b::bs)=aZ b::exs bs:=rfl
theorem Td {b:ai} {bs:List ai} {x:Int} {xs:List Int}:Vs (b::bs) (x::xs)=w (x - b.Low)::Vs bs xs:=rfl
theorem Qb {b:ai} {x:Int} (hn:num b=true) (h:bn x b.Low b.High=true):w (x - b.Low)=x - b.Low∧0≤x - b.Low∧x - b.Low < aZ b:=by
 have:=Nz hn;have he:=Xu hn;simp [bn] at h;refine ⟨wJ (by omega) (by omega),by omega,by omega⟩
theorem Ac:∀ {bs:List ai} {xs:List Int},bs.length=xs.length→(∀ b,b∈bs→num b=true)→allIn bs xs=true→inBase (exs bs) (Vs bs xs)
 | [],[],_,_,_=>trivial
 | b::bs,x::xs,hl,hn,h=>by
  simp only [allIn,bg] at h;obtain ⟨h1,h2,h3⟩:=Qb (hn b (.head _)) h.1;refine ⟨by show 0≤w (x - b.Low);rw [h1];exact h2,by show w (x - b.Low) < _;rw [h1];exact h3,Ac (by simpa using hl) (fun c hc=>hn c (.tail _ hc)) h.2⟩
 | [],_::_,hl,_,_=>by cases hl
 | _::_,[],hl,_,_=>by cases hl
def str:Int→List Int→List Int
 | _,[]=>[]
 | s,e::es=>s::str (w (s * e)) es
theorem PL:∀ (es:List Int) (s:Int),(str s es).length=es.length
 | [],s=>rfl
 | e::es,s=>by simp [str,PL es]
theorem QH:∀ (es:List Int) (s:Int) (acc:List Int),(es.foldl (fun (b:Int×List Int) e=>(w (b.1 * e),b.2++[b.1])) (s,acc)).2=acc++str s es
 | [],s,acc=>by simp [str]
 | e::es,s,acc=>by rw [fD,QH es];simp [str]
theorem RY {p:List Int} (h:p.length < 16777216):jZ p=some (str 1 p):=by
 unfold jZ;rw [nK (step:=jZ.s1 p) p (fun i (b:Int×List Int)=>(b.1,i,b.2)) (fun b=>b.2) (fun b e=>(w (b.1 * e),b.2++[b.1])) (fun i b=>b.2.length=i) (a:=(1,[])) rfl ?_ ?_ rfl (by omega)]
 ·simp only [ah];rw [QH];rfl
 ·intro i hi b hb;refine ⟨?_,by simp [hb]⟩;simp only [jZ.s1,iC hi,aG,jc hi,ah];rw [jT (by omega),wn (by omega)];rfl
 ·intro b _;simp only [jZ.s1,dh,au]
def V4 (_:Nat) (a:Int) (t:Int×ai×Int):Sum Unit Int:=if bn t.1 t.2.1.Low t.2.1.High=true then .inr (w (a+w (t.2.2 * w (t.1 - t.2.1.Low)))) else .inl ()
theorem Qz:∀ (bs:List ai) (xs:List Int) (s a:Int) (i:Nat),bs.length=xs.length→(∀ b,b∈bs→num b=true) →
  (allIn bs xs=false→gK V4 i (xs.zip (bs.zip (str s (exs bs)))) a = .inl ()) ∧
  (allIn bs xs=true→1≤s→s * P (exs bs)≤512→0≤a→a+512 * bs.length≤5000→gK V4 i (xs.zip (bs.zip (str s (exs bs)))) a = .inr (a+s * H (exs bs) (Vs bs xs)))
 | [],[],s,a,i,_,_=>⟨fun h=>(by cases h),fun _ _ _ _ _=>by simp [gK,exs,Vs,H]⟩
 | [],_::_,_,_,_,hl,_=>by cases hl
 | _::_,[],_,_,_,hl,_=>by cases hl
 | b::bs,x::xs,s,a,i,hl,hn=>by
  have ih:=fun s a=>Qz bs xs s a (i+1) (by simpa using hl) (fun c hc=>hn c (.tail _ hc))
  simp only [Vx,str,List.zip_cons_cons,gK];by_cases hi:bn x b.Low b.High=true
  ·have hf:V4 i a (x,b,s) = .inr (w (a+w (s * w (x - b.Low)))):=by unfold V4;rw [if_pos hi]
   rw [hf];refine ⟨fun h=>(ih _ _).1 (by simpa [allIn,hi] using h),fun h h1 h2 h3 h4=>?_⟩;have ha:allIn bs xs=true:=by simpa [allIn,hi] using h
   obtain ⟨d1,d2,d3⟩:=Qb (hn b (.head _)) hi;have hb:=Ac (by simpa using hl) (fun c hc=>hn c (.tail _ hc)) ha;have hp:1≤P (exs bs):=QL (Eb hb);have e0:s * P (aZ b::exs bs)=s * aZ b * P (exs bs):=by simp [P,Int.mul_assoc]
   have e1:1 * 1≤s * aZ b:=Int.mul_le_mul h1 (by omega) (by omega) (by omega);have e2:s * aZ b * 1≤s * aZ b * P (exs bs):=ji hp (by omega);have e3:s * (x - b.Low)≤s * aZ b:=ji (by omega) (by omega);have e4:0≤s * (x - b.Low):=Int.mul_nonneg (by omega) d2;rw [e0] at h2;simp only [gq] at h4;have w1:w (s * aZ b)=s * aZ b:=wJ (by omega) (by omega);have w2:w (s * w (x - b.Low))=s * (x - b.Low):=by rw [d1];exact wJ (by omega) (by omega)
   have w3:w (a+s * (x - b.Low))=a+s * (x - b.Low):=wJ (by omega) (by omega);simp only [w1,w2,w3];have:=(ih (s * aZ b) (a+s * (x - b.Low))).2 ha (by omega) h2 (by omega) (by omega);rw [this,Td,H,d1,Int.mul_add,← Int.mul_assoc,Int.add_assoc]
  ·have hf:V4 i a (x,b,s) = .inl ():=by unfold V4;rw [if_neg hi]
   rw [hf];exact ⟨fun _=>rfl,fun h=>by simp [allIn,hi] at h⟩
def Y1 (bs:List ai) (xs:List Int):Int:=if Kz bs≠0 then Kz bs else if (xs.length:Int)≠(bs.length:Int) then 32 else if allIn bs xs=true then 0 else 33
def off (bs:List ai) (xs:List Int):Int:=H (exs bs) (Vs bs xs)
set_option linter.unusedVariables false
set_option linter.unusedSimpArgs false
theorem OD {p:List ai} (h:p.length < 16777216):jJ p=some (exs p):=JF h
theorem Bq {p:List ai} (h:p.length < 16777216):jO p=some (exs p):=DD h
theorem Hu:∀ {es ds:List Int},inBase es ds→P es≤512→(∀ e,e∈es→e≤512)→(es.zip ds).foldr (fun (t:Int×Int) b=>w (w (b * t.1)+t.2)) 0=H es ds
 | [],[],_,_,_=>rfl
 | [],_::_,h,_,_=>by cases h
 | _::_,[],h,_,_=>by cases h
 | e::es,d::ds,h,hp,hb=>by
  have hpos:=Eb h;have ht:=Yj hpos;have hr:=Ko h;obtain ⟨h1,h2,h3⟩:=h;have hq:=Ko h3;rw [List.zip_cons_cons,List.foldr_cons,Hu h3 (by omega) (fun x hx=>hb x (.tail _ hx))];simp only [H] at hr ⊢;rw [Int.mul_comm e] at hr;have e0:0≤H es ds * e:=Int.mul_nonneg hq.1 (by omega);have e1:w (H es ds * e)=H es ds * e:=wJ (by omega) (by omega);rw [e1,wJ (by omega) (by omega),Int.mul_comm e];omega
theorem Pi {es ds:List Int} (h:inBase es ds) (hp:P es≤512) (hb:∀ e,e∈es→e≤512) (hl:es.length=ds.length) (hn:es.length < 16777216):mV es ds=some (H es ds):=by
 unfold mV;have hlen:(es.zip ds).reverse.length=es.length:=by simp;omega
 rw [nK (step:=mV.s1 es ds) (es.zip ds).reverse (fun i (b:Int)=>(b,(es.length:Int) - 1 - i)) (fun b=>b) (fun b (t:Int×Int)=>w (w (b * t.1)+t.2)) (fun _ _=>True) (a:=0) (by rw [wJ (by omega) (by omega)];simp) ?_ ?_ trivial (by omega)]
 ·rw [List.foldl_reverse,Hu h hp hb];rfl
 ·intro i hi b _;refine ⟨?_,trivial⟩;rw [hlen] at hi;have c:((es.length:Int) - 1 - (i:Int))=((es.length - 1 - i:Nat):Int):=by omega
  have k:es.length - 1 - i < es.length:=by omega
  have k2:es.length - 1 - i < ds.length:=by omega
  simp only [mV.s1,c];rw [if_pos (by omega),jc k,jc k2];simp only [ah];have hz:(es.zip ds).reverse[i]'(by omega)=(es[es.length - 1 - i],ds[es.length - 1 - i]):=by
   rw [List.getElem_reverse];simp only [List.getElem_zip,List.length_zip];have:min es.length ds.length - 1 - i=es.length - 1 - i:=by omega
   simp only [this]
  rw [hz];have e2:w (((es.length - 1 - i:Nat):Int) - 1)=(es.length:Int) - 1 - ((i+1:Nat):Int):=by rw [wJ (by omega) (by omega)];omega
  rw [e2]
 ·intro b _;rw [hlen];simp only [mV.s1];rw [if_neg (by omega)]
theorem NI {bs:List ai} {xs:List Int} (h:Y1 bs xs=0):mi bs xs=some (off bs xs):=by
 unfold Y1 at h;split at h
 ·rename_i hb;exact absurd h hb
 rename_i hb
 split at h
 ·cases h
 rename_i hl
 split at h
 ·rename_i ha
  have ok:=zq (aI.1 hb);have hl7:=ok.len;have hll:bs.length=xs.length:=by omega
  have hlen:(xs.zip bs).length=bs.length:=by simp;omega
  unfold mi;rw [tZ (step:=mi.s1 bs xs) (xs.zip bs) (fun p=>w (p.1 - p.2.Low)) (fun i b=>(i,b)) (fun b=>b) rfl ?_ ?_ (by omega)]
  ·simp only [ah];rw [Bq (by omega)];simp only [ah];have hsz:=ok.size
   show ((mV (exs bs) (Vs bs xs)).bind fun x8=>some x8)=_
   rw [Pi (es:=exs bs) (ds:=Vs bs xs) (Ac hll ok.num ha) hsz.2.2 (fun e he=>by obtain ⟨b,hb,rfl⟩:=iR.1 he;exact ok.big b hb) (by simp [exs,Vs];omega) (by simp [exs];omega)];rfl
  ·intro i hi b hbl;rw [hlen] at hi;have h1:i < xs.length:=by omega
   simp only [mi.s1,iC hi,aG,jc hi,jc h1,ah,List.getElem_zip];rw [jT (by omega),wn (by omega)];rfl
  ·intro b;rw [hlen];simp only [mi.s1,dh,au]
 ·cases h
theorem KI:∀ (es:List Int) (n:Int) (acc:List Int),(es.foldl (fun (b:Int×List Int) e=>(b.1 / e,b.2++[b.1 % e])) (n,acc)).2=acc++dig es n
 | [],n,acc=>by simp [dig]
 | e::es,n,acc=>by rw [fD,KI es];simp [dig]
theorem WO {n e:Int} (hn:0≤n) (hb:n≤4611686018427387904) (he:1≤e):rem n e=some (n % e)∧quo .i64 n e=some (n / e)∧0≤n / e∧n / e≤n:=by
 have h0:¬ e=0:=by omega
 have h1:0≤n / e:=Int.ediv_nonneg hn (by omega);have h2:n / e≤n:=Int.ediv_le_self e hn;refine ⟨by unfold rem;rw [if_neg h0,Int.tmod_eq_emod_of_nonneg hn],?_,h1,h2⟩;unfold quo;rw [if_neg h0,Int.tdiv_eq_ediv_of_nonneg hn];exact congrArg some (wJ (n:=n / e) (by omega) (by omega))
theorem Tc {es:List Int} {n:Int} (h:∀ e,e∈es→1≤e) (h0:0≤n) (hb:n≤4611686018427387904) (hl:es.length < 16777216):lg es n=some (dig es n):=by
 unfold lg;rw [nK (step:=lg.s1 es) es (fun i (b:Int×List Int)=>(b.1,i,b.2)) (fun b=>b.2) (fun b e=>(b.1 / e,b.2++[b.1 % e])) (fun i b=>b.2.length=i∧0≤b.1∧b.1≤4611686018427387904) (a:=(n,[])) rfl ?_ ?_ ⟨rfl,h0,hb⟩ (by omega)]
 ·simp only [ah];rw [KI];rfl
 ·rintro i hi b ⟨k1,k2,k3⟩
  obtain ⟨d1,d2,d3,d4⟩:=WO k2 k3 (h es[i] (dE hi));refine ⟨?_,by simp [k1],d3,by simp only;omega⟩;simp only [lg.s1,iC hi,aG,jc hi,ah,d1,d2];rw [jT (by omega),wn (by omega)];rfl
 ·intro b _;simp only [lg.s1,dh,au]
theorem LH {es:List Int} {n:Int} (h:∀ e,e∈es→1≤e) (h0:0≤n) (hb:n≤4611686018427387904) (hl:es.length < 16777216):kV es n=some (dig es n):=by
 unfold kV;rw [nK (step:=kV.s1 es) es (fun i (b:Int×List Int)=>(b.1,i,b.2)) (fun b=>b.2) (fun b e=>(b.1 / e,b.2++[b.1 % e])) (fun i b=>b.2.length=i∧0≤b.1∧b.1≤4611686018427387904) (a:=(n,[])) rfl ?_ ?_ ⟨rfl,h0,hb⟩ (by omega)]
 ·simp only [ah];rw [KI];rfl
 ·rintro i hi b ⟨k1,k2,k3⟩
  obtain ⟨d1,d2,d3,d4⟩:=WO k2 k3 (h es[i] (dE hi));refine ⟨?_,by simp [k1],d3,by simp only;omega⟩;simp only [kV.s1,iC hi,aG,jc hi,ah,d1,d2];rw [jT (by omega)];simp only [ah];rw [wn (by omega)]
 ·intro b _;simp only [kV.s1,dh,au]
set_option linter.unusedVariables false
set_option linter.unusedSimpArgs false
def Vl (xs:List Int):Sum Nat Unit:=gK (fun i b x=>if eF x=true then .inr b else .inl i) 0 xs ()
def chk (a:ae):Int×Int :=
 if Kz a.Bounds≠0 then (0,Kz a.Bounds)
 else if (a.Elements.length:Int)≠lq (exs a.Bounds) then (0,10)
 else match Vl a.Elements with | .inl i=>((i:Int),2) | .inr _=>(0,0)
theorem Nc (x:Int):kW x=eF x:=by unfold kW eF;exact DL _ _ _
theorem KF {a:ae} (h:a.Elements.length < 16777216):pG a=some (chk a):=by
 unfold pG chk;rw [EU];simp only [ah];by_cases hb:Kz a.Bounds=0
 ·have hl7:=(zq hb).len;simp only [hb,di,au,ne_eq];rw [size_eq (by omega)];simp only [ah];by_cases hl:(a.Elements.length:Int)=lq (exs a.Bounds)
  ·have hl':(a.Elements.length:Int)=lq (a.Bounds.map aZ):=hl;simp only [hl',hl,di,au];unfold bZ;rw [jS (step:=bZ.s1 a.Elements) a.Elements (fun i (_:Unit)=>i) (fun k:Nat=>Sum.inr ((k:Int),2)) (fun _=>Sum.inl ()) (fun i b x=>if eF x=true then .inr b else .inl i) (fun _ _=>True) (a:=()) rfl ?_ ?_ trivial (by omega)]
   ·unfold Vl;cases gK (fun i b x=>if eF x=true then Sum.inr b else Sum.inl i) 0 a.Elements ()<;>simp [hl,exs]
   ·intro i hi b _;refine ⟨?_,fun _ _=>trivial⟩;simp only [bZ.s1,iC hi,aG,jc hi,ah,oO,SK];by_cases hq:eF a.Elements[i]=true
    ·simp only [hq,aG,di,au];rw [wn (by omega)]
    ·simp only [hq,au,aF];simp
   ·intro b _;simp only [bZ.s1,dh,au]
  ·have hl':¬ (a.Elements.length:Int)=lq (a.Bounds.map aZ):=hl;simp [hl',hl,exs]
 ·simp [hb]
theorem Ph {a:ae} (h:a.Elements.length < 16777216):nN a=some (chk a):=by
 unfold nN chk;rw [zS];simp only [ah];by_cases hb:Kz a.Bounds=0
 ·have hl7:=(zq hb).len;simp only [hb,di,au,ne_eq];rw [Bq (by omega)];simp only [ah];rw [yL (by simp [exs];omega)];simp only [ah];by_cases hl:(a.Elements.length:Int)=lq (exs a.Bounds)
  ·simp only [hl,di,au];rw [jS (step:=nN.s1 a) a.Elements (fun i (_:Unit)=>i) (fun k:Nat=>Sum.inr ((k:Int),2)) (fun _=>Sum.inl ()) (fun i b x=>if eF x=true then .inr b else .inl i) (fun _ _=>True) (a:=()) rfl ?_ ?_ trivial (by omega)]
   ·unfold Vl;cases gK (fun i b x=>if eF x=true then Sum.inr b else Sum.inl i) 0 a.Elements ()<;>rfl
   ·intro i hi b _;refine ⟨?_,fun _ _=>trivial⟩;simp only [nN.s1,iC hi,aG,jc hi,ah,Nc];by_cases hq:eF a.Elements[i]=true
    ·simp only [hq,aG,di,au];rw [wn (by omega)]
    ·simp only [hq,au,aF,aQ,aG]
   ·intro b _;simp only [nN.s1,dh,au]
  ·simp [hl]
 ·simp [hb]
theorem Uy {a:ae} (h:a.Elements.length < 16777216):zN a=some (chk a).2:=by
 unfold zN;rw [Ph h];rfl
theorem JZ {a:ae} (h1:a.Bounds.length≤16777216) (h:a.Elements.length < 16777216):vS a=some a:=by
 unfold vS;rw [KG h1,vV (by omega)];rfl
set_option linter.unusedVariables false
set_option linter.unusedSimpArgs false
theorem Xn (a b c:Bool):gY [aK.mk a 3,aK.mk b 11,aK.mk c 2]=some (if a=true then (if b=true then (if c=true then 0 else 2) else 11) else 3):=by
 cases a<;>cases b<;>cases c<;>decide +kernel
def XE (s:ay):Bool:=(((s.Kind != 2) || (s.Low==0))&&((s.Kind==1) || ((s.High==0)&&(s.Step==0))))&&((s.Kind==2) || ((s.List.length:Int)==0))
def nums (s:ay):Bool:=bC s.Low&&bC s.High&&bC s.Step
def UF (s:ay):Int:=if ¬ bn s.Kind 0 2=true then 15 else if XE s=false then 3 else if (s.Kind==1&&s.Step==0)=true then 11 else if nums s=true then 0 else 2
theorem I5 (s:ay):nT s=some (UF s):=by
 unfold nT UF;have hf:((((s.Kind != 2) || (s.Low==0))&&((s.Kind==1) || ((s.High==0)&&(s.Step==0))))&&((s.Kind==2) || ((s.List.length:Int)==0)))=XE s:=rfl;simp only [hf,Xn];by_cases hk:bn s.Kind 0 2=true
 ·simp only [hk,di,au];unfold nums;cases XE s
  ·simp only [aF,au,aG,ah]
   repeat' split
   all_goals rfl
  ·by_cases h1:s.Kind=1
   ·by_cases h2:s.Step=0
    ·simp [h1,h2]
    ·by_cases h3:bC s.Low=true
     ·by_cases h4:bC s.High=true
      ·by_cases h5:bC s.Step=true<;>simp [h1,h2,h3,h4,h5]
      ·simp [h1,h2,h3,h4]
     ·simp [h1,h2,h3]
   ·by_cases h3:bC s.Low=true
    ·by_cases h4:bC s.High=true
     ·by_cases h5:bC s.Step=true<;>simp [h1,h3,h4,h5]
     ·simp [h1,h3,h4]
    ·simp [h1,h3]
 ·simp only [hk,aQ,aG,aF]
theorem J7 {a b:Int} (hb:1≤b) : -(a.natAbs:Int)≤a.tdiv b∧a.tdiv b≤a.natAbs:=by
 rcases Int.le_total 0 a with h | h
 ·rw [Int.tdiv_eq_ediv_of_nonneg h];have h1:0≤a / b:=Int.ediv_nonneg h (by omega);have h2:a / b≤a:=Int.ediv_le_self b h;omega
 ·have e:a.tdiv b = -((-a).tdiv b):=by rw [Int.neg_tdiv];omega
  rw [e,Int.tdiv_eq_ediv_of_nonneg (by omega)];have h1:0≤(-a) / b:=Int.ediv_nonneg (by omega) (by omega);have h2:(-a) / b ≤ -a:=Int.ediv_le_self b (by omega);omega
theorem Uw {a b:Int} (ha : -1099511627776≤a∧a≤1099511627776) (hb:1≤b):quo .i64 a b=some (a.tdiv b):=by
 have:=J7 (a:=a) hb;unfold quo;rw [if_neg (by omega)];exact congrArg some (wJ (n:=a.tdiv b) (by omega) (by omega))
theorem P8 {a b:Int} (ha : -1099511627776≤a∧a≤1099511627776) (hb:1≤b):vO a b=some (a / b):=by
 unfold vO;rw [Uw ha hb];have hr:rem a b=some (a.tmod b):=by unfold rem;rw [if_neg (by omega)]
 rw [hr];simp only [ah];have t:=J7 (a:=a) hb;have e1:=Int.tdiv_eq_ediv (a:=a) (b:=b);have e2:=Int.tmod_eq_emod (a:=a) (b:=b);have m1:=Int.emod_nonneg a (b:=b) (by omega);have m2:=Int.emod_lt_of_pos a (b:=b) (by omega);have sg:b.sign=1:=Int.sign_eq_one_of_pos (by omega);have nb:(b.natAbs:Int)=b:=by omega
 unfold ni;by_cases hd:0≤a∨b ∣ a
 ·rw [if_pos hd] at e1 e2;have:¬ a.tmod b < 0:=by omega
  simp only [this,decide_false,aF,au];rw [wJ (by omega) (by omega)];exact congrArg some (by omega)
 ·rw [if_neg hd] at e1 e2;have:a.tmod b < 0:=by omega
  simp only [this,decide_true,aG];rw [wJ (by omega) (by omega)];exact congrArg some (by omega)
def cnt (s:ay):Int:=if s.Step < 0 then max 0 ((s.Low - s.High) / (-s.Step)+1) else max 0 ((s.High - s.Low) / s.Step+1)
theorem JV {s:ay} (h:nums s=true):(-2147483647≤s.Low∧s.Low≤2147483647)∧(-2147483647≤s.High∧s.High≤2147483647)∧(-2147483647≤s.Step∧s.Step≤2147483647):=by
 simp [nums,bC,bn] at h;omega
theorem Qh {a:Int}:mx 0 a=max 0 a:=by unfold mx;split<;>omega
theorem GZ {d s:Int} (hs:1≤s):max 0 ((d+s).tdiv s)=max 0 (d / s+1):=by
 have e:(d+s) / s=d / s+1:=Int.add_ediv_of_dvd_right (Int.dvd_refl s) |>.trans (by rw [Int.ediv_self (by omega)])
 rcases Int.le_total 0 (d+s) with h | h
 ·rw [Int.tdiv_eq_ediv_of_nonneg h,e]
 ·have e1:(d+s).tdiv s = -((-(d+s)).tdiv s):=by rw [Int.neg_tdiv];omega
  have e2:0≤(-(d+s)).tdiv s:=by rw [Int.tdiv_eq_ediv_of_nonneg (by omega)];exact Int.ediv_nonneg (by omega) (by omega)
  have e3:(d+s) / s≤0:=by
   have:=Int.ediv_le_ediv (a:=d+s) (b:=0) (c:=s) (by omega) h;simpa using this
  omega
theorem count_eq {s:ay} (h:nums s=true) (hs:s.Step≠0):uQ s=some (cnt s):=by
 obtain ⟨r1,r2,r3⟩:=JV h;unfold uQ cnt;by_cases hp:s.Step > 0
 ·rw [if_pos hp,if_neg (by omega)];rw [wJ (n:=s.High - s.Low) (by omega) (by omega),wJ (by omega) (by omega),Uw (by omega) (by omega)];simp only [ah];rw [Qh,GZ (by omega)]
 ·rw [if_neg hp,if_pos (by omega)];rw [wJ (n:=s.Low - s.High) (by omega) (by omega),wJ (by omega) (by omega),wJ (n:=0 - s.Step) (by omega) (by omega),Uw (by omega) (by omega)];simp only [ah];have e:s.Low - s.High - s.Step=s.Low - s.High + -s.Step:=by omega
  have e':0 - s.Step = -s.Step:=by omega
  rw [Qh,e,e',GZ (by omega)]
theorem MJ {s:ay} (h:nums s=true) (hs:s.Step≠0):0≤cnt s:=by unfold cnt;split<;>omega
def WT (s:ay):List Int:=if s.Kind=0 then [s.Low] else if s.Kind=1 then (List.range (cnt s).toNat).map (fun i:Nat=>w (s.Low+w ((i:Int) * s.Step))) else s.List
def sel (b:ai) (s:ay):List Int×Int :=
 if UF s≠0 then ([],UF s)
 else if s.Kind=1∧cnt s > 512 then ([],8)
 else if s.Kind=2∧(s.List.length:Int) > 512 then ([],8)
 else if (WT s).any (fun x=>!bn x b.Low b.High)=true then ([],33)
 else (WT s,0)
theorem Ia (b:ai) {l:List Int} (h:l.length < 16777216):gB.j1 b l=some (if l.any (fun x=>!bn x b.Low b.High)=true then ([],33) else (l,0)):=by
 unfold gB.j1 ik dA;obtain ⟨k,hk⟩:=vJ (step:=dA.s1 l b) l (fun x=>!bn x b.Low b.High) (fun i=>Sum.inr i) (Sum.inl ()) (s:=0) rfl (fun i hi=>by
  simp only [dA.s1,iC hi,aG,jc hi,ah];have e1:pI l[i] b=!bn l[i] b.Low b.High:=rfl;rw [wn (by omega),e1];by_cases hq:(!bn l[i] b.Low b.High)=true
  ·rw [if_pos hq,if_pos hq]
  ·rw [if_neg hq,if_neg hq]) (by simp only [dA.s1,dh,au]) (by omega)
 rw [hk];by_cases e:l.any (fun x=>!bn x b.Low b.High)=true
 ·rw [if_pos e,if_pos e];simp
 ·rw [if_neg e,if_neg e];rfl
theorem EH (b:ai) {l:List Int} (h:l.length < 16777216):dH.j1 b l=some (if l.any (fun x=>!bn x b.Low b.High)=true then ([],33) else (l,0)):=by
 unfold dH.j1;rw [oz (step:=dH.s2 b l) l (fun x=>if (!bn x b.Low b.High)=true then some (([]:List Int),(33:Int)) else none) (fun c=>Sum.inr c) (Sum.inl ()) rfl ?_ ?_ (by omega),rH]
 ·by_cases e:l.any (fun x=>!bn x b.Low b.High)=true
  ·rw [if_pos e,if_pos e];rfl
  ·rw [if_neg e,if_neg e];rfl
 ·intro i hi;simp only [dH.s2,iC hi,aG,jc hi,ah,DL];by_cases hq:bn l[i] b.Low b.High=true
  ·simp only [hq,di,au,Bool.not_true,aF];rw [wn (by omega)]
  ·simp only [hq,aQ,aG,Bool.not_false,aF]
 ·simp only [dH.s2,dh,au]
theorem JY {τ:Type} {step:Int×List Int→Option (Sum (Int×List Int) τ)} (n:Int) (g:Nat→Int) (fin:List Int→τ) (h0:0≤n) (hn:n < 16777216)
  (h:∀ i:Nat,(i:Int) < n→∀ b:List Int,b.length=i→step (i,b)=some (.inl (((i+1:Nat):Int),b++[g i]))) (hend:∀ b,step (n,b)=some (.inr (fin b))) :
  gV step (0,[])=some (fin ((List.range n.toNat).map g)):=by
 have hl:(List.range n.toNat).length=n.toNat:=by simp
 have hc:((List.range n.toNat).length:Int)=n:=by rw [hl];omega
 refine tZ (step:=step) (List.range n.toNat) g (fun i b=>(i,b)) fin rfl ?_ ?_ (by omega)
 ·intro i hi b hb;have:(List.range n.toNat)[i]=i:=by simp
  rw [this];exact h i (by omega) b hb
 ·intro b;rw [hc];exact hend b
theorem Ed {s:ay} (h:UF s=0):(s.Kind=0∨s.Kind=1∨s.Kind=2)∧XE s=true∧(s.Kind=1→s.Step≠0)∧nums s=true:=by
 unfold UF at h;split at h
 ·cases h
 rename_i h1
 split at h
 ·cases h
 rename_i h2
 split at h
 ·cases h
 rename_i h3
 split at h
 ·rename_i h4
  refine ⟨?_,by simpa using h2,?_,h4⟩
  ·simp [bn] at h1;omega
  ·intro q1 q2;exact h3 (by simp [q1,q2])
 ·cases h
theorem Q7 (b:ai) (s:ay) (hl:s.List.length < 16777216):gB b s=some (sel b s):=by
 unfold gB sel;rw [I5];simp only [ah];by_cases he:UF s=0
 ·obtain ⟨hk,hf,hs,hn⟩:=Ed he;simp only [he,di,au,ne_eq];unfold WT;rcases hk with k | k | k
  ·simp only [k,aG];rw [Ia b (by simp)];simp
  ·have hz:=hs k;simp only [k,aG,show ¬ (1:Int)=0 by decide,au,show ¬ (1:Int)=2 by decide,false_and,true_and];rw [count_eq hn hz];simp only [ah];by_cases hc:cnt s > 512
   ·simp only [hc,aG]
   ·simp only [hc,au];rw [JY (step:=gB.s2 s (cnt s)) (cnt s) (fun i:Nat=>w (s.Low+w ((i:Int) * s.Step))) (fun b=>b) (MJ hn hz) (by omega) ?_ ?_]
    ·simp only [ah];rw [Ia b (by simp;omega)]
    ·intro i hi b hb;simp only [gB.s2,hi,aG];rw [jT (by omega)];simp only [ah];rw [wn (by omega)]
    ·intro b;simp only [gB.s2,Int.lt_irrefl,au]
  ·simp only [k,show ¬ (2:Int)=0 by decide,au,show ¬ (2:Int)=1 by decide,false_and,true_and];by_cases hc:(s.List.length:Int) > 512
   ·simp only [hc,aG]
   ·simp only [hc,au];unfold slices_Clone_int;rw [Kw (by omega)];simp only [ah];rw [Ia b (by omega)]
 ·simp [he]
theorem XD (s:ay):((((s.Kind != 1)&&((s.High != 0) || (s.Step != 0))) || ((s.Kind==2)&&(s.Low != 0))) || ((s.Kind != 2)&&(decide ((s.List.length:Int) > 0))))=!XE s:=by
 unfold XE;have e:decide ((s.List.length:Int) > 0)=!((s.List.length:Int)==0):=by
  by_cases h:(s.List.length:Int)=0
  ·simp [h]
  ·have h1:(s.List.length:Int) > 0:=by omega
   have h2:((s.List.length:Int)==0)=false:=by simpa using h
   rw [h2,decide_eq_true h1];rfl
 rw [e];simp only [bne];generalize (s.Kind==1)=a;generalize (s.Kind==2)=b;generalize (s.High==0)=c;generalize (s.Step==0)=d;generalize (s.Low==0)=f;generalize ((s.List.length:Int)==0)=g;cases a<;>cases b<;>cases c<;>cases d<;>cases f<;>cases g<;>rfl
theorem PE (b:ai) (s:ay) (hl:s.List.length < 16777216):dH b s=some (if num b=true then sel b s else ([],2)):=by
 unfold dH;rw [XD];simp only [DL,dZ];have hb:((!(bn b.Low (-2147483647) 2147483647)) || (!(bn b.High (-2147483647) 2147483647)))=!num b:=by unfold num bC;simp
 have hs:(((!(bn s.Low (-2147483647) 2147483647)) || (!(bn s.High (-2147483647) 2147483647))) || (!(bn s.Step (-2147483647) 2147483647)))=!nums s:=by unfold nums bC;simp
 rw [hb,hs];by_cases hn:num b=true
 ·simp only [hn,Bool.not_true,aF,au,aG];unfold sel;by_cases he:UF s=0
  ·obtain ⟨hk,hf,hst,hnn⟩:=Ed he;have hin:bn s.Kind 0 2=true:=by simp [bn];omega
   have hks:((s.Kind==1)&&(s.Step==0))=false:=by
    by_cases k:s.Kind=1
    ·simp [k,hst k]
    ·simp [k]
   simp only [hin,di,au,hf,Bool.not_true,aF,hks,hnn,he,ne_eq];unfold WT;obtain ⟨r1,r2,r3⟩:=JV hnn;rcases hk with k | k | k
   ·simp only [k,aG];rw [EH b (by simp)];simp
   ·have hz:=hst k;simp only [k,aG,show ¬ (1:Int)=0 by decide,au,show ¬ (1:Int)=2 by decide,false_and,true_and];have j3:dH.j3 b s (cnt s)=some (if cnt s > 512 then ([],8) else if ((List.range (cnt s).toNat).map (fun i:Nat=>w (s.Low+w ((i:Int) * s.Step)))).any (fun x=>!bn x b.Low b.High)=true then ([],33) else ((List.range (cnt s).toNat).map (fun i:Nat=>w (s.Low+w ((i:Int) * s.Step))),0)):=by
     unfold dH.j3;by_cases hc:cnt s > 512
     ·simp only [hc,aG]
     ·simp only [hc,au];rw [JY (step:=dH.s4 s (cnt s)) (cnt s) (fun i:Nat=>w (s.Low+w ((i:Int) * s.Step))) (fun b=>b) (MJ hnn hz) (by omega) ?_ ?_]
      ·simp only [ah];rw [EH b (by simp;omega)]
      ·intro i hi b hb;simp only [dH.s4,hi,aG];rw [jT (by omega)];simp only [ah];rw [wn (by omega)]
      ·intro b;simp only [dH.s4,Int.lt_irrefl,au]
    have sz:kH s.Step=if s.Step < 0 then -s.Step else s.Step:=by
     unfold kH;split
     ·rw [wJ (by omega) (by omega)];omega
     ·rfl
    have sz1:1≤kH s.Step∧kH s.Step≤2147483647:=by rw [sz];split<;>omega
    rw [wJ (n:=s.High - s.Low) (by omega) (by omega),wJ (n:=s.Low - s.High) (by omega) (by omega),P8 (by omega) (by omega),P8 (by omega) (by omega)];simp only [ah];have div_le:∀ a:Int, -4294967296≤a→a≤4294967296 → -4294967297≤a / kH s.Step∧a / kH s.Step≤4294967296:=by
     intro a h1 h2;refine ⟨?_,?_⟩
     ·have:(-4294967297) * kH s.Step≤a:=by
       have:=ji (a:=1) (b:=kH s.Step) (c:=4294967297) sz1.1 (by omega);omega
      exact (Int.le_ediv_iff_mul_le (by omega)).2 this
     ·have:a / kH s.Step < 4294967297:=Int.ediv_lt_of_lt_mul (by omega) (by
       have:=ji (a:=1) (b:=kH s.Step) (c:=4294967297) sz1.1 (by omega);omega)
      omega
    have d1:=div_le (s.High - s.Low) (by omega) (by omega);have d2:=div_le (s.Low - s.High) (by omega) (by omega);rw [wJ (n:=(s.High - s.Low) / kH s.Step+1) (by omega) (by omega),wJ (n:=(s.Low - s.High) / kH s.Step+1) (by omega) (by omega),Qh,Qh];by_cases hneg:s.Step < 0
    ·rw [if_pos hneg];have:max 0 ((s.Low - s.High) / kH s.Step+1)=cnt s:=by unfold cnt;rw [if_pos hneg,sz,if_pos hneg]
     rw [this,j3]
    ·rw [if_neg hneg];have:max 0 ((s.High - s.Low) / kH s.Step+1)=cnt s:=by unfold cnt;rw [if_neg hneg,sz,if_neg hneg]
     rw [this,j3]
   ·simp only [k,show ¬ (2:Int)=0 by decide,au,show ¬ (2:Int)=1 by decide,false_and,true_and];by_cases hc:(s.List.length:Int) > 512
    ·simp only [hc,aG]
    ·simp only [hc,au];rw [vV (by omega)];simp only [ah];rw [EH b (by omega)]
  ·simp only [he,aQ,aG,ne_eq];unfold UF at he ⊢;by_cases h1:bn s.Kind 0 2=true
   ·simp only [h1,di,au] at he ⊢;cases hf:XE s
    ·simp
    ·simp only [hf,Bool.true_eq_false,au,Bool.not_true,aF] at he ⊢;by_cases h2:((s.Kind==1)&&(s.Step==0))=true
     ·simp only [h2,aG]
     ·simp only [h2,au,aF] at he ⊢;by_cases h3:nums s=true
      ·simp [h3] at he
      ·simp [h3]
   ·simp only [h1,aQ,aG,aF]
 ·simp [hn]
set_option linter.unusedVariables false
set_option linter.unusedSimpArgs false
abbrev Sec:=List Int×List (List Int)×List Int
def LX (_:Nat) (v:Sec) (t:ai×ay):Sum Int Sec :=
 if (sel t.1 t.2).2≠0 then .inl (sel t.1 t.2).2
 else .inr (if t.2.Kind≠0 then v.1++[((sel t.1 t.2).1.length:Int)] else v.1,v.2.1++[(sel t.1 t.2).1],v.2.2++[((sel t.1 t.2).1.length:Int)])
def QD (i:Nat) (v:Sec):Prop:=v.1.length≤i∧v.2.1.length=i∧v.2.2.length=i
theorem IX {i:Nat} {v v':Sec} {t:ai×ay} (h:QD i v) (e:LX i v t = .inr v'):QD (i+1) v':=by
 obtain ⟨h1,h2,h3⟩:=h;unfold LX at e;split at e
 ·cases e
 ·cases e;refine ⟨?_,by simp [h2],by simp [h3]⟩;simp only;split
  ·simp;omega
  ·omega
theorem WZ:∀ {T:List (ai×ay)} {i:Nat} {v v':Sec},gK LX i T v = .inr v' →
  v'.2.1=v.2.1++T.map (fun t=>(sel t.1 t.2).1)∧v'.2.2=v.2.2++T.map (fun t=>((sel t.1 t.2).1.length:Int))∧∀ t,t∈T→(sel t.1 t.2).2=0
 | [],i,v,v',h=>by cases h;simp
 | t::T,i,v,v',h=>by
  simp only [gK] at h;cases hf:LX i v t with
  | inl e=>rw [hf] at h;cases h
  | inr v2 =>
   rw [hf] at h;obtain ⟨g1,g2,g3⟩:=WZ h;unfold LX at hf;split at hf
   ·cases hf
   ·rename_i hs
    cases hf;refine ⟨by rw [g1];simp,by rw [g2];simp,?_⟩;intro u hu;cases hu with
    | head=>exact aI.1 hs
    | tail _ hu=>exact g3 u hu
def yN (p:List ai) (q:List ay):Sum Int Sec:=gK LX 0 (p.zip q) ([],[],[])
def picks (lists:List (List Int)) (ds:List Int):List Int:=ds.mapIdx fun j d=>(((lists[j]?).getD [])[d.toNat]?).getD 0
theorem IJ (lists:List (List Int)) (ds:List Int):(picks lists ds).length=ds.length:=by simp [picks]
theorem Rq (l:List Int) (lists:List (List Int)) (d:Int) (ds:List Int):picks (l::lists) (d::ds)=((l[d.toNat]?).getD 0)::picks lists ds:=by
 simp [picks,List.mapIdx_cons]
theorem Qp:∀ {bs:List ai} {lists:List (List Int)} {ds:List Int},bs.length=lists.length→(∀ t,t∈bs.zip lists→∀ x,x∈t.2→bn x t.1.Low t.1.High=true)→inBase (lists.map fun l=>(l.length:Int)) ds→allIn bs (picks lists ds)=true∧(picks lists ds).length=bs.length
 | [],[],[],_,_,_=>⟨rfl,rfl⟩
 | [],[],_::_,_,_,h=>by cases h
 | [],_::_,_,h,_,_=>by cases h
 | _::_,[],_,h,_,_=>by cases h
 | _::_,_::_,[],_,_,h=>by cases h
 | b::bs,l::lists,d::ds,hl,hin,h=>by
  obtain ⟨h1,h2,h3⟩:=h;obtain ⟨i1,i2⟩:=Qp (bs:=bs) (by simpa using hl) (fun t ht=>hin t (by simp;exact .inr (by simpa using ht))) h3;have hd:d.toNat < l.length:=by have h2':d < (l.length:Int):=h2;omega
  have hx:(l[d.toNat]?).getD 0=l[d.toNat]:=by simp [hd]
  have hi:=hin (b,l) (by simp) l[d.toNat] (dE hd);rw [Rq,hx];refine ⟨?_,by simp [i2]⟩;simp only [allIn,i1,Bool.and_true];exact hi
def YK (a:Int) (t:Int×ai×Int):Int:=w (a+w (t.2.2 * w (t.1 - t.2.1.Low)))
theorem scan_fold:∀ (bs:List ai) (xs:List Int) (ss:List Int) (a:Int) (i:Nat),allIn bs xs=true→gK V4 i (xs.zip (bs.zip ss)) a = .inr ((xs.zip (bs.zip ss)).foldl YK a)
 | [],xs,ss,a,i,_=>by simp [gK]
 | b::bs,[],ss,a,i,_=>by simp [gK]
 | b::bs,x::xs,[],a,i,_=>by simp [gK]
 | b::bs,x::xs,s::ss,a,i,h=>by
  simp only [allIn,bg] at h;have hf:V4 i a (x,b,s) = .inr (YK a (x,b,s)):=by unfold V4;rw [if_pos h.1];rfl
  simp only [List.zip_cons_cons,gK,hf,fD];exact scan_fold bs xs ss _ _ h.2
theorem Vz {bs:List ai} {xs:List Int} (ok:Ok bs) (hl:bs.length=xs.length) (ha:allIn bs xs=true):(xs.zip (bs.zip (str 1 (exs bs)))).foldl YK 0=off bs xs:=by
 have h1:=scan_fold bs xs (str 1 (exs bs)) 0 0 ha;have hl7:=ok.len;have sz:=ok.size;have h2:=(Qz bs xs 1 0 0 hl ok.num).2 ha (by omega) (by have:P (exs bs)≤512:=sz.2.2;omega) (by omega) (by omega);rw [h1] at h2;have:=Sum.inr.inj h2;rw [this];unfold off;omega
theorem has_eq {l:List Int} {v:Int} (h:l.length < 16777216):rX l v=some (l.any fun x=>x==v):=by
 unfold rX;rw [nK (step:=rX.s1 l v) l (fun i (b:Bool)=>(b,i)) (fun b=>b) (fun b x=>b || (x==v)) (fun _ _=>True) (a:=false) rfl ?_ ?_ trivial (by omega)]
 ·have key:∀ (l:List Int) (b:Bool),l.foldl (fun b x=>b || (x==v)) b=(b || l.any fun x=>x==v):=by
   intro l
   induction l with
   | nil=>intro b;simp
   | cons x l ih=>intro b;rw [fD,ih,List.any_cons,Bool.or_assoc]
  rw [key];simp
 ·intro i hi b _;refine ⟨?_,trivial⟩;simp only [rX.s1,iC hi,aG,jc hi,ah];rw [wn (by omega)]
 ·intro b _;simp only [rX.s1,dh,au]
theorem Ub (m:List (Int×Bool)) (k:Int) (v:Bool) (z:Int):Oa (VZ m k v) z=if k=z then some v else Oa m z:=by
 induction m with
 | nil=>simp [VZ,Oa]
 | cons p m ih =>
  obtain ⟨a,c⟩:=p;simp only [VZ];by_cases e:a=k
  ·subst e;by_cases q:a=z
   ·simp [Oa,q]
   ·simp [Oa,q]
  ·rw [if_neg e];simp only [Oa,ih];by_cases q:a=z
   ·have:¬ k=z:=fun r=>e (by rw [q,r])
    simp [q,this]
   ·simp [q]
def VV (o:Nat→Int) (v:Bool×List Int×List (Int×Bool)) (k:Nat):Bool×List Int×List (Int×Bool):=(v.1 || (Oa v.2.2 (o k)).getD false,v.2.1++[o k],VZ v.2.2 (o k) true)
def AP (o:Nat→Int) (v:Bool×List Int) (k:Nat):Bool×List Int:=(v.1 || v.2.any (fun x=>x==o k),v.2++[o k])
theorem Nr (o:Nat→Int):∀ (ks:List Nat) (a:Bool) (l:List Int) (m:List (Int×Bool)),(∀ z,(Oa m z).getD false=l.any (fun x=>x==z)) →
  ((ks.foldl (VV o) (a,l,m)).1,(ks.foldl (VV o) (a,l,m)).2.1)=ks.foldl (AP o) (a,l)
 | [],a,l,m,h=>rfl
 | k::ks,a,l,m,h=>by
  rw [fD,fD];have e2:AP o (a,l) k=(a || (Oa m (o k)).getD false,l++[o k]):=by unfold AP;rw [h]
  rw [e2];refine Nr o ks _ _ _ fun z=>?_
  rw [Ub,List.any_append];by_cases e:o k=z
  ·simp [e]
  ·simp [e,h]
def yE (p:List ai) (v:Sec) (k:Nat):Int:=off p (picks v.2.1 (dig v.2.2 k))
def QC (p:List ai) (v:Sec):aB×Int :=
 if lq v.2.2 > 512 then (⟨[],[],false⟩,8)
 else (⟨v.1,((List.range (lq v.2.2).toNat).foldl (AP (yE p v)) (false,[])).2,((List.range (lq v.2.2).toNat).foldl (AP (yE p v)) (false,[])).1⟩,0)
theorem Ij (o:Nat→Int):∀ (ks:List Nat) (v:Bool×List Int),(ks.foldl (AP o) v).2.length=v.2.length+ks.length
 | [],v=>rfl
 | k::ks,v=>by rw [fD,Ij o ks];simp [AP];omega
theorem PD {b:ai} {s:ay} (h:(sel b s).2=0):(sel b s).1.length≤512∧∀ x,x∈(sel b s).1→bn x b.Low b.High=true:=by
 unfold sel at h ⊢;by_cases he:UF s=0
 ·simp only [he,ne_eq,di,au] at h ⊢;by_cases h1:s.Kind=1∧cnt s > 512
  ·simp [h1] at h
  ·simp only [h1,au] at h ⊢;by_cases h2:s.Kind=2∧(s.List.length:Int) > 512
   ·simp [h2] at h
   ·simp only [h2,au] at h ⊢;by_cases h3:(WT s).any (fun x=>!bn x b.Low b.High)=true
    ·simp [h3] at h
    ·simp only [h3,au,aF];refine ⟨?_,?_⟩
     ·obtain ⟨hk,_⟩:=Ed he;unfold WT;rcases hk with k | k | k
      ·simp [k]
      ·simp [k] at h1 ⊢;omega
      ·simp [k] at h2 ⊢;omega
     ·intro x hx;simp only [kE,not_exists,not_and,Bool.not_eq_true',Bool.not_eq_false] at h3;exact h3 x hx
 ·simp [he] at h
section
variable {p:List ai} {q:List ay} {v:Sec}
structure Gy (p:List ai) (q:List ay) (v:Sec):Prop where
 lists:v.2.1.length=p.length
 lens:v.2.2=v.2.1.map fun l=>(l.length:Int)
 small:∀ l,l∈v.2.1→l.length≤512
 ins:∀ t,t∈p.zip v.2.1→∀ x,x∈t.2→bn x t.1.Low t.1.High=true
theorem XZ (hl:q.length=p.length) (h:yN p q = .inr v):Gy p q v:=by
 obtain ⟨h1,h2,h3⟩:=WZ h;simp only [kz] at h1 h2;refine ⟨by rw [h1];simp;omega,by rw [h1,h2];simp,?_,?_⟩
 ·intro l hlm;rw [h1] at hlm;obtain ⟨t,ht,rfl⟩:=iR.1 hlm;exact (PD (h3 t ht)).1
 ·intro t ht x hx;rw [h1] at ht;have key:∀ (p:List ai) (q:List ay) (t:ai×List Int),t∈p.zip ((p.zip q).map fun t=>(sel t.1 t.2).1)→∃ s,(t.1,s)∈p.zip q∧t.2=(sel t.1 s).1:=by
   intro p
   induction p with
   | nil=>intro q t ht;simp at ht
   | cons b p ih =>
    intro q t ht;cases q with
    | nil=>simp at ht
    | cons s q =>
     simp only [List.zip_cons_cons,gQ,gZ] at ht;rcases ht with rfl | ht
     ·exact ⟨s,by simp,rfl⟩
     ·obtain ⟨s',h1,h2⟩:=ih q t ht;exact ⟨s',by simp [h1],h2⟩
  obtain ⟨s,g1,g2⟩:=key p q t ht;rw [g2] at hx;exact (PD (h3 _ g1)).2 x hx
theorem Gy.base (h:Gy p q v) (k:Nat) (hk:(k:Int) < lq v.2.2) (hs:lq v.2.2≤512):(∀ e,e∈v.2.2→1≤e)∧inBase v.2.2 (dig v.2.2 k)∧(k:Int) < P v.2.2:=by
 have hr:∀ x,x∈v.2.2→0≤x∧x≤512:=by
  intro x hx;rw [h.lens] at hx;obtain ⟨l,hl,rfl⟩:=iR.1 hx;have:=h.small l hl;omega
 obtain ⟨h1,h2⟩:=O8 hr hs;have hpos:∀ e,e∈v.2.2→1≤e:=by
  intro e he;have h0:=hr e he;rcases Int.lt_or_eq_of_le h0.1 with g | g
  ·omega
  ·have:P v.2.2=0:=Su ⟨e,he,g.symm⟩;omega
 exact ⟨hpos,(WN hpos (by omega) (by omega)).1,by omega⟩
theorem Gy.place (h:Gy p q v) (k:Nat) (hk:(k:Int) < lq v.2.2) (hs:lq v.2.2≤512):allIn p (picks v.2.1 (dig v.2.2 k))=true∧(picks v.2.1 (dig v.2.2 k)).length=p.length:=by
 obtain ⟨_,h1,_⟩:=h.base k hk hs;rw [h.lens] at h1 ⊢;exact Qp h.lists.symm h.ins h1
theorem JL:∀ {es ds:List Int},inBase es ds→es.length=ds.length∧∀ i (h1:i < es.length) (h2:i < ds.length),0≤ds[i]∧ds[i] < es[i]
 | [],[],_=>⟨rfl,fun i h=>by simp at h⟩
 | [],_::_,h=>by cases h
 | _::_,[],h=>by cases h
 | e::es,d::ds,⟨h1,h2,h3⟩=>by
  obtain ⟨i1,i2⟩:=JL h3;refine ⟨by simp [i1],fun i g1 g2=>?_⟩;cases i with
  | zero=>exact ⟨h1,h2⟩
  | succ i=>simpa using i2 i (by simpa using g1) (by simpa using g2)
theorem Gy.Uo (h:Gy p q v) (k:Nat) (hk:(k:Int) < lq v.2.2) (hs:lq v.2.2≤512) {i:Nat} (hi:i < p.length) :
  ∃ (h1:i < (dig v.2.2 k).length) (h2:i < v.2.1.length) (h3:i < (picks v.2.1 (dig v.2.2 k)).length),at_ v.2.1[i] (dig v.2.2 k)[i]=some (picks v.2.1 (dig v.2.2 k))[i]:=by
 obtain ⟨_,hb,_⟩:=h.base k hk hs;obtain ⟨g1,g2⟩:=JL hb;have l1:v.2.2.length=p.length:=by rw [h.lens];simp [h.lists]
 have hd:i < (dig v.2.2 k).length:=by omega
 have hv:i < v.2.1.length:=by rw [h.lists];exact hi
 refine ⟨hd,hv,by rw [IJ];exact hd,?_⟩;obtain ⟨r1,r2⟩:=g2 i (by omega) hd;have e:v.2.2[i]'(by omega)=(v.2.1[i].length:Int):=by
  have:v.2.2[i]?=some (v.2.1[i].length:Int):=by rw [h.lens];simp [hv]
  rw [ax (by omega)] at this;exact jl this
 rw [e] at r2;have hn:(dig v.2.2 k)[i].toNat < v.2.1[i].length:=by omega
 have hx:(picks v.2.1 (dig v.2.2 k))[i]'(by rw [IJ];exact hd)=v.2.1[i][(dig v.2.2 k)[i].toNat]:=by
  simp [picks,hv,hn]
 rw [hx];unfold at_;rw [if_pos r1];simp [hn]
theorem Pz (ok:Ok p) (h:Gy p q v) (hs:lq v.2.2≤512) (hp:0≤lq v.2.2) :
  gV (eH.s2 p v (lq v.2.2) (str 1 (exs p))) (0,false,[],[])=some ((List.range (lq v.2.2).toNat).foldl (AP (yE p v)) (false,[])):=by
 have hlen:(List.range (lq v.2.2).toNat).length=(lq v.2.2).toNat:=by simp
 have hc:((List.range (lq v.2.2).toNat).length:Int)=lq v.2.2:=by omega
 have hl7:=ok.len;rw [nK (step:=eH.s2 p v (lq v.2.2) (str 1 (exs p))) (List.range (lq v.2.2).toNat) (fun i (b:Bool×List Int×List (Int×Bool))=>(i,b)) (fun b=>(b.1,b.2.1)) (VV (yE p v)) (fun i b=>b.2.1.length=i) (a:=(false,[],[])) rfl ?_ ?_ rfl (by omega)]
 ·rw [Nr];intro z;rfl
 ·intro i hi b hb;have hir:(List.range (lq v.2.2).toNat)[i]=i:=by simp
  have hil:(i:Int) < lq v.2.2:=by omega
  refine ⟨?_,by simp [VV,hb]⟩;obtain ⟨b1,b2,b3⟩:=h.base i hil hs;obtain ⟨a1,a2⟩:=h.place i hil hs;have l1:v.2.2.length=p.length:=by rw [h.lens];simp [h.lists]
  simp only [eH.s2,hil,aG,hir];rw [Tc b1 (by omega) (by omega) (by omega)];simp only [ah];have T:((picks v.2.1 (dig v.2.2 i)).zip (p.zip (str 1 (exs p)))).length=p.length:=by simp [PL,exs,a2]
  have inner:gV (eH.s3 p v (str 1 (exs p)) (dig v.2.2 i)) (0,0)=some (yE p v i):=by
   rw [nK (step:=eH.s3 p v (str 1 (exs p)) (dig v.2.2 i)) ((picks v.2.1 (dig v.2.2 i)).zip (p.zip (str 1 (exs p)))) (fun i (b:Int)=>(b,i)) (fun b=>b) YK (fun _ _=>True) (a:=0) rfl ?_ ?_ trivial (by omega)]
   ·rw [Vz ok a2.symm a1];rfl
   ·intro j hj b _;refine ⟨?_,trivial⟩;rw [T] at hj;obtain ⟨g1,g2,g3,g4⟩:=h.Uo i hil hs hj;have g5:j < (str 1 (exs p)).length:=by simp [PL,exs];exact hj
    simp only [eH.s3,iC g1,aG,jc g1,jc g5,jc g2,jc hj,ah,g4,List.getElem_zip,YK];rw [wn (by omega)]
   ·intro b _;have e:((dig v.2.2 i).length:Int)=(((picks v.2.1 (dig v.2.2 i)).zip (p.zip (str 1 (exs p)))).length:Int):=by rw [T,← a2,IJ]
    rw [← e];simp only [eH.s3,dh,au]
  rw [inner];simp only [ah];rw [jT (by omega)];simp only [ah];rw [wn (by omega)];rfl
 ·intro b _;rw [hc];simp only [eH.s2,Int.lt_irrefl,au]
theorem Jt (hb:Kz p=0) (ok:Ok p) (h:Gy p q v) (hs:lq v.2.2≤512) (hp:0≤lq v.2.2) :
  gV (dY.s2 p (v.2.1,v.2.2,v.1) (lq v.2.2)) (0,false,[])=some ((List.range (lq v.2.2).toNat).foldl (AP (yE p v)) (false,[])):=by
 have hlen:(List.range (lq v.2.2).toNat).length=(lq v.2.2).toNat:=by simp
 have hc:((List.range (lq v.2.2).toNat).length:Int)=lq v.2.2:=by omega
 have hl7:=ok.len;rw [nK (step:=dY.s2 p (v.2.1,v.2.2,v.1) (lq v.2.2)) (List.range (lq v.2.2).toNat) (fun i (b:Bool×List Int)=>(i,b)) (fun b=>b) (AP (yE p v)) (fun i b=>b.2.length=i) (a:=(false,[])) rfl ?_ ?_ rfl (by omega)]
 ·intro i hi b hbl;have hir:(List.range (lq v.2.2).toNat)[i]=i:=by simp
  have hil:(i:Int) < lq v.2.2:=by omega
  refine ⟨?_,by simp [AP,hbl]⟩;obtain ⟨b1,b2,b3⟩:=h.base i hil hs;obtain ⟨a1,a2⟩:=h.place i hil hs;have l1:v.2.2.length=p.length:=by rw [h.lens];simp [h.lists]
  have dl:(dig v.2.2 i).length=p.length:=by rw [S9,l1]
  simp only [dY.s2,hil,aG,hir];rw [LH b1 (by omega) (by omega) (by omega)];simp only [ah];have inner:gV (dY.s3 (v.2.1,v.2.2,v.1)) (0,dig v.2.2 i)=some (picks v.2.1 (dig v.2.2 i)):=by
   rw [VS (step:=dY.s3 (v.2.1,v.2.2,v.1)) (dig v.2.2 i) (fun j d=>(((v.2.1[j]?).getD [])[d.toNat]?).getD 0) (fun i b=>(i,b)) (fun b=>b) rfl ?_ ?_ (by omega)]
   ·rfl
   ·intro j hj b hbl2 hbj;obtain ⟨g1,g2,g3,g4⟩:=h.Uo i hil hs (i:=j) (by omega);have hjb:j < b.length:=by omega
    have hbv:b[j]=(dig v.2.2 i)[j]:=by rw [ax hjb] at hbj;exact jl hbj
    simp only [dY.s3,iC hjb,aG,jc g2,jc hjb,ah,hbv,g4,nG];rw [wn (by omega)];simp [picks]
   ·intro b hbl2;rw [← hbl2];simp only [dY.s3,dh,au]
  rw [inner];simp only [ah];have hoff:Y1 p (picks v.2.1 (dig v.2.2 i))=0:=by unfold Y1;simp [hb,a2,a1]
  rw [NI hoff];simp only [ah];by_cases hm:b.1=true
  ·simp only [hm,aG];rw [jT (by omega)];simp only [ah];rw [wn (by omega)];simp [AP,hm,yE]
  ·simp only [hm,au,aF];rw [has_eq (by omega),jT (by omega)];simp only [ah];rw [wn (by omega)];simp [AP,hm,yE]
 ·intro b _;rw [hc];simp only [dY.s2,Int.lt_irrefl,au]
theorem Gy.pos (h:Gy p q v):0≤lq v.2.2:=by
 unfold lq;split
 ·omega
 ·rename_i h0
  have hr:∀ x,x∈v.2.2→1≤x∧x≤512:=by
   intro x hx;have hx':=hx;rw [h.lens] at hx;obtain ⟨l,hl,rfl⟩:=iR.1 hx;have:=h.small l hl;simp only [kE,not_exists,not_and,lT] at h0;have:=h0 _ hx';omega
  have:=Ot (a:=1) hr (by omega) (by omega);have hp:=QL fun x hq=>(hr x hq).1
  unfold Yu;omega
end
def pF (p:List ai) (q:List ay):aB×Int :=
 if Kz p≠0 then (⟨[],[],false⟩,Kz p)
 else if (q.length:Int)≠(p.length:Int) then (⟨[],[],false⟩,32)
 else match yN p q with
  | .inl e=>(⟨[],[],false⟩,e)
  | .inr v=>QC p v
theorem NU (p:List ai) (q:List ay) (hq:∀ s,s∈q→s.List.length < 16777216):qj p q=some (pF p q):=by
 unfold qj pF;rw [EU];simp only [ah];by_cases hb:Kz p=0
 ·have ok:=zq hb;have hl7:=ok.len;simp only [hb,di,au,ne_eq];unfold eH;by_cases hl:(q.length:Int)=(p.length:Int)
  ·simp only [hl,di,au];have T:(p.zip q).length=q.length:=by simp;omega
   have l1:gV (eH.s1 p q) (0,[],[],[])=some (match yN p q with | .inl e=>Sum.inr (⟨[],[],false⟩,e) | .inr v=>Sum.inl v):=by
    unfold yN;rw [jS (step:=eH.s1 p q) (p.zip q) (fun i (b:Sec)=>(i,b)) (fun e=>Sum.inr (⟨[],[],false⟩,e)) (fun b=>Sum.inl b) LX QD (a:=([],[],[])) rfl ?_ ?_ ⟨aY _,rfl,rfl⟩ (by omega)]
    ·cases gK LX 0 (p.zip q) ([],[],[])<;>rfl
    ·intro i hi b hI;refine ⟨?_,fun b' e=>IX hI e⟩;obtain ⟨i1,i2,i3⟩:=hI;rw [T] at hi;have h2:i < p.length:=by omega
     simp only [eH.s1,iC hi,aG,jc hi,jc h2,ah,List.getElem_zip,LX];rw [Q7 _ _ (hq _ (dE hi))];simp only [ah];by_cases he:(sel p[i] q[i]).2=0
     ·simp only [he,di,au,ne_eq];rw [jT (by omega),jT (by omega)];simp only [ah];by_cases hk:q[i].Kind=0
      ·simp only [hk,di,au];rw [wn (by omega)]
      ·simp only [hk,aQ,aG];rw [jT (by omega)];simp only [ah];rw [wn (by omega)]
     ·simp only [he,aQ,aG,ne_eq]
    ·intro b _;rw [T];simp only [eH.s1,dh,au]
   rw [l1];simp only [ah];cases hv:yN p q with
   | inl e=>simp
   | inr v =>
    have so:=XZ (by omega) hv;have hp:=so.pos;have hvl:v.2.2.length=p.length:=by rw [so.lens];simp [so.lists]
    simp only [JX (show v.2.2.length < 16777216 by omega),ah];unfold QC;by_cases hs:lq v.2.2 > 512
    ·simp only [hs,aG,ah]
    ·simp only [hs,au];rw [OD (by omega)];simp only [ah];rw [RY (by simp [exs];omega)];simp only [ah];rw [Pz ok so (by omega) hp];simp only [ah]
  ·simp [hl]
 ·simp [hb]
theorem vM (p:List ai) (q:List ay) (hq:∀ s,s∈q→s.List.length < 16777216):dY p q=some (pF p q):=by
 unfold dY pF;rw [zS];simp only [ah];by_cases hb:Kz p=0
 ·have ok:=zq hb;have hl7:=ok.len;simp only [hb,di,au,ne_eq];by_cases hl:(q.length:Int)=(p.length:Int)
  ·simp only [hl,di,au];have T:(p.zip q).length=q.length:=by simp;omega
   have l1:gV (dY.s1 p q) (0,[],[],[])=some (match yN p q with | .inl e=>Sum.inr (⟨[],[],false⟩,e) | .inr v=>Sum.inl (v.2.1,v.2.2,v.1)):=by
    unfold yN;rw [jS (step:=dY.s1 p q) (p.zip q) (fun i (b:Sec)=>(i,b.2.1,b.2.2,b.1)) (fun e=>Sum.inr (⟨[],[],false⟩,e)) (fun b=>Sum.inl (b.2.1,b.2.2,b.1)) LX QD (a:=([],[],[])) rfl ?_ ?_ ⟨aY _,rfl,rfl⟩ (by omega)]
    ·cases gK LX 0 (p.zip q) ([],[],[])<;>rfl
    ·intro i hi b hI;refine ⟨?_,fun b' e=>IX hI e⟩;obtain ⟨i1,i2,i3⟩:=hI;rw [T] at hi;have h2:i < p.length:=by omega
     simp only [dY.s1,iC hi,aG,jc hi,jc h2,ah,List.getElem_zip,LX];rw [PE _ _ (hq _ (dE hi)),if_pos (ok.num _ (dE h2))];simp only [ah];by_cases he:(sel p[i] q[i]).2=0
     ·simp only [he,di,au,ne_eq];rw [jT (by omega),jT (by omega)];simp only [ah];by_cases hk:q[i].Kind=0
      ·simp only [hk,di,au];rw [wn (by omega)]
      ·simp only [hk,aQ,aG];rw [jT (by omega)];simp only [ah];rw [wn (by omega)]
     ·simp only [he,aQ,aG,ne_eq]
    ·intro b _;rw [T];simp only [dY.s1,dh,au]
   rw [l1];simp only [ah];cases hv:yN p q with
   | inl e=>simp
   | inr v =>
    have so:=XZ (by omega) hv;have hp:=so.pos;have hvl:v.2.2.length=p.length:=by rw [so.lens];simp [so.lists]
    simp only [yL (show v.2.2.length < 16777216 by omega),ah];unfold QC;by_cases hs:lq v.2.2 > 512
    ·simp only [hs,aG,ah]
    ·simp only [hs,au];rw [Jt hb ok so (by omega) hp];simp only [ah]
  ·simp [hl]
 ·simp [hb]
theorem xG {q:List ay} (h:q.length < 16777216) (hq:∀ s,s∈q→s.List.length < 16777216):gp q=some q:=by
 unfold gp;rw [tZ (step:=gp.s1 q) q (fun s=>s) (fun i b=>(i,b)) (fun b=>b) rfl ?_ ?_ (by omega)]
 ·simp
 ·intro i hi b hb;simp only [gp.s1,iC hi,aG,jc hi,ah];have:=hq _ (dE hi);rw [vV (by omega)];simp only [ah];rw [jT (by omega),wn (by omega)];rfl
 ·intro b;simp only [gp.s1,dh,au]
set_option linter.unusedVariables false
set_option linter.unusedSimpArgs false
structure Xi (a:ae):Prop where
 b:Kz a.Bounds=0
 len:(a.Elements.length:Int)=P (exs a.Bounds)
 int:∀ x,x∈a.Elements→eF x=true
theorem Me:∀ (xs:List Int) (i:Nat),(∀ x,x∈xs→eF x=true)↔gK (fun i b x=>if eF x=true then Sum.inr b else Sum.inl i) i xs () = .inr ()
 | [],i=>by simp [gK]
 | x::xs,i=>by
  simp only [gK,gZ,forall_eq_or_imp];by_cases h:eF x=true
  ·simp only [h,aG,true_and];exact Me xs (i+1)
  ·simp [h]
theorem SV {a:ae} (h:(chk a).2=0):Xi a:=by
 unfold chk at h;split at h
 ·rename_i hb;exact absurd h hb
 rename_i hb
 split at h
 ·cases h
 rename_i hl
 have hb':=aI.1 hb;have hl':=aI.1 hl;have ok:=zq hb';refine ⟨hb',by have:=ok.size;rw [hl'];exact this.1,?_⟩;cases hq:Vl a.Elements with
 | inl i=>rw [hq] at h;cases h
 | inr u=>exact (Me _ 0).2 hq
theorem Il (o:Nat→Int):∀ (ks:List Nat) (v:Bool×List Int),(ks.foldl (AP o) v).2=v.2++ks.map o
 | [],v=>by simp
 | k::ks,v=>by rw [fD,Il o ks];simp [AP]
theorem Ik (o:Nat→Int):∀ (ks:List Nat) (a:Bool) (l:List Int),(ks.foldl (AP o) (a,l)).1=false→a=false∧(l.Nodup→(l++ks.map o).Nodup)
 | [],a,l,h=>⟨h,fun hn=>by simpa using hn⟩
 | k::ks,a,l,h=>by
  rw [fD] at h;obtain ⟨h1,h2⟩:=Ik o ks _ _ h;simp only [Bool.or_eq_false_iff,List.any_eq_false,lT] at h1;refine ⟨h1.1,fun hn=>?_⟩;have:(l++[o k]).Nodup:=by
   rw [List.nodup_append];refine ⟨hn,by simp,?_⟩;intro x hx y hy;simp only [iY] at hy;subst hy;exact h1.2 x hx
  have:=h2 this;simpa using this
structure Sct (p:List ai) (s:aB):Prop where
 range:∀ o,o∈s.Offsets→0≤o∧o < P (exs p)
 nodup:s.ManyOne=false→s.Offsets.Nodup
 len:(s.Offsets.length:Int)=P s.Extents
 ext:∀ e,e∈s.Extents→0≤e∧e≤512
 dims:s.Extents.length≤7
 small:s.Offsets.length≤512
theorem VG {b:ai} {s:ay} (h:(sel b s).2=0) (hk:s.Kind=0):(sel b s).1.length=1:=by
 unfold sel at h ⊢;by_cases he:UF s=0
 ·simp only [he,ne_eq,di,au,hk,show ¬ (0:Int)=1 by decide,show ¬ (0:Int)=2 by decide,false_and] at h ⊢;by_cases h3:(WT s).any (fun x=>!bn x b.Low b.High)=true
  ·simp [h3] at h
  ·simp only [h3,au,aF];unfold WT;simp [hk]
 ·simp [he] at h
theorem PN (a b:List Int):P (a++b)=P a * P b:=by
 induction a with
 | nil=>simp [P]
 | cons x a ih=>simp [P,ih,Int.mul_assoc]
theorem Py:∀ {T:List (ai×ay)} {i:Nat} {v v':Sec},gK LX i T v = .inr v'→P v.1=P v.2.2→(∀ e,e∈v.1→0≤e∧e≤512)→P v'.1=P v'.2.2∧(∀ e,e∈v'.1→0≤e∧e≤512)∧v'.1.length≤v.1.length+T.length
 | [],i,v,v',h,h1,h2=>by cases h;exact ⟨h1,h2,by simp⟩
 | t::T,i,v,v',h,h1,h2=>by
  simp only [gK] at h;cases hf:LX i v t with
  | inl e=>rw [hf] at h;cases h
  | inr v2 =>
   rw [hf] at h;unfold LX at hf;split at hf
   ·cases hf
   ·rename_i hs
    have hs:=aI.1 hs;cases hf;have hsl:=(PD hs).1;by_cases hk:t.2.Kind=0
    ·simp only [hk,ne_eq,di,au] at h;have e1:=VG hs hk;obtain ⟨g1,g2,g3⟩:=Py h (by simp only [PN,e1,P];simp [h1]) h2;exact ⟨g1,g2,by simp at g3 ⊢;omega⟩
    ·simp only [hk,ne_eq,aQ,aG] at h;obtain ⟨g1,g2,g3⟩:=Py h (by simp only [PN,h1]) (by
      intro e he;simp only [aT,iY] at he;rcases he with he | he
      ·exact h2 e he
      ·omega)
     exact ⟨g1,g2,by simp at g3 ⊢;omega⟩
theorem RI {p:List ai} {q:List ay} (h:(pF p q).2=0):Sct p (pF p q).1:=by
 unfold pF at h ⊢;by_cases hb:Kz p=0
 ·have ok:=zq hb;have hl7:=ok.len;simp only [hb,ne_eq,di,au] at h ⊢;by_cases hl:(q.length:Int)=(p.length:Int)
  ·simp only [hl,di,au] at h ⊢;cases hv:yN p q with
   | inl e =>
    rw [hv] at h
    exfalso
    have key:∀ (T:List (ai×ay)) (i:Nat) (v:Sec) (e:Int),gK LX i T v = .inl e→e≠0:=by
     intro T
     induction T with
     | nil=>intro i v e h;cases h
     | cons t T ih =>
      intro i v e h;simp only [gK] at h;cases hf:LX i v t with
      | inl e' =>
       rw [hf] at h;cases h;unfold LX at hf;split at hf
       ·rename_i hs;cases hf;exact hs
       ·cases hf
      | inr v2=>rw [hf] at h;exact ih _ _ _ h
    exact key _ _ _ _ hv h
   | inr v =>
    rw [hv] at h;have so:=XZ (by omega) hv;obtain ⟨x1,x2,x3⟩:=Py hv rfl (fun e he=>by cases he);simp only at h ⊢;unfold QC at h ⊢;by_cases hs:lq v.2.2 > 512
    ·simp [hs] at h
    ·simp only [hs,au] at h ⊢;have hp:=so.pos;have hr:∀ x,x∈v.2.2→0≤x∧x≤512:=by
      intro x hx;rw [so.lens] at hx;obtain ⟨l,hl,rfl⟩:=iR.1 hx;have:=so.small l hl;omega
     obtain ⟨z1,z2⟩:=O8 hr (by omega);have T:(p.zip q).length≤7:=by simp;omega
     refine ⟨?_,?_,?_,x2,by show v.1.length≤7;simp at x3;omega,?_⟩
     ·intro o ho;simp only [Il,kz] at ho;obtain ⟨k,hk,rfl⟩:=iR.1 ho;have hk':(k:Int) < lq v.2.2:=by have:=kw.1 hk;omega
      obtain ⟨a1,a2⟩:=so.place k hk' (by omega);exact Ko (Ac a2.symm ok.num a1)
     ·intro hm;have:=(Ik _ _ _ _ hm).2 (by simp);simp only [Il,kz] at this ⊢;exact this
     ·simp only [Ij,ku,lS];omega
     ·simp only [Ij,ku,lS];omega
  ·simp [hl] at h
 ·simp [hb] at h
theorem UG {a:ae} (h1:a.Bounds.length < 16777216) (h2:a.Elements.length < 16777216):pq a a=some true:=by
 unfold pq;rw [OW h2 h2];simp only [ah,beq_self_eq_true,di,au];rw [oz (step:=pq.s1 a a) a.Bounds (fun _=>(none:Option Bool)) (fun c=>Sum.inr c) (Sum.inl ()) rfl ?_ ?_ (by omega)]
 ·have:a.Bounds.findSome? (fun _=>(none:Option Bool))=none:=by simp
  rw [this];rfl
 ·intro i hi;simp only [pq.s1,iC hi,aG,jc hi,ah,beq_self_eq_true,Bool.and_self,di,au];rw [wn (by omega)]
 ·simp only [pq.s1,dh,au]
end Go.Sh
set_option linter.all false
namespace Go.Sh
open Go.Lx
theorem TZ (rs:List aP) (h:rs.length < 1000):fZ rs=some (match rs.findSome? (fun r=>if r.holds=true then none else some r.code) with | some c=>c | none=>0):=by
 unfold fZ;rw [oz (step:=fZ.s1 rs) rs (fun r=>if r.holds=true then none else some r.code) (fun c=>Sum.inr c) (Sum.inl ()) rfl ?_ ?_ (by omega)]
 ·cases rs.findSome? (fun r=>if r.holds=true then none else some r.code)<;>rfl
 ·intro i hi;simp only [fZ.s1,iC hi,aG,jc hi,ah];by_cases e:rs[i].holds=true
  ·simp only [e,di,au,aG];rw [wn (by omega)]
  ·simp only [e,aQ,aG];rfl
 ·simp only [fZ.s1,dh,au]
theorem qW (b:Bool) (c:Int):fZ [aP.mk b c]=some (if b=true then 0 else c):=by
 rw [TZ _ (by simp)];cases b<;>rfl
theorem VU (a b:Bool) (c d:Int):fZ [aP.mk a c,aP.mk b d]=some (if a=true then (if b=true then 0 else d) else c):=by
 rw [TZ _ (by simp)];cases a<;>cases b<;>rfl
theorem Zh (x y:Int):iD [x,y]=some (if x=0 then y else x):=by
 unfold iD;rw [oz (step:=iD.s1 [x,y]) [x,y] (fun r=>if r=0 then none else some r) (fun c=>Sum.inr c) (Sum.inl ()) rfl ?_ ?_ (by simp)]
 ·by_cases h:x=0<;>by_cases k:y=0<;>simp [h,k]
 ·intro i hi;simp only [iD.s1,iC hi,aG,jc hi,ah];have hi2:i < 2:=by simpa using hi
  by_cases e:[x,y][i]=0
  ·simp only [e,di,au,aG];rw [wn (by omega)]
  ·simp only [e,aQ,aG];rfl
 ·simp only [iD.s1,dh,au]
theorem Ih (a b c:Int):eX a b c=bY a b c:=by
 unfold eX bY;simp only [Bool.not_or,← decide_not]
 congr 1<;>exact decide_eq_decide.2 (by omega)
theorem Qg {α:Type} {n:Nat} {a:α} (h:n≤16777216):Jo (n:Int) a=some (List.replicate n a):=by unfold Jo;rw [if_pos (by omega)];simp
def clean (n:ag):Bool :=
 (((((((n.Kind==0) || (n.Value==0))&&(((n.Kind==1) || ((n.Kind==8) || (n.Kind==9))) || (n.Var==0)))&&((bW n.Kind) || (n.B==0)))&&(((bW n.Kind) || (n.Kind==7)) || (n.A==0)))&&((n.Kind==1) || ((n.Subscripts.length:Int)==0)))&&((n.Kind==9) || ((n.Forms.length:Int)==0)))
theorem Q9 (n:ag):jA n=some (clean n):=by
 unfold jA;by_cases h1:n.Kind=1
 ·rw [if_pos h1];unfold jA.j1 clean;simp [h1]
 ·rw [if_neg h1];by_cases h8:n.Kind=8
  ·rw [if_pos h8];unfold jA.j1 clean;simp [h8]
  ·rw [if_neg h8];unfold jA.j1 clean;have e1:(n.Kind==1)=false:=by simpa using h1
   have e8:(n.Kind==8)=false:=by simpa using h8
   simp only [e1,e8,Bool.false_or]
def Q4 (i:Nat) (n:ag):Bool:=(fC n).all fun k=>bY k 0 ((i:Int) - 1)
def Qi (i:Nat) (n:ag):Int:=if ¬ bY n.Kind 0 9=true then 15 else if (Q4 i n&&clean n)=true then 0 else 3
def bump (b:List Int) (k:Int):List Int:=b.set k.toNat (w (b.getD k.toNat 0+1))
def SN (b:List Int) (n:ag):List Int:=(fC n).foldl bump b
theorem PV (b:List Int) (k:Int):(bump b k).length=b.length:=by simp [bump]
theorem Bj:∀ (ks:List Int) (b:List Int),(ks.foldl bump b).length=b.length
 | [],b=>rfl
 | k::ks,b=>by rw [fD,Bj ks,PV]
theorem GL (b:List Int) (n:ag):(SN b n).length=b.length:=Bj _ _
theorem oU {a b c:Int}:bY a b c=true↔b≤a∧a≤c:=by unfold bY;simp
theorem at_in {α:Type} [Inhabited α] {xs:List α} {k:Int} {d:α} (h0:0≤k) (h:k < xs.length):at_ xs k=some (xs.getD k.toNat d):=by
 have e:k=((k.toNat:Nat):Int):=by omega
 rw [e,jc (by omega)];simp only [nG]
 congr 1
 rw [bU,ax (by omega)];rfl
theorem QA (i:Nat):∀ (ks:List Int) (j:Nat) (b:List Int),gK (ρ:=Int×List Int) (fun _ b k=>if bY k 0 ((i:Int) - 1)=true then .inr (bump b k) else .inl (3,b)) j ks b =
  if ks.all (fun k=>bY k 0 ((i:Int) - 1))=true then .inr (ks.foldl bump b) else .inl (3,((gK (ρ:=Int×List Int) (fun _ b k=>if bY k 0 ((i:Int) - 1)=true then .inr (bump b k) else .inl (3,b)) j ks b).elim (fun e=>e.2) id))
 | [],j,b=>by simp [gK]
 | k::ks,j,b=>by
  simp only [gK,oD,fD];by_cases h:bY k 0 ((i:Int) - 1)=true
  ·simp only [h,aG,jb];exact QA i ks (j+1) (bump b k)
  ·simp [h]
theorem Yt {i:Nat} {n:ag} {b:List Int} (hi:i < b.length) (hb:b.length < 1000):∃ b',iU i n b=some (Qi i n,b')∧(Qi i n=0→b'=SN b n):=by
 unfold iU Qi;by_cases hk:bY n.Kind 0 9=true
 ·simp only [hk,di,au];have hw:w ((i:Int) - 1)=(i:Int) - 1:=wJ (by omega) (by omega);have hol:(fC n).length < 3:=by unfold fC;split<;>(try split)<;>simp
  rw [jS (step:=iU.s1 i n) (fC n) (fun j b=>(j,b)) (fun r=>Sum.inr r) (fun b=>Sum.inl b) (fun _ b k=>if bY k 0 ((i:Int) - 1)=true then .inr (bump b k) else .inl (3,b)) (fun _ b'=>b'.length=b.length) (a:=b) rfl ?_ ?_ rfl (by omega)]
  ·rw [QA];unfold Q4;by_cases ha:(fC n).all (fun k=>bY k 0 ((i:Int) - 1))=true
   ·simp only [ha,aG,ah,Q9,qW,jb];exact ⟨_,rfl,fun _=>rfl⟩
   ·simp only [ha,aF,au,ah,Bool.false_and];exact ⟨_,rfl,fun h=>by simp at h⟩
  ·intro j hj b' hb';refine ⟨?_,?_⟩
   ·simp only [iU.s1,iC hj,aG,jc hj,ah,hw];by_cases hin:bY (fC n)[j] 0 ((i:Int) - 1)=true
    ·simp only [hin,di,au,aG];have hr:=oU.1 hin;rw [at_in (d:=0) hr.1 (by omega),wn (by omega)];rfl
    ·simp only [hin,aQ,aG];rfl
   ·intro b'' e;split at e
    ·cases e;rw [PV];exact hb'
    ·cases e
  ·intro b' hb';simp only [iU.s1,dh,au]
 ·simp only [hk,aQ,aG];exact ⟨b,rfl,fun h=>by simp at h⟩
def tN (i:Nat) (b:List Int) (n:ag):Sum Int (List Int):=if Qi i n=0 then .inr (SN b n) else .inl (Qi i n)
theorem zY {α β ρ τ:Type} {f:Nat→β→α→Sum ρ β} {g:Nat→β→α→Sum τ β} (π:ρ→τ) (Inv:β→Prop) (N:Nat)
  (h:∀ i b x,i < N→Inv b→(match f i b x with | .inl r=>g i b x = .inl (π r) | .inr b'=>g i b x = .inr b'∧Inv b')):∀ (xs:List α) (i:Nat) (b:β),i+xs.length=N→Inv b →
  (match gK f i xs b with | .inl r=>gK g i xs b = .inl (π r) | .inr b'=>gK g i xs b = .inr b')
 | [],i,b,_,_=>rfl
 | x::xs,i,b,hN,hI=>by
  have h1:=h i b x (by simp at hN;omega) hI;simp only [gK];cases hf:f i b x with
  | inl r=>rw [hf] at h1;simp only at h1 ⊢;rw [h1]
  | inr b' =>
   rw [hf] at h1;simp only at h1 ⊢;rw [h1.1];exact zY π Inv N h xs (i+1) b' (by simp at hN;omega) h1.2
def c1F (i:Nat) (b:List Int) (n:ag):Sum (Int×Int×List Int) (List Int) :=
 match iU i n b with
 | some (c,b')=>if c=0 then .inr b' else .inl ((i:Int),c,b')
 | none => .inr b
theorem XG (e:List ag) (he:e.length < 1000):∃ k b',bz e (List.replicate e.length 0)=some (k,(match gK tN 0 e (List.replicate e.length 0) with | .inl c=>c | .inr _=>0),b') ∧
  (∀ b,gK tN 0 e (List.replicate e.length 0) = .inr b→b'=b)∧(∀ c,gK tN 0 e (List.replicate e.length 0) = .inl c→c≠0):=by
 have key:∀ i (b:List Int) n,i < e.length→b.length=e.length→(match c1F i b n with | .inl r=>tN i b n = .inl r.2.1∧r.2.1≠0 | .inr b'=>tN i b n = .inr b'∧b'.length=e.length):=by
  intro i b n hi hb;obtain ⟨b',h1,h2⟩:=Yt (n:=n) (show i < b.length by omega) (by omega);unfold c1F tN;rw [h1];by_cases hn:Qi i n=0
  ·simp only [hn,aG];rw [h2 hn];exact ⟨rfl,by rw [GL];exact hb⟩
  ·simp only [hn,au];exact ⟨trivial,hn⟩
 unfold bz;rw [jS (step:=bz.s1 e) e (fun i b=>(i,b)) (fun r=>Sum.inr r) (fun b=>Sum.inl b) c1F (fun _ b=>b.length=e.length) (a:=List.replicate e.length 0) rfl ?_ ?_ (by simp) (by omega)]
 ·have h3:=zY (f:=c1F) (g:=tN) (fun r=>r.2.1) (fun b=>b.length=e.length) e.length (fun i b x hi hb=>by
   have:=key i b x hi hb;cases hc:c1F i b x with
   | inl r=>rw [hc] at this;exact this.1
   | inr b'=>rw [hc] at this;exact this) e 0 (List.replicate e.length 0) (by simp) (by simp)
  have h4:=zY (f:=c1F) (g:=fun i b n=>match c1F i b n with | .inl r=>if r.2.1=0 then .inr b else .inl r.2.1 | .inr b' => .inr b') (fun r=>r.2.1) (fun b=>b.length=e.length) e.length (fun i b x hi hb=>by
   have:=key i b x hi hb;cases hc:c1F i b x with
   | inl r=>rw [hc] at this;simp only [this.2,au]
   | inr b'=>rw [hc] at this;simp only;exact ⟨trivial,this.2⟩) e 0 (List.replicate e.length 0) (by simp) (by simp)
  have h5:∀ (xs:List ag) (i:Nat) (b:List Int) r,i+xs.length=e.length→b.length=e.length→gK c1F i xs b = .inl r→r.2.1≠0:=by
   intro xs
   induction xs with
   | nil=>intro i b r _ _ h;cases h
   | cons x xs ih =>
    intro i b r hN hb h;have:=key i b x (by simp at hN;omega) hb;simp only [gK] at h;cases hc:c1F i b x with
    | inl r'=>rw [hc] at this h;cases h;exact this.2
    | inr b'=>rw [hc] at this h;exact ih (i+1) b' r (by simp at hN;omega) this.2 h
  cases hs:gK c1F 0 e (List.replicate e.length 0) with
  | inl r =>
   rw [hs] at h3;simp only at h3;rw [h3];refine ⟨r.1,r.2.2,rfl,?_,?_⟩
   ·intro b h;cases h
   ·intro c h;cases h;exact h5 _ _ _ r (by simp) (by simp) hs
  | inr b' =>
   rw [hs] at h3;simp only at h3;rw [h3];refine ⟨0,b',rfl,?_,?_⟩
   ·intro b h;cases h;rfl
   ·intro c h;cases h
 ·intro i hi b hb;have hc:=key i b e[i] hi hb;refine ⟨?_,?_⟩
  ·simp only [bz.s1,iC hi,aG,jc hi,ah];obtain ⟨b',h1,h2⟩:=Yt (n:=e[i]) (show i < b.length by omega) (by omega);unfold c1F;rw [h1];simp only [ah];by_cases hn:Qi i e[i]=0
   ·simp only [hn,di,au,aG];rw [wn (by omega)]
   ·simp only [hn,aQ,aG,au]
  ·intro b' h;rw [h] at hc;exact hc.2
 ·intro b hb;simp only [bz.s1,dh,au]
def xQ (N:Nat):Nat→List Int→Int
 | _,[]=>0
 | i,x::xs=>if ((i+1=N∧x=0)∨(i+1≠N∧x=1)) then xQ N (i+1) xs else 3
def Hw (e:List ag):Int :=
 if e.length=0 then 17 else if 40 < e.length then 8 else
 match gK tN 0 e (List.replicate e.length 0) with
 | .inl c=>c
 | .inr b=>xQ e.length 0 b
theorem LM (N:Nat):∀ (xs:List Int) (i:Nat),gK (β:=Unit) (ρ:=Int) (fun i b x=>if ((i+1=N∧x=0)∨(i+1≠N∧x=1)) then .inr b else .inl 3) i xs ()=if xQ N i xs=0 then .inr () else .inl 3
 | [],i=>rfl
 | x::xs,i=>by
  simp only [gK,xQ];by_cases h:((i+1=N∧x=0)∨(i+1≠N∧x=1))
  ·simp only [h,aG];exact LM N xs (i+1)
  ·simp [h]
theorem DJ (N:Nat):∀ (xs:List Int) (i:Nat),xQ N i xs=0∨xQ N i xs=3
 | [],i => .inl rfl
 | x::xs,i=>by
  simp only [xQ];split
  ·exact DJ N xs (i+1)
  ·exact .inr rfl
theorem Y9 {b:List Int} {N:Nat} (hN:0 < N) (hb:b.length=N) (hl:N < 1000):∃ k,dw b (w ((N:Int) - 1))=some (k,xQ N 0 b):=by
 have hw:w ((N:Int) - 1)=(N:Int) - 1:=wJ (by omega) (by omega);rw [hw];unfold dw;rw [jS (step:=dw.s1 b ((N:Int) - 1)) b (fun i (_:Unit)=>i) (fun (r:Int×Int)=>Sum.inr r) (fun _=>Sum.inl ()) (fun i b x=>if ((i+1=N∧x=0)∨(i+1≠N∧x=1)) then .inr b else .inl ((i:Int),3)) (fun _ _=>True) rfl ?_ ?_ trivial (by omega)]
 ·have h3:=zY (f:=fun i (b:Unit) (x:Int)=>if ((i+1=N∧x=0)∨(i+1≠N∧x=1)) then Sum.inr b else Sum.inl ((i:Int),(3:Int))) (g:=fun i b x=>if ((i+1=N∧x=0)∨(i+1≠N∧x=1)) then .inr b else .inl (3:Int)) (fun r=>r.2) (fun _=>True) b.length (fun i b x _ _=>by
   by_cases h:((i+1=N∧x=0)∨(i+1≠N∧x=1))
   ·simp only [h,aG];exact ⟨trivial,trivial⟩
   ·simp only [h,au]) b 0 () (by simp) trivial
  rw [LM] at h3;cases hs:gK (fun i (b:Unit) (x:Int)=>if ((i+1=N∧x=0)∨(i+1≠N∧x=1)) then Sum.inr b else Sum.inl ((i:Int),(3:Int))) 0 b () with
  | inl r =>
   rw [hs] at h3;simp only at h3;rcases DJ N b 0 with h | h
   ·rw [h] at h3;simp at h3
   ·rw [h] at h3 ⊢;simp at h3;obtain ⟨k,c⟩:=r;simp only at h3;subst h3;exact ⟨k,rfl⟩
  | inr u =>
   rw [hs] at h3;simp only at h3;rcases DJ N b 0 with h | h
   ·rw [h];exact ⟨0,rfl⟩
   ·rw [h] at h3;simp at h3
 ·intro i hi u _;refine ⟨?_,fun _ _=>trivial⟩;simp only [dw.s1,iC hi,aG,jc hi,ah,rZ,qW];by_cases e1:i+1=N
  ·have e2:((i:Int)==(N:Int) - 1)=true:=by simp;omega
   have e3:((i:Int) != (N:Int) - 1)=false:=by simp;omega
   simp only [e2,e3,jb,Bool.false_and,Bool.or_false,e1,true_and,ne_eq,di,false_and,or_false];by_cases e4:b[i]=0
   ·simp [e4];rw [wn (by omega)];congr 3
   ·simp [e4]
  ·have e2:((i:Int)==(N:Int) - 1)=false:=by simp;omega
   have e3:((i:Int) != (N:Int) - 1)=true:=by simp;omega
   simp only [e2,e3,jb,Bool.false_and,Bool.false_or,e1,false_and,ne_eq,aQ,true_and,false_or];by_cases e4:b[i]=1
   ·simp [e4];rw [wn (by omega)];congr 3
   ·simp [e4]
 ·intro u _;simp only [dw.s1,dh,au]
theorem Gg:∀ (xs:List ag) (i:Nat) (b b':List Int),gK tN i xs b = .inr b'→b'.length=b.length
 | [],i,b,b',h=>by cases h;rfl
 | x::xs,i,b,b',h=>by
  simp only [gK,tN] at h;split at h
  ·cases h
  ·rename_i b1 hb1
   split at hb1
   ·cases hb1;rw [Gg xs (i+1) _ b' h,GL]
   ·cases hb1
theorem QZ (e:List ag) (he:e.length < 1000):ug e=some (Hw e):=by
 unfold ug Hw;rw [VU];by_cases h0:e.length=0
 ·simp [h0]
 ·have h0':decide ((e.length:Int) > 0)=true:=by simp;omega
  rw [if_pos h0',if_neg h0];by_cases h4:40 < e.length
  ·have:decide ((e.length:Int)≤40)=false:=by simp;omega
   rw [this,if_pos h4];rfl
  ·have:decide ((e.length:Int)≤40)=true:=by simp;omega
   rw [this,if_neg h4];simp only [aG,ah,di,au,Qg (show e.length≤16777216 by omega)];obtain ⟨k,b',h1,h2,h3⟩:=XG e he;rw [h1];simp only [ah];cases hs:gK tN 0 e (List.replicate e.length 0) with
   | inl c=>simp only;rw [if_pos (h3 c hs)]
   | inr b =>
    have:=h2 b hs;subst this;have hl:=Gg _ _ _ _ hs;simp only [mD] at hl;obtain ⟨k2,h5⟩:=Y9 (b:=b') (N:=e.length) (by omega) hl (by omega);simp only [di,au,h5,ah]
end Go.Sh
set_option linter.all false
namespace Go.Sh
open Go.Lx
theorem Yr (i N:Nat) (h:i < N) (hN:N < 1000):ni (decide ((i:Int) < w ((N:Int) - 1)))=if i+1=N then 0 else 1:=by
 rw [wJ (by omega) (by omega)];unfold ni;by_cases e:i+1=N
 ·have:decide ((i:Int) < (N:Int) - 1)=false:=by simp;omega
  simp [this,e]
 ·have:decide ((i:Int) < (N:Int) - 1)=true:=by simp;omega
  simp [this,e]
theorem UA (e:List ag) (b:List Int) (hb:b.length=e.length) (hl:e.length < 1000):gV (dD.s4 e b) 0=some (if xQ e.length 0 b=0 then .inl () else .inr (xQ e.length 0 b)):=by
 rw [jS (step:=dD.s4 e b) b (fun i (_:Unit)=>i) (fun (r:Int)=>Sum.inr r) (fun _=>Sum.inl ()) (fun i b x=>if ((i+1=e.length∧x=0)∨(i+1≠e.length∧x=1)) then .inr b else .inl 3) (fun _ _=>True) rfl ?_ ?_ trivial (by omega)]
 ·rw [LM];rcases DJ e.length b 0 with h | h
  ·rw [h];rfl
  ·rw [h];rfl
 ·intro i hi u _;refine ⟨?_,fun _ _=>trivial⟩;simp only [dD.s4,iC (show i < e.length by omega),aG,jc hi,ah];rw [Yr i e.length (by omega) hl];by_cases e1:i+1=e.length
  ·by_cases e2:b[i]=0
   ·simp only [e1,e2,aG,di,au,true_and,true_or];rw [wn (by omega)];rw [← e1]
   ·simp [e1,e2]
  ·by_cases e2:b[i]=1
   ·simp only [e1,e2,aG,di,au,ne_eq,aQ,true_and,or_true];rw [wn (by omega)]
   ·simp [e1,e2]
 ·intro u _;have:((b.length:Nat):Int)=(e.length:Int):=by omega
  rw [this];simp only [dD.s4,dh,au]
theorem VM {i:Nat} {b:List Int} {n:ag} {a8:Bool×Bool×Bool×Bool×Bool×Bool} (hi:i < b.length) (hb:b.length < 1000) (h:a8.2.2.2.2.2=true→bY n.B 0 ((i:Int) - 1)=true) (b0:List Int) (h0:b0.length=b.length) :
  dD.j3 ((i:Int),b) n a8 b0=some (.inl (((i+1:Nat):Int),if a8.2.2.2.2.2=true then bump b0 n.B else b0)):=by
 unfold dD.j3;cases ha:a8.2.2.2.2.2 with
 | true =>
  have hr:=oU.1 (h ha);simp only [aG];rw [at_in (d:=0) hr.1 (by omega),wn (by omega)];rfl
 | false=>simp only [aF,au];rw [wn (by omega)]
theorem Zf {i:Nat} {b:List Int} {n:ag} {a8:Bool×Bool×Bool×Bool×Bool×Bool} (hi:i < b.length) (hb:b.length < 1000)
  (hops:fC n=(if a8.2.2.2.2.1=true then [n.A] else [])++(if a8.2.2.2.2.2=true then [n.B] else []))
  (hcl:clean n=!(((((((!a8.1)&&(n.Value != 0)) || ((!a8.2.1)&&(n.Var != 0))) || ((!a8.2.2.1)&&(decide ((n.Subscripts.length:Int) > 0)))) || ((!a8.2.2.2.1)&&(decide ((n.Forms.length:Int) > 0)))) || ((!a8.2.2.2.2.1)&&(n.A != 0))) || ((!a8.2.2.2.2.2)&&(n.B != 0)))) (hk:bY n.Kind 0 9=true) :
  dD.j2 ((i:Int),b) n a8=some (match tN i b n with | .inl c => .inr (.inr c) | .inr b' => .inl (((i+1:Nat):Int),b')):=by
 unfold dD.j2 tN Qi;simp only [hk,di,au];have hw:w ((i:Int) - 1)=(i:Int) - 1:=wJ (by omega) (by omega);have hX:(((((((!a8.1)&&(n.Value != 0)) || ((!a8.2.1)&&(n.Var != 0))) || ((!a8.2.2.1)&&(decide ((n.Subscripts.length:Int) > 0)))) || ((!a8.2.2.2.1)&&(decide ((n.Forms.length:Int) > 0)))) || ((!a8.2.2.2.2.1)&&(n.A != 0))) || ((!a8.2.2.2.2.2)&&(n.B != 0)))=!(clean n):=by rw [hcl,Bool.not_not]
 by_cases hc:clean n=true
 ·rw [if_neg (by rw [hX,hc];simp)];simp only [Ih,hw];unfold Q4 SN;rw [hops,hc];obtain ⟨a1,a2,a3,a4,a5,a6⟩:=a8;simp only at *
  cases a5<;>cases a6
  ·simp;rw [VM hi hb (by simp) b rfl];simp
  ·by_cases hB:bY n.B 0 ((i:Int) - 1)=true
   ·simp [hB];rw [VM hi hb (by simp [hB]) b rfl];simp
   ·simp [hB]
  ·by_cases hA:bY n.A 0 ((i:Int) - 1)=true
   ·have hr:=oU.1 hA;simp [hA];rw [at_in (d:=0) hr.1 (by omega)];simp only [ah];rw [VM hi hb (by simp) _ (by simp)];simp [bump]
   ·simp [hA]
  ·by_cases hA:bY n.A 0 ((i:Int) - 1)=true
   ·by_cases hB:bY n.B 0 ((i:Int) - 1)=true
    ·have hr:=oU.1 hA;simp [hA,hB];rw [at_in (d:=0) hr.1 (by omega)];simp only [ah];rw [VM hi hb (by simp [hB]) _ (by simp)];simp [bump]
    ·simp [hA,hB]
   ·simp [hA]
 ·have:clean n=false:=jH hc;rw [if_pos (by rw [hX,this];rfl)];simp [this]
theorem kinds {k:Int} (h:bY k 0 9=true):k=0∨k=1∨k=2∨k=3∨k=4∨k=5∨k=6∨k=7∨k=8∨k=9:=by
 have:=oU.1 h;omega
theorem Rz {e:List ag} {i:Nat} (hi:i < e.length) (he:e.length < 1000) {b:List Int} (hb:b.length=e.length) :
  dD.s1 e ((i:Int),b)=some (match tN i b e[i] with | .inl c => .inr (.inr c) | .inr b' => .inl (((i+1:Nat):Int),b')):=by
 simp only [dD.s1,iC hi,aG,jc hi,ah,Ih];generalize e[i]=n;by_cases hk:bY n.Kind 0 9=true
 ·simp only [hk,di,au];have key:=fun (a8:Bool×Bool×Bool×Bool×Bool×Bool) h1 h2=>Zf (i:=i) (b:=b) (n:=n) (a8:=a8) (by omega) (by omega) h1 h2 hk
  have hz:∀ m:Nat,decide ((m:Int) > 0)=!((m:Int)==0):=by
   intro m;by_cases h:m=0
   ·subst h;rfl
   ·have h1:decide ((m:Int) > 0)=true:=by simp;omega
    have h2:((m:Int)==0)=false:=by simp;exact h
    rw [h1,h2];rfl
  have hsub:=hz n.Subscripts.length;have hfor:=hz n.Forms.length;rcases kinds hk with q | q | q | q | q | q | q | q | q | q<;>simp only [q,aG,au,show (1:Int)≠0 by omega,show ((2:Int)=0)=False by simp,show ((2:Int)=1)=False by simp,show ((2:Int)=7)=False by simp,show ((2:Int)=8)=False by simp,show ((2:Int)=9)=False by simp,Int.reduceEq] <;>
   (refine key _ ?_ ?_
    ·simp [fC,bW,q]
    ·unfold clean;rw [hsub,hfor];generalize ((n.Subscripts.length:Int)==0)=u1;generalize ((n.Forms.length:Int)==0)=u2;simp only [bW,q,bne];generalize (n.Value==0)=u3;generalize (n.Var==0)=u4;generalize (n.A==0)=u5;generalize (n.B==0)=u6;revert u1 u2 u3 u4 u5 u6;decide)
 ·simp only [hk,aQ,aG];unfold tN Qi;simp [hk]
theorem LD (e:List ag) (he:e.length < 1000):dD e=some (Hw e):=by
 unfold dD Hw;by_cases h0:e.length=0
 ·simp [h0]
 ·rw [if_neg (by omega),if_neg h0];by_cases h4:40 < e.length
  ·rw [if_pos (by omega),if_pos h4]
  ·rw [if_neg (by omega),if_neg h4];rw [Qg (by omega)];simp only [ah];rw [jS (step:=dD.s1 e) e (fun i b=>(i,b)) (fun r=>Sum.inr r) (fun b=>Sum.inl b) tN (fun _ b=>b.length=e.length) (a:=List.replicate e.length 0) rfl ?_ ?_ (by simp) (by omega)]
   ·cases hs:gK tN 0 e (List.replicate e.length 0) with
    | inl c=>rfl
    | inr b =>
     have hl:=Gg _ _ _ _ hs;simp only [mD] at hl;simp only [ah];rw [UA e b hl he];rcases DJ e.length b 0 with h | h<;>rw [h]<;>rfl
   ·intro i hi b hb;refine ⟨?_,?_⟩
    ·rw [Rz hi he hb];cases tN i b e[i]<;>rfl
    ·intro b' h;unfold tN at h;split at h
     ·cases h;rw [GL];exact hb
     ·cases h
   ·intro b hb;simp only [dD.s1,dh,au]
end Go.Sh
set_option linter.all false
namespace Go.Sh
open Go.Lx
def Sv {ρ τ β γ:Type} (π:ρ→τ) (R:β→γ→Prop):Sum ρ β→Sum τ γ→Prop
 | .inl r, .inl t=>t=π r
 | .inr b, .inr c=>R b c
 | _,_=>False
theorem NQ {α β γ ρ τ:Type} {f:Nat→β→α→Sum ρ β} {g:Nat→γ→α→Sum τ γ} (π:ρ→τ) (R:Nat→β→γ→Prop) (e:List α)
  (h:∀ i (hi:i < e.length) b c,R i b c→Sv π (R (i+1)) (f i b e[i]) (g i c e[i])) :
  ∀ (ys:List α) (i:Nat) (b:β) (c:γ),e.drop i=ys→i≤e.length→R i b c→Sv π (R e.length) (gK f i ys b) (gK g i ys c)
 | [],i,b,c,hd,hi,hR=>by
  have:i=e.length:=by have:=congrArg List.length hd;simp at this;omega
  subst this;exact hR
 | y::ys,i,b,c,hd,hi,hR=>by
  have hlt:i < e.length:=by have:=congrArg List.length hd;simp at this;omega
  have hy:e[i]=y∧e.drop (i+1)=ys:=by
   rw [List.drop_eq_getElem_cons hlt] at hd;injection hd with h1 h2
   exact ⟨h1,h2⟩
  have h1:=h i hlt b c hR;rw [hy.1] at h1;simp only [gK];cases hf:f i b y with
  | inl r =>
   rw [hf] at h1;cases hg:g i c y with
   | inl t=>rw [hg] at h1;exact h1
   | inr c'=>rw [hg] at h1;exact h1.elim
  | inr b' =>
   rw [hf] at h1;cases hg:g i c y with
   | inl t=>rw [hg] at h1;exact h1.elim
   | inr c'=>rw [hg] at h1;exact NQ π R e h ys (i+1) b' c' hy.2 hlt h1
theorem NR:∀ (xs:List ag) (i:Nat) (b b':List Int),gK tN i xs b = .inr b'→∀ k (hk:k < xs.length),Qi (i+k) xs[k]=0
 | [],i,b,b',h,k,hk=>by simp at hk
 | x::xs,i,b,b',h,k,hk=>by
  simp only [gK] at h;cases hs:tN i b x with
  | inl c=>rw [hs] at h;cases h
  | inr b1 =>
   rw [hs] at h;have h0:Qi i x=0:=by unfold tN at hs;split at hs;assumption;cases hs
   cases k with
   | zero=>simpa using h0
   | succ k =>
    have:=NR xs (i+1) b1 b' h k (by simpa using hk);rw [show i+1+k=i+(k+1) by omega] at this;simpa using this
structure Gq (e:List ag):Prop where
 pos:0 < e.length
 len:e.length≤40
 node:∀ i (hi:i < e.length),Qi i e[i]=0
 use:∃ b,gK tN 0 e (List.replicate e.length 0) = .inr b∧xQ e.length 0 b=0
theorem UH:∀ (xs:List ag) (i:Nat) (b:List Int) (c:Int),gK tN i xs b = .inl c→c≠0
 | [],i,b,c,h=>by cases h
 | x::xs,i,b,c,h=>by
  simp only [gK] at h;cases hs:tN i b x with
  | inl c'=>rw [hs] at h;cases h;unfold tN at hs;split at hs;cases hs;cases hs;assumption
  | inr b1=>rw [hs] at h;exact UH xs (i+1) b1 c h
theorem OQ {e:List ag} (h:Hw e=0):Gq e:=by
 unfold Hw at h;split at h
 ·cases h
 ·rename_i h0
  split at h
  ·cases h
  ·rename_i h4
   cases hs:gK tN 0 e (List.replicate e.length 0) with
   | inl c=>rw [hs] at h;exact absurd h (UH _ _ _ _ hs)
   | inr b =>
    rw [hs] at h;exact ⟨by omega,by omega,fun i hi=>by have:=NR e 0 _ b hs i hi;simpa using this,b,hs,h⟩
structure Jy (i:Nat) (n:ag):Prop where
 kind:bY n.Kind 0 9=true
 ops:Q4 i n=true
 cl:clean n=true
theorem XO {i:Nat} {n:ag} (h:Qi i n=0):Jy i n:=by
 unfold Qi at h;split at h
 ·cases h
 ·rename_i h1
  split at h
  ·rename_i h2
   simp only [bg] at h2;exact ⟨by simpa using h1,h2.1,h2.2⟩
  ·cases h
theorem Jy.A {i:Nat} {n:ag} (h:Jy i n) (hk:n.Kind=7∨bW n.Kind=true):0≤n.A∧n.A < i:=by
 have h2:=h.ops;unfold Q4 fC at h2;rcases hk with q | q
 ·simp [q,bW] at h2;have:=oU.1 h2;omega
 ·simp [q] at h2;have:=oU.1 h2.1;omega
theorem Jy.B {i:Nat} {n:ag} (h:Jy i n) (hk:bW n.Kind=true):0≤n.B∧n.B < i:=by
 have h2:=h.ops;unfold Q4 fC at h2;simp [hk] at h2;have:=oU.1 h2.2;omega
theorem MF {n:ag} (hk:bY n.Kind 0 9=true) (h0:n.Kind≠0) (h1:n.Kind≠1) (h7:n.Kind≠7) (h8:n.Kind≠8) (h9:n.Kind≠9):bW n.Kind=true:=by
 have:=oU.1 hk;unfold bW;simp;omega
def Du:aB:=aB.mk [] [] false
def sF (l:List ae) (v:Int) (q:List ay):aB×Int :=
 match at_ l v with
 | none=>(Du,6)
 | some a=>((pF a.Bounds q).1,if (pF a.Bounds q).2=0 then (if (pF a.Bounds q).1.Offsets.length≤60 then 0 else 8) else (pF a.Bounds q).2)
theorem DY {α:Type} {xs:List α} {k:Int}:at_ xs k=none↔¬ bY k 0 ((xs.length:Int) - 1)=true:=by
 rw [oU];unfold at_;by_cases h:0≤k
 ·rw [if_pos h,List.getElem?_eq_none_iff];omega
 ·rw [if_neg h];simp;omega
theorem QE {l:List ae} {v:Int} {q:List ay} (hl:l.length < 1000) (hq:∀ s,s∈q→s.List.length < 16777216):pg l v q=some (sF l v q):=by
 unfold pg sF;rw [wJ (by omega) (by omega)];cases ha:at_ l v with
 | none=>rw [if_pos (DY.1 ha)];rfl
 | some a =>
  have:bY v 0 ((l.length:Int) - 1)=true:=by
   have h1:=mt DY.2 (by rw [ha];simp:¬ at_ l v=none);simpa using h1
  rw [if_neg (by simp [this])];simp only [ah,NU a.Bounds q hq,qW,Zh];by_cases h1:(pF a.Bounds q).1.Offsets.length≤60
  ·have:decide (((pF a.Bounds q).1.Offsets.length:Int)≤60)=true:=by simp;omega
   simp only [this,h1,aG]
  ·have:decide (((pF a.Bounds q).1.Offsets.length:Int)≤60)=false:=by simp;omega
   simp only [this,h1,au,aF]
def kQ (l:List ae) (i:Nat) (out:List (List Int)) (n:ag):Sum Int (List (List Int)) :=
 if n.Kind=0 then (if bY n.Value (-2147483648) 2147483647=true then .inr (out++[[]]) else .inl 2)
 else if n.Kind=1 then (if (sF l n.Var n.Subscripts).2=0 then .inr (out++[(sF l n.Var n.Subscripts).1.Extents]) else .inl (sF l n.Var n.Subscripts).2)
 else if n.Kind=7 then .inr (out++[out.getD n.A.toNat []])
 else if out.getD n.A.toNat []≠[]∧out.getD n.B.toNat []≠[]∧out.getD n.A.toNat []≠out.getD n.B.toNat [] then .inl 10
 else .inr (out++[if out.getD n.A.toNat []=[] then out.getD n.B.toNat [] else out.getD n.A.toNat []])
def shE (l:List ae) (e:List ag):Sum Int (List (List Int)):=gK (kQ l) 0 e []
def odd (n:ag):Bool:=(n.Kind==8) || (n.Kind==9)
def yG (l:List ae) (e:List ag):Int :=
 if Hw e≠0 then Hw e else if e.any odd=true then 15 else match shE l e with | .inl c=>c | .inr _=>0
def Qn (l:List ae) (e:List ag):List (List Int):=match shE l e with | .inl _=>[] | .inr out=>out
theorem EI {l:List ae} {i:Nat} {out out':List (List Int)} {n:ag} (h:kQ l i out n = .inr out'):out'.length=out.length+1:=by
 unfold kQ at h
 repeat' split at h
 all_goals first | (cases h;simp) | (cases h;done)
theorem UN {l:List ae} {i:Nat} {out:List (List Int)} {n:ag} {c:Int} (h:kQ l i out n = .inl c):c≠0:=by
 unfold kQ at h
 repeat' split at h
 all_goals first | (cases h;first | assumption | simp) | (cases h;done)
def Small (e:List ag):Prop:=e.length < 1000∧∀ n,n∈e→∀ s,s∈n.Subscripts→s.List.length < 16777216
theorem Tj {a b:List Int} (ha:a.length < 16777216):slices_Equal_int a b=some (a==b):=by
 unfold slices_Equal_int;by_cases h:a.length=b.length
 ·rw [if_neg (by omega)];rw [jS (step:=slices_Equal_int.s1 a b) a (fun i (_:Unit)=>i) (fun (r:Bool)=>Sum.inr r) (fun _=>Sum.inl ()) (fun i u x=>if x=b.getD i 0 then .inr u else .inl false) (fun _ _=>True) rfl ?_ ?_ trivial (by omega)]
  ·have key:∀ (xs ys:List Int) (i:Nat),b.drop i=ys→xs.length=ys.length→gK (ρ:=Bool) (fun i (u:Unit) x=>if x=b.getD i 0 then .inr u else .inl false) i xs ()=if xs=ys then .inr () else .inl false:=by
    intro xs
    induction xs with
    | nil=>intro ys i _ hy;cases ys with | nil=>rfl | cons _ _=>simp at hy
    | cons x xs ih =>
     intro ys i hd hy;cases ys with
     | nil=>simp at hy
     | cons y ys =>
      have hlt:i < b.length:=by have:=congrArg List.length hd;simp at this;omega
      rw [List.drop_eq_getElem_cons hlt] at hd;injection hd with h1 h2
      simp only [gK];have e1:b.getD i 0=y:=by rw [bU,ax hlt];exact h1
      rw [e1];by_cases hx:x=y
      ·simp only [hx,aG];rw [ih ys (i+1) h2 (by simpa using hy)];simp
      ·simp [hx]
   rw [key a b 0 (by simp) h];by_cases e:a=b
   ·simp [e]
   ·have:(a==b)=false:=by simpa using e
    simp [e,this]
  ·intro i hi u _;refine ⟨?_,fun _ _=>trivial⟩;simp only [slices_Equal_int.s1,iC hi,aG,jc hi,jc (show i < b.length by omega),ah];have e1:b.getD i 0=b[i]:=by rw [bU,ax (by omega)];rfl
   rw [e1];by_cases hx:a[i]=b[i]
   ·simp only [hx,di,au,aG];rw [wn (by omega)]
   ·simp [hx]
  ·intro u _;simp only [slices_Equal_int.s1,dh,au]
 ·rw [if_pos (by omega)];have:(a==b)=false:=by simp;intro q;exact h (by rw [q])
  rw [this]
end Go.Sh
set_option linter.all false
namespace Go.Sh
open Go.Lx
theorem XP (e:List ag) (he:e.length < 1000):dJ e=some (e.any odd):=by
 unfold dJ aU;obtain ⟨k,hk⟩:=vJ (step:=aU.s1 e) e odd (fun i=>Sum.inr i) (Sum.inl ()) (s:=0) rfl (fun i hi=>by
  simp only [aU.s1,iC hi,aG,jc hi,ah,qU];by_cases o:odd e[i]=true
  ·have:((e[i].Kind==8) || (e[i].Kind==9))=true:=o;simp only [this,o,aG]
  ·have:((e[i].Kind==8) || (e[i].Kind==9))=false:=jH o;simp only [this,o,au,aF];rw [wn (by omega)]) (by simp only [aU.s1,dh,au]) (by omega)
 rw [hk];by_cases h:e.any odd=true
 ·simp only [h,aG,ah];simp
 ·have h':e.any odd=false:=jH h;simp only [h',aF,au,ah];rfl
theorem Uz (e:List ag) (he:e.length < 1000):gV (iI.s1 e) 0=some (if e.any odd=true then .inr ([],15) else .inl ()):=by
 obtain ⟨k,hk⟩:=vJ (step:=iI.s1 e) e odd (fun i=>Sum.inr (([]:List (List Int)),(15:Int))) (Sum.inl ()) (s:=0) rfl (fun i hi=>by
  simp only [iI.s1,iC hi,aG,jc hi,ah];unfold odd;by_cases h8:e[i].Kind=8
  ·simp [h8]
  ·by_cases h9:e[i].Kind=9
   ·simp [h9]
   ·simp only [h8,h9,au];have e8:(e[i].Kind==8)=false:=by simpa using h8
    have e9:(e[i].Kind==9)=false:=by simpa using h9
    simp only [e8,e9,Bool.or_false,aF,au];rw [wn (by omega)]) (by simp only [iI.s1,dh,au]) (by omega)
 rw [hk]
structure Nod (i:Nat) (n:ag):Prop where
 ok:Jy i n
 k8:n.Kind≠8
 k9:n.Kind≠9
theorem JU {e:List ag} (F:Gq e) (ho:e.any odd=false) (i:Nat) (hi:i < e.length):Nod i e[i]:=by
 have:=List.any_eq_false.1 ho e[i] (dE hi);unfold odd at this;simp at this;exact ⟨XO (F.node i hi),this.1,this.2⟩
theorem Wn {l:List ae} {n:ag} {o:List (List Int)} {j:Int} (hl:l.length < 1000) (hq:∀ s,s∈n.Subscripts→s.List.length < 16777216) (hlen:o.length < 1000) :
  (if ¬ ((eX n.Var 0 (w ((l.length:Int) - 1)))=true) then (some (.inr (.inr (([]:List (List Int)),6))):Option (Sum (Int×List (List Int)) (Sum (List (List Int)) ((List (List Int))×Int))))
    else
     (at_ l n.Var).bind fun x19 =>
     (dY x19.Bounds n.Subscripts).bind fun x20 =>
     if ¬ x20.2=0 then
      some (.inr (.inr (([]:List (List Int)),x20.2)))
     else
      if (x20.1.Offsets.length:Int) > 60 then
       some (.inr (.inr (([]:List (List Int)),8)))
      else
       (app o ([x20.1.Extents]:List (List Int))).bind fun x23 =>
       some (.inl (j,x23)))=some (if (sF l n.Var n.Subscripts).2=0 then .inl (j,o++[(sF l n.Var n.Subscripts).1.Extents]) else .inr (.inr ([],(sF l n.Var n.Subscripts).2))):=by
 rw [Ih,wJ (by omega) (by omega)];unfold sF;cases ha:at_ l n.Var with
 | none=>rw [if_pos (DY.1 ha)];rfl
 | some a =>
  have:bY n.Var 0 ((l.length:Int) - 1)=true:=by
   have h1:=mt DY.2 (by rw [ha];simp:¬ at_ l n.Var=none);simpa using h1
  rw [if_neg (by simp [this])];simp only [ah,vM a.Bounds n.Subscripts hq];by_cases h2:(pF a.Bounds n.Subscripts).2=0
  ·simp only [h2,di,au,aG];by_cases h3:(pF a.Bounds n.Subscripts).1.Offsets.length≤60
   ·rw [if_neg (by omega),jT (by omega)];simp [h3]
   ·rw [if_pos (by omega)];simp [h3]
  ·simp [h2]
theorem tq {b:List (List Int)} (k:Nat) (h:∀ x,x∈b→x.length≤7):(b.getD k []).length≤7:=by
 rw [bU];cases hk:b[k]? with
 | none=>simp
 | some x=>exact h x (bu hk)
theorem Ar {l:List ae} {v:Int} {q:List ay} (h:(sF l v q).2=0):∃ a,at_ l v=some a∧Sct a.Bounds (sF l v q).1∧(sF l v q).1.Offsets.length≤60∧sF l v q=pF a.Bounds q:=by
 unfold sF at h ⊢;cases ha:at_ l v with
 | none=>rw [ha] at h;cases h
 | some a =>
  rw [ha] at h;simp only at h ⊢;by_cases h2:(pF a.Bounds q).2=0
  ·simp only [h2,aG] at h ⊢;by_cases h3:(pF a.Bounds q).1.Offsets.length≤60
   ·exact ⟨a,rfl,RI h2,h3,by simp [h3,← h2]⟩
   ·simp [h3] at h
  ·simp [h2] at h
theorem FD {l:List ae} {i:Nat} {b b':List (List Int)} {n:ag} (h:kQ l i b n = .inr b') (hb:∀ x,x∈b→x.length≤7):∀ x,x∈b'→x.length≤7:=by
 have key:∀ z:List Int,z.length≤7→∀ x,x∈b++[z]→x.length≤7:=by
  intro z hz x hx;simp only [aT,iY] at hx;rcases hx with hx | hx
  ·exact hb x hx
  ·rw [hx];exact hz
 unfold kQ at h;split at h
 ·split at h
  ·cases h;exact key _ (by simp)
  ·cases h
 ·split at h
  ·split at h
   ·rename_i h2
    cases h;obtain ⟨a,_,hs,_⟩:=Ar h2;exact key _ hs.dims
   ·cases h
  ·split at h
   ·cases h;exact key _ (tq _ hb)
   ·split at h
    ·cases h
    ·cases h;refine key _ ?_;split
     ·exact tq _ hb
     ·exact tq _ hb
theorem Wh {l:List ae} {e:List ag} (hl:l.length < 1000) (hs:Small e) (F:Gq e) (ho:e.any odd=false) :
  gV (iI.s2 l e) (0,[])=some (match shE l e with | .inl c => .inr ([],c) | .inr out => .inl out):=by
 unfold shE;rw [jS (step:=iI.s2 l e) e (fun i b=>(i,b)) (fun (c:Int)=>Sum.inr (([]:List (List Int)),c)) (fun b=>Sum.inl b) (kQ l) (fun i b=>b.length=i∧∀ x,x∈b→x.length≤7) (a:=[]) rfl ?_ ?_ ⟨rfl,by simp⟩ (by have:=hs.1;omega)]
 ·cases gK (kQ l) 0 e []<;>rfl
 ·intro i hi b ⟨hb,h7s⟩;have hN:=JU F ho i hi;have hlt:=hs.1;refine ⟨?_,fun b' h=>⟨by rw [EI h,hb],FD h h7s⟩⟩;simp only [iI.s2,iC hi,aG,jc hi,ah];have hq:=hs.2 e[i] (dE hi);generalize e[i]=n at *
  unfold kQ;by_cases h0:n.Kind=0
  ·simp only [h0,aG];rw [show kW n.Value=bY n.Value (-2147483648) 2147483647 from Ih _ _ _];by_cases hv:bY n.Value (-2147483648) 2147483647=true
   ·simp only [hv,di,au,aG];rw [jT (by omega),wn (by omega)];rfl
   ·simp [hv]
  ·by_cases h1:n.Kind=1
   ·simp only [h0,h1,aG,au,Int.reduceEq];rw [Wn hl hq (by omega),wn (by omega)];by_cases h2:(sF l n.Var n.Subscripts).2=0<;>simp [h2]
   ·by_cases h7:n.Kind=7
    ·simp only [h0,h1,h7,aG,au,Int.reduceEq];have hA:=hN.ok.A (.inl h7);rw [at_in (d:=[]) hA.1 (by omega)];simp only [ah];rw [jT (by omega),wn (by omega)];rfl
    ·simp only [h0,h1,h7,au];have hb2:=MF hN.ok.kind h0 h1 h7 hN.k8 hN.k9;have hA:=hN.ok.A (.inr hb2);have hB:=hN.ok.B hb2;rw [at_in (d:=[]) hA.1 (by omega),at_in (d:=[]) hB.1 (by omega)];simp only [ah];have hxs:=tq n.A.toNat h7s;have hys:=tq n.B.toNat h7s;generalize b.getD n.A.toNat []=x at *
     generalize b.getD n.B.toNat []=y at *
     have la:∀ z:List Int,z.length≤7→((app b [z]).bind fun x35=>(some (.inl ((w ((i:Int)+1)),x35)):Option (Sum (Int×List (List Int)) (Sum (List (List Int)) ((List (List Int))×Int)))))=some (.inl (((i+1:Nat):Int),b++[z])):=by
      intro z _;rw [jT (by omega),wn (by omega)];rfl
     simp only [la x hxs,la y hys];cases x with
     | nil=>simp
     | cons x0 xr =>
      cases y with
      | nil=>simp;omega
      | cons y0 yr =>
       have e1:(decide (((x0::xr).length:Int) > 0)&&decide (((y0::yr).length:Int) > 0))=true:=by simp
       rw [if_pos e1,OW (by omega) (by omega)];have e2:¬ (((x0::xr).length:Int)=0):=by simp;omega
       by_cases he:x0::xr=y0::yr
       ·simp [he]
       ·have:(x0::xr==y0::yr)=false:=by simpa using he
        simp only [ah,this];simp [he]
 ·intro b hb;simp only [iI.s2,dh,au]
theorem Gf {l:List ae} {e:List ag} {out:List (List Int)} (h:shE l e = .inr out):out.length=e.length∧∀ x,x∈out→x.length≤7:=by
 have key:∀ (xs:List ag) (i:Nat) (b b':List (List Int)),gK (kQ l) i xs b = .inr b'→(∀ x,x∈b→x.length≤7)→b'.length=b.length+xs.length∧∀ x,x∈b'→x.length≤7:=by
  intro xs
  induction xs with
  | nil=>intro i b b' h hb;cases h;exact ⟨rfl,hb⟩
  | cons x xs ih =>
   intro i b b' h hb;simp only [gK] at h;cases hf:kQ l i b x with
   | inl c=>rw [hf] at h;cases h
   | inr b1 =>
    rw [hf] at h;have:=ih (i+1) b1 b' h (FD hf hb);rw [EI hf] at this;exact ⟨by rw [this.1];simp;omega,this.2⟩
 have:=key e 0 [] out h (by simp);exact ⟨by simpa using this.1,this.2⟩
theorem UM {l:List ae} {e:List ag} {c:Int} (h:shE l e = .inl c):c≠0:=by
 have key:∀ (xs:List ag) (i:Nat) (b:List (List Int)) (c:Int),gK (kQ l) i xs b = .inl c→c≠0:=by
  intro xs
  induction xs with
  | nil=>intro i b c h;cases h
  | cons x xs ih =>
   intro i b c h;simp only [gK] at h;cases hf:kQ l i b x with
   | inl c'=>rw [hf] at h;cases h;exact UN hf
   | inr b1=>rw [hf] at h;exact ih _ _ _ h
 exact key _ _ _ _ h
theorem NJ {l:List ae} {e:List ag} (hl:l.length < 1000) (hs:Small e):iI l e=some (if yG l e=0 then Qn l e else [],yG l e):=by
 unfold iI yG Qn;rw [LD e hs.1];simp only [ah];by_cases hf:Hw e=0
 ·simp only [hf,di,ne_eq,au];rw [Uz e hs.1];by_cases ho:e.any odd=true
  ·simp [ho]
  ·have ho':e.any odd=false:=jH ho;simp only [ho',aF,au,ah];rw [Wh hl hs (OQ hf) ho'];cases h:shE l e with
   | inl c=>simp [UM h]
   | inr out=>simp
 ·simp [hf]
def sec (l:List ae) (n:ag):aB:=if n.Kind=1 then (sF l n.Var n.Subscripts).1 else Du
structure Kt (l:List ae) (e:List ag) (i:Nat) (b:List aB×List (List Int)) (out:List (List Int)):Prop where
 secs:b.1=(e.take i).map (sec l)++List.replicate (e.length - i) Du
 shs:b.2=out++List.replicate (e.length - i) []
 len:out.length=i
 small:∀ x,x∈out→x.length≤7
theorem IY {α:Type} (a:List α) (x d:α) {n i:Nat} (ha:a.length=i) (hi:i < n):(a++List.replicate (n - i) d).set i x=(a++[x])++List.replicate (n - (i+1)) d:=by
 have:n - i=(n - (i+1))+1:=by omega
 rw [this,List.replicate_succ,List.set_append_right _ _ (by omega),ha];simp
theorem KT {α:Type} (a:List α) (d:α) {k n:Nat} (hk:k < a.length):(a++List.replicate n d).getD k d=a.getD k d:=by
 rw [bU,bU,bI hk]
theorem Wx {α β:Type} (f:α→β) (e:List α) (i:Nat) (hi:i < e.length):(e.take (i+1)).map f=(e.take i).map f++[f e[i]]:=by
 rw [List.take_succ_eq_append_getElem hi,List.map_append];rfl
theorem WM {l:List ae} {e:List ag} (hl:l.length < 1000) (hs:Small e) {i:Nat} (hi:i < e.length) (hN:Nod i e[i]) {b:List aB×List (List Int)} {out:List (List Int)} (R:Kt l e i b out) :
  ∃ c b2 b3,oZ i e[i] l e b.1 b.2=some (c,b2,b3)∧(match kQ l i out e[i] with | .inl t=>c=t∧c≠0 | .inr out'=>c=0∧Kt l e (i+1) (b2,b3) out'):=by
 obtain ⟨b2,b3⟩:=b;obtain ⟨r1,r2,r3,r4⟩:=R;simp only at r1 r2;have hlt:=hs.1;have h3l:b3.length=e.length:=by rw [r2];simp;omega
 have h2l:b2.length=e.length:=by rw [r1];simp;omega
 have hq:=hs.2 e[i] (dE hi);have tm:=Wx (sec l) e i hi;have mk:∀ (z:List Int),z.length≤7→e[i].Kind≠1→Kt l e (i+1) (b2,b3.set i z) (out++[z]):=by
  intro z hz h1;refine ⟨?_,?_,by simp [r3],?_⟩
  ·simp only;rw [tm,r1];have:sec l e[i]=Du:=by unfold sec;rw [if_neg h1]
   rw [this];have:e.length - i=(e.length - (i+1))+1:=by omega
   rw [this,List.replicate_succ];simp
  ·simp only;rw [r2,IY out z [] r3 hi]
  ·intro x hx;simp only [aT,iY] at hx;rcases hx with hx | hx
   ·exact r4 x hx
   ·rw [hx];exact hz
 unfold oZ kQ;by_cases h0:e[i].Kind=0
 ·simp only [h0,aG,qW,ah];by_cases hv:bY e[i].Value (-2147483648) 2147483647=true
  ·simp only [hv,aG];refine ⟨_,_,_,rfl,rfl,?_⟩;have:=mk [] (by simp) (by omega);rw [r2,IY out [] [] r3 hi] at this;rw [r2];have e1:e.length - i=(e.length - (i+1))+1:=by omega
   have e2:out++List.replicate (e.length - i) []=(out++[([]:List Int)])++List.replicate (e.length - (i+1)) []:=by rw [e1,List.replicate_succ];simp
   rw [e2];exact this
  ·simp only [hv,au];exact ⟨_,_,_,rfl,rfl,by simp⟩
 ·by_cases h1:e[i].Kind=1
  ·simp only [h0,h1,aG,au,Int.reduceEq,QE hl hq,ah];rw [jc (by omega),jc (by omega)];simp only [ah,nG];by_cases h2:(sF l e[i].Var e[i].Subscripts).2=0
   ·obtain ⟨a,_,hsc,_⟩:=Ar h2;simp only [h2,aG];refine ⟨_,_,_,rfl,rfl,?_,?_,by simp [r3],?_⟩
    ·simp only;rw [tm,r1,IY _ _ Du (by simp;omega) hi];have:sec l e[i]=(sF l e[i].Var e[i].Subscripts).1:=by unfold sec;rw [if_pos h1]
     rw [this]
    ·simp only;rw [r2,IY out _ [] r3 hi]
    ·intro x hx;simp only [aT,iY] at hx;rcases hx with hx | hx
     ·exact r4 x hx
     ·rw [hx];exact hsc.dims
   ·simp only [h2,au];exact ⟨_,_,_,rfl,rfl,h2⟩
  ·by_cases h7:e[i].Kind=7
   ·have hA:=hN.ok.A (.inl h7);simp only [h0,h1,h7,aG,au,Int.reduceEq];rw [at_in (d:=[]) hA.1 (by omega),jc (by omega)];simp only [ah,nG];refine ⟨_,_,_,rfl,rfl,?_⟩;have e1:b3.getD e[i].A.toNat []=out.getD e[i].A.toNat []:=by rw [r2];exact KT out [] (by omega)
    rw [e1];exact mk _ (tq _ r4) h1
   ·have hb2:=MF hN.ok.kind h0 h1 h7 hN.k8 hN.k9;have hA:=hN.ok.A (.inr hb2);have hB:=hN.ok.B hb2;simp only [h0,h1,h7,au];rw [at_in (d:=[]) hA.1 (by omega),at_in (d:=[]) hB.1 (by omega),jc (by omega)];simp only [ah,nG];have e1:b3.getD e[i].A.toNat []=out.getD e[i].A.toNat []:=by rw [r2];exact KT out [] (by omega)
    have e2:b3.getD e[i].B.toNat []=out.getD e[i].B.toNat []:=by rw [r2];exact KT out [] (by omega)
    rw [e1,e2];have hxs:=tq e[i].A.toNat r4;have hys:=tq e[i].B.toNat r4;generalize out.getD e[i].A.toNat []=x at *
    generalize out.getD e[i].B.toNat []=y at *
    unfold wR;cases x with
    | nil=>simp [qW];exact ⟨_,_,_,⟨rfl,rfl,rfl⟩,rfl,mk _ hys h1⟩
    | cons x0 xr =>
     rw [if_neg (by simp;omega)];cases y with
     | nil=>simp [qW];exact ⟨_,_,_,⟨rfl,rfl,rfl⟩,rfl,mk _ hxs h1⟩
     | cons y0 yr =>
      rw [if_neg (by simp;omega),Tj (by omega)];by_cases he:x0::xr=y0::yr
      ·simp [he,qW];rw [← he];exact ⟨_,_,_,⟨rfl,rfl,rfl⟩,rfl,mk _ hxs h1⟩
      ·have:(x0::xr==y0::yr)=false:=by simpa using he
       simp only [ah,this,qW];simp [he]
def c2F (l:List ae) (e:List ag) (i:Nat) (b:List aB×List (List Int)) (n:ag):Sum (Int×Int×List aB×List (List Int)) (List aB×List (List Int)) :=
 match oZ i n l e b.1 b.2 with
 | some (c,b2,b3)=>if c=0 then .inr (b2,b3) else .inl ((i:Int),c,b2,b3)
 | none => .inr b
def tC (l:List ae) (e:List ag):dS:=dS.mk e (e.map (sec l)) (Qn l e)
theorem Ut {l:List ae} {e:List ag} (hl:l.length < 1000) (hs:Small e):∃ x,uP l e=some (x,yG l e)∧(yG l e=0→x=some (tC l e)):=by
 unfold uP yG;rw [XP e hs.1,QZ e hs.1];simp only [ah,qW,Zh];have hlt:=hs.1;by_cases hf:Hw e=0
 ·simp only [hf,aG,ne_eq,di,au];by_cases ho:e.any odd=true
  ·simp only [ho,Bool.not_true,aF,au,aG];exact ⟨none,by simp,by simp⟩
  ·have ho':e.any odd=false:=jH ho;have F:=OQ hf;simp only [ho',Bool.not_false,aG,di,au,aF,Qg (show e.length≤16777216 by omega),ah];have step:∀ i (hi:i < e.length) b c,Kt l e i b c→Sv (fun (r:Int×Int×List aB×List (List Int))=>r.2.1) (Kt l e (i+1)) (c2F l e i b e[i]) (kQ l i c e[i]):=by
    intro i hi b c hR;obtain ⟨k,b2,b3,h1,h2⟩:=WM hl hs hi (JU F ho' i hi) hR;unfold c2F;rw [h1];cases hsh:kQ l i c e[i] with
    | inl t=>rw [hsh] at h2;simp only [h2.2,au];exact h2.1.symm
    | inr out'=>rw [hsh] at h2;simp only [h2.1,aG];exact h2.2
   have R0:Kt l e 0 (List.replicate e.length Du,List.replicate e.length []) []:=⟨by simp,by simp,rfl,by simp⟩
   have sim:=NQ (f:=c2F l e) (g:=kQ l) (fun r=>r.2.1) (Kt l e) e step e 0 _ [] rfl (by omega) R0;have hloop:gV (bD.s1 e l e) (0,List.replicate e.length Du,List.replicate e.length [])=some (match gK (c2F l e) 0 e (List.replicate e.length Du,List.replicate e.length []) with | .inl r => .inr r | .inr b => .inl b):=by
    rw [jS (step:=bD.s1 e l e) e (fun i b=>(i,b)) (fun r=>Sum.inr r) (fun b=>Sum.inl b) (c2F l e) (fun i b=>∃ c,Kt l e i b c) (a:=(List.replicate e.length Du,List.replicate e.length [])) rfl ?_ ?_ ⟨_,R0⟩ (by omega)]
    ·cases gK (c2F l e) 0 e (List.replicate e.length Du,List.replicate e.length [])<;>rfl
    ·rintro i hi b ⟨c,hR⟩
     have hst:=step i hi b c hR;obtain ⟨k,b2,b3,h1,h2⟩:=WM hl hs hi (JU F ho' i hi) hR;refine ⟨?_,?_⟩
     ·simp only [bD.s1,iC hi,aG,jc hi,ah];unfold c2F;rw [h1];simp only [ah];by_cases hk:k=0
      ·simp only [hk,di,au,aG];rw [wn (by omega)]
      ·simp only [hk,aQ,aG,au]
     ·intro b' hb';rw [hb'] at hst;cases hsh:kQ l i c e[i] with
      | inl t=>rw [hsh] at hst;exact hst.elim
      | inr out'=>rw [hsh] at hst;exact ⟨out',hst⟩
    ·intro b hb;simp only [bD.s1,dh,au]
   unfold bD;rw [show (aB.mk [] [] false)=Du from rfl,hloop];simp only [ah];unfold shE;cases hsc:gK (c2F l e) 0 e (List.replicate e.length Du,List.replicate e.length []) with
   | inl r =>
    rw [hsc] at sim;cases hsh:gK (kQ l) 0 e [] with
    | inl t =>
     rw [hsh] at sim;have ht:t=r.2.1:=sim;have:=UM hsh;exact ⟨_,by rw [ht];rfl,fun h=>absurd h this⟩
    | inr out=>rw [hsh] at sim;exact sim.elim
   | inr b =>
    rw [hsc] at sim;cases hsh:gK (kQ l) 0 e [] with
    | inl t=>rw [hsh] at sim;exact sim.elim
    | inr out =>
     rw [hsh] at sim;have hR:Kt l e e.length b out:=sim;refine ⟨_,rfl,fun _=>?_⟩;have h1:=hR.secs;have h2:=hR.shs;simp at h1 h2;have ho:Qn l e=out:=by unfold Qn shE;rw [hsh]
     simp only [tC,ho,h1,h2]
 ·simp only [hf,au,aQ,aG,ne_eq];exact ⟨none,rfl,fun h=>h.elim⟩
end Go.Sh
set_option linter.all false
namespace Go.Sh
open Go.Lx
abbrev wr (x:Int):Int:=IntKind.i32.wrap x
def AA (x:Int):Prop := -2147483648≤x∧x≤2147483647
theorem U4 (x:Int):wr x=if 2147483648≤x % 4294967296 then x % 4294967296 - 4294967296 else x % 4294967296:=by
 simp only [wr,IntKind.wrap,IntKind.bits,IntKind.signed];simp
theorem Zr (x:Int):AA (wr x):=by
 rw [U4];unfold AA;have:=Int.emod_nonneg x (b:=4294967296) (by omega);have:=Int.emod_lt_of_pos x (b:=4294967296) (by omega);split<;>omega
theorem YV {x:Int} (h:AA x):wr x=x:=by
 rw [U4];unfold AA at h;split<;>omega
theorem XN {a n:Int} (hn:1≤n) (hb:n≤8589934592):CE a n=some (a % n):=by
 unfold CE rem;rw [if_neg (by omega)];simp only [ah];have e:=Int.tmod_eq_emod (a:=a) (b:=n);have m1:=Int.emod_nonneg a (b:=n) (by omega);have m2:=Int.emod_lt_of_pos a (b:=n) (by omega);unfold ni;by_cases h:a.tmod n < 0
 ·simp only [h,decide_true,aG,Int.mul_one];rw [wJ (n:=n) (by omega) (by omega)];by_cases hd:0≤a∨n ∣ a
  ·rw [if_pos hd] at e;omega
  ·rw [if_neg hd] at e;rw [wJ (by omega) (by omega)];exact congrArg some (by omega)
 ·simp only [h,decide_false,aF,au,Int.mul_zero];have w0:w 0=0:=rfl;rw [w0,Int.add_zero];by_cases hd:0≤a∨n ∣ a
  ·rw [if_pos hd] at e;rw [wJ (by omega) (by omega)];exact congrArg some (by omega)
  ·rw [if_neg hd] at e;omega
theorem EC {n:Int} (h0 : -4611686018427387905≤n) (h1:n≤4611686018427387905):uD n=some (wr n):=by
 unfold uD;rw [wJ (by omega) (by omega),XN (by omega) (by omega)];simp only [ah];rw [wJ (by omega) (by omega),U4]
 congr 1
 split<;>omega
theorem YI {a b:Int} (ha:AA a) (hb:AA b) : -4611686018427387904≤a * b∧a * b≤4611686018427387904:=by
 unfold AA at ha hb;have h1:a.natAbs≤2147483648:=by omega
 have h2:b.natAbs≤2147483648:=by omega
 have h3:(a * b).natAbs≤2147483648 * 2147483648:=by rw [Int.natAbs_mul];exact Nat.mul_le_mul h1 h2
 omega
def opV (k a b:Int):Int:=lX k a b
theorem Wy (b:Bool):AA (nM b):=by unfold nM AA;split<;>omega
theorem YL (k a b:Int):AA (opV k a b):=by
 unfold opV lX
 repeat' split
 all_goals first | exact Zr _ | exact Wy _
theorem JW {k a b:Int} (ha:AA a) (hb:AA b):qZ k a b=some (opV k a b):=by
 have hm:=YI ha hb;unfold qZ opV lX;unfold AA at ha hb;have tb:∀ c:Bool,ni c=nM c:=fun c=>rfl
 split
 ·rw [wJ (by omega) (by omega),EC (by omega) (by omega)];rfl
 ·split
  ·rw [wJ (by omega) (by omega),EC (by omega) (by omega)];rfl
  ·split
   ·rw [wJ (by omega) (by omega),EC (by omega) (by omega)];rfl
   ·simp only [tb];split
    ·rfl
    ·split<;>rfl
theorem Uj (a b c:Int):opV 7 a b=opV 7 a c:=by simp [opV,lX]
theorem J6 {l:List ae} {i:Nat} {b b':List (List Int)} {n:ag} (h:kQ l i b n = .inr b'):∃ z,b'=b++[z]:=by
 unfold kQ at h
 repeat' split at h
 all_goals first | (cases h;exact ⟨_,rfl⟩) | (cases h;done)
theorem Xa {l:List ae}:∀ (xs:List ag) (i:Nat) (b b':List (List Int)),gK (kQ l) i xs b = .inr b'→∃ t,b'=b++t
 | [],i,b,b',h=>by cases h;exact ⟨[],by simp⟩
 | x::xs,i,b,b',h=>by
  simp only [gK] at h;cases hf:kQ l i b x with
  | inl c=>rw [hf] at h;cases h
  | inr b1 =>
   rw [hf] at h;obtain ⟨t,rfl⟩:=Xa xs (i+1) b1 b' h;obtain ⟨z,rfl⟩:=J6 hf;exact ⟨z::t,by simp⟩
theorem W9 {l:List ae}:∀ (xs:List ag) (i:Nat) (b b':List (List Int)),gK (kQ l) i xs b = .inr b'→b.length=i→∀ k (hk:k < xs.length),kQ l (i+k) (b'.take (i+k)) xs[k] = .inr (b'.take (i+k+1))
 | [],i,b,b',h,hb,k,hk=>by simp at hk
 | x::xs,i,b,b',h,hb,k,hk=>by
  have h0:=h;simp only [gK] at h;cases hf:kQ l i b x with
  | inl c=>rw [hf] at h;cases h
  | inr b1 =>
   rw [hf] at h;have hl:=EI hf;cases k with
   | zero =>
    obtain ⟨t,rfl⟩:=Xa xs (i+1) b1 b' h;obtain ⟨z,rfl⟩:=J6 hf;simp only [oG,List.getElem_cons_zero];have e1:((b++[z])++t).take i=b:=by rw [List.append_assoc,List.take_append_of_le_length (by omega),fU (by omega)]
    have e2:((b++[z])++t).take (i+1)=b++[z]:=by rw [List.take_append_of_le_length (by simp;omega),fU (by simp;omega)]
    rw [e1,e2];exact hf
   | succ k =>
    have:=W9 xs (i+1) b1 b' h (by omega) k (by simpa using hk);rw [show i+(k+1)=i+1+k by omega];simpa using this
theorem X3 {l:List ae} {e:List ag} {out:List (List Int)} (h:shE l e = .inr out) (i:Nat) (hi:i < e.length):kQ l i (out.take i) e[i] = .inr (out.take (i+1)):=by
 have:=W9 e 0 [] out h rfl i hi;simpa using this
theorem I7 {b:List (List Int)} {i k:Nat} (hk:k < i):(b.take i).getD k []=b.getD k []:=by
 rw [bU,bU,bQ,if_pos hk]
theorem KY {b:List (List Int)} {i:Nat} (hi:i < b.length) {z:List Int} (h:b.take (i+1)=b.take i++[z]):b.getD i []=z:=by
 rw [List.take_succ_eq_append_getElem hi] at h;have:=List.append_cancel_left h;rw [bU,ax hi];simpa using this
theorem V5 {l:List ae} {e:List ag} {out:List (List Int)} (h:shE l e = .inr out) (F:Gq e) (ho:e.any odd=false) {i:Nat} (hi:i < e.length) {j:Int} (hj:j∈fC e[i]) :
  0≤j∧j < i∧(out.getD j.toNat []=[]∨out.getD j.toNat []=out.getD i []):=by
 have hN:=JU F ho i hi;have hl:=(Gf h).1;have hst:=X3 h i hi;unfold fC at hj;unfold kQ at hst;by_cases hb:bW e[i].Kind=true
 ·rw [if_pos hb] at hj;have hA:=hN.ok.A (.inr hb);have hB:=hN.ok.B hb;have hk:e[i].Kind≠0∧e[i].Kind≠1∧e[i].Kind≠7:=by unfold bW at hb;simp at hb;omega
  rw [if_neg hk.1,if_neg hk.2.1,if_neg hk.2.2,I7 (by omega),I7 (by omega)] at hst;split at hst
  ·cases hst
  ·rename_i hc
   have hlast:=KY (by omega) (Sum.inr.inj hst).symm;rw [hlast];simp only [gZ,List.mem_nil_iff,or_false] at hj;rcases hj with rfl | rfl
   ·refine ⟨hA.1,hA.2,?_⟩;split
    ·rename_i q;exact .inl q
    ·exact .inr rfl
   ·refine ⟨hB.1,hB.2,?_⟩;split
    ·exact .inr rfl
    ·rename_i q
     by_cases q2:out.getD e[i].B.toNat []=[]
     ·exact .inl q2
     ·right;by_cases q3:out.getD e[i].A.toNat []=out.getD e[i].B.toNat []
      ·exact q3.symm
      ·exact absurd ⟨q,q2,q3⟩ hc
 ·rw [if_neg hb] at hj;split at hj
  ·rename_i h7
   have hA:=hN.ok.A (.inl h7);rw [if_neg (by omega),if_neg (by omega),if_pos h7,I7 (by omega)] at hst;have hlast:=KY (by omega) (Sum.inr.inj hst).symm;simp only [gZ,List.mem_nil_iff,or_false] at hj;subst hj;exact ⟨hA.1,hA.2, .inr hlast.symm⟩
  ·simp at hj
theorem QM {b:List Int} {n:ag} {j:Nat} (h:∀ k,k∈fC n→k.toNat≠j):(SN b n).getD j 0=b.getD j 0:=by
 have key:∀ (ks:List Int) (b:List Int),(∀ k,k∈ks→k.toNat≠j)→(ks.foldl bump b).getD j 0=b.getD j 0:=by
  intro ks
  induction ks with
  | nil=>intro b _;rfl
  | cons k ks ih =>
   intro b hk;rw [fD,ih _ (fun x hx=>hk x (.tail _ hx))];have:=hk k (.head _);unfold bump;simp only [bU,jq this]
 exact key _ b h
theorem NS:∀ (xs:List ag) (i:Nat) (b b':List Int) (j:Nat),gK tN i xs b = .inr b'→(∀ n,n∈xs→∀ k,k∈fC n→k.toNat≠j)→b'.getD j 0=b.getD j 0
 | [],i,b,b',j,h,_=>by cases h;rfl
 | x::xs,i,b,b',j,h,hk=>by
  simp only [gK] at h;cases hf:tN i b x with
  | inl c=>rw [hf] at h;cases h
  | inr b1 =>
   rw [hf] at h;rw [NS xs (i+1) b1 b' j h (fun n hn=>hk n (.tail _ hn))];unfold tN at hf;split at hf
   ·cases hf;exact QM (hk x (.head _))
   ·cases hf
theorem Xd (N:Nat):∀ (xs:List Int) (i:Nat),xQ N i xs=0→∀ k (hk:k < xs.length),i+k+1≠N→xs[k]=1
 | [],i,_,k,hk,_=>by simp at hk
 | x::xs,i,h,k,hk,hne=>by
  simp only [xQ] at h;split at h
  ·rename_i hc
   cases k with
   | zero =>
    simp only [List.getElem_cons_zero];rcases hc with hc | hc
    ·omega
    ·exact hc.2
   | succ k =>
    have:=Xd N xs (i+1) h k (by simpa using hk) (by omega);simpa using this
  ·cases h
theorem used {e:List ag} (F:Gq e) (j:Nat) (hj:j+1 < e.length):∃ i,∃ hi:i < e.length,∃ k,k∈fC e[i]∧k.toNat=j:=by
 obtain ⟨b,h1,h2⟩:=F.use;have hl:=Gg _ _ _ _ h1;simp only [mD] at hl;have h3:=Xd e.length b 0 h2 j (by omega) (by omega);refine Classical.byContradiction fun hn=>?_
 have h4:=NS e 0 _ b j h1 (fun n hn2 k hk q=>by
  obtain ⟨i,hi,rfl⟩:=List.mem_iff_getElem.1 hn2;exact hn ⟨i,hi,k,hk,q⟩)
 rw [bU,ax (by omega)] at h4;simp [h3,bU,List.getElem?_replicate] at h4;split at h4<;>simp at h4
theorem L9 {l:List ae} {e:List ag} {out:List (List Int)} (h:shE l e = .inr out) (F:Gq e) (ho:e.any odd=false):∀ (d j:Nat),j+d+1=e.length→out.getD j []=[]∨out.getD j []=out.getD (e.length - 1) []
 | 0,j,hj=>by right;congr 1;omega
 | d+1,j,hj=>by
  obtain ⟨i,hi,k,hk,hkj⟩:=used F j (by omega);obtain ⟨k0,k1,k2⟩:=V5 h F ho hi hk;rw [hkj] at k2;have hd:∃ d',d'≤d∧i+d'+1=e.length:=⟨e.length - 1 - i,by omega,by omega⟩
  obtain ⟨d',hd1,hd2⟩:=hd;rcases k2 with k2 | k2
  ·exact .inl k2
  ·rw [k2];exact L9 h F ho d' i hd2
termination_by d=>d
end Go.Sh
set_option linter.all false
namespace Go.Sh
open Go.Lx
def pick (s:aB) (k:Int):Int:=if s.Extents=[] then s.Offsets.getD 0 0 else s.Offsets.getD k.toNat 0
def YR (l:List ae) (n:ag) (k:Int):Int :=
 match at_ l n.Var with
 | none=>0
 | some a=>a.Elements.getD (pick (sF l n.Var n.Subscripts).1 k).toNat 0
def Oc (l:List ae) (k:Int) (out:List Int) (n:ag):Int :=
 if n.Kind=0 then n.Value else if n.Kind=1 then YR l n k else opV n.Kind (out.getD n.A.toNat 0) (out.getD n.B.toNat 0)
def vals (l:List ae) (k:Int) (e:List ag):List Int:=e.foldl (fun out n=>out++[Oc l k out n]) []
def value (l:List ae) (e:List ag) (k:Int):Int:=(vals l k e).getD (e.length - 1) 0
def wL (l:List ae) (e:List ag):List Int:=(Qn l e).getD (e.length - 1) []
def zn (l:List ae):Prop:=l.length < 1000∧∀ a,a∈l→Xi a
structure Ci (l:List ae) (e:List ag) (k:Int):Prop where
 st:zn l
 sm:Small e
 pl:yG l e=0
 k0:0≤k
 k1:wL l e=[]∨k < P (wL l e)
theorem zL {l:List ae} {e:List ag} (h:yG l e=0):Gq e∧e.any odd=false∧shE l e = .inr (Qn l e):=by
 unfold yG at h;by_cases hf:Hw e=0
 ·simp only [hf,ne_eq,di,au] at h;by_cases ho:e.any odd=true
  ·simp [ho] at h
  ·have ho':e.any odd=false:=jH ho;simp only [ho',aF,au] at h;refine ⟨OQ hf,ho',?_⟩;unfold Qn;cases hs:shE l e with
   | inl c=>rw [hs] at h;exact absurd h (UM hs)
   | inr out=>rfl
 ·simp [hf] at h
theorem isInt {x:Int} (h:eF x=true):AA x:=by
 unfold eF bn at h;simp at h;exact h
theorem II {l:List ae} {e:List ag} {k:Int} (H:Ci l e k) {i:Nat} (hi:i < e.length) (h1:e[i].Kind=1) :
  ∃ a,at_ l e[i].Var=some a∧(∀ q,q=(sF l e[i].Var e[i].Subscripts).1→qQ q k=some (pick q k))∧0≤pick (sF l e[i].Var e[i].Subscripts).1 k∧pick (sF l e[i].Var e[i].Subscripts).1 k < a.Elements.length ∧
   AA (YR l e[i] k)∧sF l e[i].Var e[i].Subscripts=pF a.Bounds e[i].Subscripts:=by
 obtain ⟨F,ho,hsh⟩:=zL H.pl;have hst:=X3 hsh i hi;have hl:=(Gf hsh).1;unfold kQ at hst;rw [if_neg (by omega),if_pos h1] at hst;split at hst
 ·rename_i h2
  have hlast:=KY (by omega) (Sum.inr.inj hst).symm;obtain ⟨a,ha,sc,_,hse⟩:=Ar h2;have hva:Xi a:=by
   have:a∈l:=by
    unfold at_ at ha;split at ha
    ·exact bu ha
    ·cases ha
   exact H.st.2 a this
  have hsz:pick (sF l e[i].Var e[i].Subscripts).1 k∈(sF l e[i].Var e[i].Subscripts).1.Offsets∧qQ (sF l e[i].Var e[i].Subscripts).1 k=some (pick (sF l e[i].Var e[i].Subscripts).1 k):=by
   have hlen:=sc.len;generalize (sF l e[i].Var e[i].Subscripts).1=s at *
   unfold pick qQ;have hn:((s.Extents.length:Int)=0)=(s.Extents=[]):=by cases s.Extents<;>simp<;>omega
   simp only [hn];by_cases hx:s.Extents=[]
   ·rw [hx] at hlen;simp [P] at hlen;simp only [hx,aG];have h0:0 < s.Offsets.length:=by omega
    refine ⟨?_,?_⟩
    ·rw [bU,ax h0];exact dE h0
    ·have:=at_in (xs:=s.Offsets) (k:=0) (d:=0) (by omega) (by omega);rw [this];rfl
   ·simp only [hx,au];have hS:s.Extents=wL l e:=by
     have:=L9 hsh F ho (e.length - 1 - i) i (by omega);rw [hlast] at this;rcases this with q | q
     ·exact absurd q hx
     ·exact q
    have hk:k < s.Offsets.length:=by
     rcases H.k1 with q | q
     ·rw [← hS] at q;exact absurd q hx
     ·rw [← hS] at q;omega
    have hk0:=H.k0;refine ⟨?_,?_⟩
    ·rw [bU,ax (by omega)];exact dE _
    ·rw [at_in (d:=0) hk0 hk];rfl
  have hr:=sc.range _ hsz.1;have hle:=hva.len;refine ⟨a,ha,fun q hq=>by rw [hq];exact hsz.2,hr.1,by omega,?_,hse⟩;unfold YR;rw [ha];simp only;rw [bU,ax (by omega)];exact isInt (hva.int _ (dE _))
 ·cases hst
theorem ZR {l:List ae} {e:List ag} {k:Int} (H:Ci l e k) {i:Nat} (hi:i < e.length) (h0:e[i].Kind=0):AA e[i].Value:=by
 obtain ⟨F,ho,hsh⟩:=zL H.pl;have hst:=X3 hsh i hi;unfold kQ at hst;rw [if_pos h0] at hst;split at hst
 ·rename_i q;have:=oU.1 q;exact this
 ·cases hst
theorem LV {l:List ae} {e:List ag} {k:Int} (H:Ci l e k) {i:Nat} (hi:i < e.length) (b:List Int):AA (Oc l k b e[i]):=by
 unfold Oc;split
 ·rename_i h0;exact ZR H hi h0
 ·split
  ·rename_i h1;obtain ⟨a,_,_,_,_,h,_⟩:=II H hi h1;exact h
  ·exact YL _ _ _
theorem getD_in {b:List Int} (k:Nat) (h:∀ x,x∈b→AA x):AA (b.getD k 0):=by
 rw [bU];cases hk:b[k]? with
 | none=>simp [AA]
 | some x=>exact h x (bu hk)
theorem TI {b:List Int} {z:Int} (h:∀ x,x∈b→AA x) (hz:AA z):∀ x,x∈b++[z]→AA x:=by
 intro x hx;simp only [aT,iY] at hx;rcases hx with hx | hx
 ·exact h x hx
 ·rw [hx];exact hz
theorem QJ (l:List ae) (k:Int) (e:List ag):(vals l k e).length=e.length:=by
 have key:∀ (xs:List ag) (b:List Int),(xs.foldl (fun out n=>out++[Oc l k out n]) b).length=b.length+xs.length:=by
  intro xs
  induction xs with
  | nil=>intro b;rfl
  | cons x xs ih=>intro b;rw [fD,ih];simp;omega
 have:=key e [];simpa [vals] using this
theorem U1 {l:List ae} {e:List ag} {k:Int} (H:Ci l e k):∀ x,x∈vals l k e→AA x:=by
 have key:∀ (xs:List ag) (i:Nat) (b:List Int),e.drop i=xs→(∀ x,x∈b→AA x)→∀ x,x∈xs.foldl (fun out n=>out++[Oc l k out n]) b→AA x:=by
  intro xs
  induction xs with
  | nil=>intro i b _ hb;exact hb
  | cons x xs ih =>
   intro i b hd hb;have hlt:i < e.length:=by have:=congrArg List.length hd;simp at this;omega
   rw [List.drop_eq_getElem_cons hlt] at hd;injection hd with h1 h2
   rw [fD];refine ih (i+1) _ h2 (TI hb ?_);rw [← h1];exact LV H hlt b
 exact key e 0 [] rfl (by simp)
theorem WB {l:List ae} {e:List ag} {k:Int} (H:Ci l e k):AA (value l e k):=getD_in _ (U1 H)
theorem JE {l:List ae} {e:List ag} {k:Int} (H:Ci l e k):jQ l e k=some (value l e k):=by
 obtain ⟨F,ho,hsh⟩:=zL H.pl;have hlt:=H.sm.1;unfold jQ;rw [nK (step:=jQ.s1 l e k) e (fun i b=>(i,b)) (fun b=>b) (fun b n=>b++[Oc l k b n]) (fun i b=>b.length=i∧∀ x,x∈b→AA x) (a:=[]) rfl ?_ ?_ ⟨rfl,by simp⟩ (by omega)]
 ·simp only [ah];have hl:=QJ l k e;have hp:=F.pos
  show ((at_ (vals l k e) (w (((vals l k e).length:Int) - 1))).bind fun x20=>some x20)=_
  rw [wJ (by omega) (by omega),at_in (d:=0) (by omega) (by omega)];simp only [ah,value]
  congr 2
  omega
 ·rintro i hi b ⟨hb,hin⟩
  have hN:=JU F ho i hi;refine ⟨?_,by simp [hb],TI hin (LV H hi b)⟩;simp only [jQ.s1,iC hi,aG,jc hi,ah];have la:∀ z:Int,((app b [z]).bind fun x5=>(some (.inl ((w ((i:Int)+1)),x5)):Option (Sum (Int×List Int) (List Int))))=some (.inl (((i+1:Nat):Int),b++[z])):=by
   intro z;rw [jT (by omega),wn (by omega)];rfl
  by_cases h0:e[i].Kind=0
  ·simp only [h0,aG,la,Oc]
  ·by_cases h1:e[i].Kind=1
   ·obtain ⟨a,ha,hof,g0,g1,_,hse⟩:=II H hi h1;have hq:=H.sm.2 e[i] (dE hi);have hcell:tH l e[i] k=some (pick (sF l e[i].Var e[i].Subscripts).1 k):=by
     have:=hof _ rfl;unfold tH;rw [ha];simp only [ah,vM a.Bounds e[i].Subscripts hq];rw [← hse];exact this
    simp only [h0,h1,aG,au,Int.reduceEq,ha,ah,hcell];rw [at_in (d:=0) g0 g1];simp only [ah,la];simp only [Oc,h1,YR,ha,aG,au,Int.reduceEq]
   ·by_cases h7:e[i].Kind=7
    ·have hA:=hN.ok.A (.inl h7);simp only [h0,h1,h7,aG,au,Int.reduceEq];rw [at_in (d:=0) hA.1 (by omega)];simp only [ah];rw [JW (getD_in _ hin) (by simp [AA])];simp only [ah,la];simp only [Oc,h7,aG,au,Int.reduceEq];rw [Uj _ 0 (b.getD e[i].B.toNat 0)]
    ·have hb2:=MF hN.ok.kind h0 h1 h7 hN.k8 hN.k9;have hA:=hN.ok.A (.inr hb2);have hB:=hN.ok.B hb2;simp only [h0,h1,h7,au];rw [at_in (d:=0) hA.1 (by omega),at_in (d:=0) hB.1 (by omega)];simp only [ah];rw [JW (getD_in _ hin) (getD_in _ hin)];simp only [ah,la];simp only [Oc,h0,h1,au]
 ·rintro b ⟨hb,hin⟩
  simp only [jQ.s1,dh,au]
theorem Yv {n:ag} (h:clean n=true) (h7:n.Kind=7):n.B=0:=by
 unfold clean at h;simp [h7,bW] at h;exact h.1.1.2
theorem Fq {l:List ae} {e:List ag} {k:Int} (H:Ci l e k):iE (some (tC l e)) l k=some (value l e k):=by
 obtain ⟨F,ho,hsh⟩:=zL H.pl;have hlt:=H.sm.1;unfold iE;simp only [ah,tC];rw [Qg (by omega)];simp only [ah];rw [nK (step:=iE.s1 l k (dS.mk e (e.map (sec l)) (Qn l e))) e (fun i b=>(i,b++List.replicate (e.length - b.length) 0)) (fun b=>b++List.replicate (e.length - b.length) 0) (fun b n=>b++[Oc l k b n]) (fun i b=>b.length=i∧∀ x,x∈b→AA x) (a:=[]) (by simp) ?_ ?_ ⟨rfl,by simp⟩ (by omega)]
 ·have hl:=QJ l k e;have hp:=F.pos
  show ((some (vals l k e++List.replicate (e.length - (vals l k e).length) 0)).bind fun z17=>(at_ z17 (w ((z17.length:Int) - 1))).bind fun x18=>some (w x18))=_
  rw [hl,Nat.sub_self,List.replicate_zero,jk];simp only [ah];rw [wJ (by omega) (by omega),at_in (d:=0) (by omega) (by omega)];simp only [ah,value];have e1:(((vals l k e).length:Int) - 1).toNat=e.length - 1:=by omega
  rw [e1];have hv:=getD_in (e.length - 1) (U1 H);unfold AA at hv;rw [wJ (by omega) (by omega)]
 ·rintro i hi b ⟨hb,hin⟩
  have hN:=JU F ho i hi;refine ⟨?_,by simp [hb],TI hin (LV H hi b)⟩;have hbl:(b++List.replicate (e.length - b.length) (0:Int)).length=e.length:=by simp;omega
  have hset:∀ z:Int,(b++List.replicate (e.length - b.length) (0:Int)).set i z=(b++[z])++List.replicate (e.length - (b++[z]).length) 0:=by
   intro z;rw [hb,IY b z 0 hb hi];simp [hb]
  have hgetD:∀ j:Int,0≤j→j < i→(b++List.replicate (e.length - b.length) (0:Int)).getD j.toNat 0=b.getD j.toNat 0:=by
   intro j h0 h1;rw [bU,bU,bI (by omega)]
  simp only [iE.s1,iC hi,aG,jc hi,ah,nG,hset];rw [jc (show i < (b++List.replicate (e.length - b.length) (0:Int)).length by omega)];simp only [ah];rw [wn (by omega)];by_cases h0:e[i].Kind=0
  ·have:=YV (ZR H hi h0);simp only [wr] at this;simp only [h0,aG,Oc,this]
  ·by_cases h1:e[i].Kind=1
   ·obtain ⟨a,ha,hof,g0,g1,hin2,hse⟩:=II H hi h1;simp only [h0,h1,aG,au,Int.reduceEq,ha,ah];rw [jc (show i < (e.map (sec l)).length by simp;exact hi)];have hsec:(e.map (sec l))[i]'(by simp;exact hi)=(sF l e[i].Var e[i].Subscripts).1:=by simp [sec,h1]
    simp only [ah,hsec,hof _ rfl];rw [at_in (d:=0) g0 g1];simp only [ah];have hv:Oc l k b e[i]=a.Elements.getD (pick (sF l e[i].Var e[i].Subscripts).1 k).toNat 0:=by simp only [Oc,h1,YR,ha,aG,au,Int.reduceEq]
    have hw:=LV H hi b;rw [hv] at hw ⊢;have:=YV hw;simp only [wr] at this;rw [this]
   ·have hB0:0≤e[i].B∧e[i].B < e.length∧(e[i].Kind≠7→e[i].B < i):=by
     by_cases h7:e[i].Kind=7
     ·have:=Yv hN.ok.cl h7;have:=F.pos;omega
     ·have hb2:=MF hN.ok.kind h0 h1 h7 hN.k8 hN.k9;have:=hN.ok.B hb2;omega
    have hA:0≤e[i].A∧e[i].A < i:=by
     by_cases h7:e[i].Kind=7
     ·exact hN.ok.A (.inl h7)
     ·exact hN.ok.A (.inr (MF hN.ok.kind h0 h1 h7 hN.k8 hN.k9))
    simp only [h0,h1,au];rw [at_in (d:=0) hA.1 (by omega),at_in (d:=0) hB0.1 (by omega)];simp only [ah];rw [hgetD _ hA.1 hA.2];have hv:Oc l k b e[i]=opV e[i].Kind (b.getD e[i].A.toNat 0) (b.getD e[i].B.toNat 0):=by simp only [Oc,h0,h1,au]
    rw [hv];by_cases h7:e[i].Kind=7
    ·rw [h7];rw [show lX 7 (b.getD e[i].A.toNat 0) ((b++List.replicate (e.length - b.length) (0:Int)).getD e[i].B.toNat 0)=opV 7 (b.getD e[i].A.toNat 0) (b.getD e[i].B.toNat 0) from Uj _ _ _]
    ·rw [hgetD _ hB0.1 (hB0.2.2 h7)];rfl
 ·rintro b ⟨hb,hin⟩
  simp only [iE.s1,dh,au]
end Go.Sh
set_option linter.all false
namespace Go.Sh
open Go.Lx
theorem xI {α:Type} (p:α→Bool):∀ xs:List α,xs.findSome? (fun a=>if p a=true then (none:Option Bool) else some false)=if xs.all p=true then none else some false
 | []=>rfl
 | x::xs=>by
  rw [List.findSome?_cons,oD];by_cases h:p x=true
  ·simp only [h,aG,jb];exact xI p xs
  ·simp [h]
def Yz (a:ae):Bool:=decide (a.Bounds.length≤9)&&decide (a.Elements.length≤40)
def few (l:List ae):Bool:=decide (l.length≤8)&&l.all Yz
theorem YA (l:List ae):qO l=some (few l):=by
 unfold qO few;by_cases h:l.length≤8
 ·rw [if_neg (by omega)];rw [oz (step:=qO.s1 l) l (fun a=>if Yz a=true then (none:Option Bool) else some false) (fun c=>Sum.inr c) (Sum.inl ()) rfl ?_ ?_ (by omega),xI]
  ·simp only [h,decide_true,jb];cases l.all Yz<;>rfl
  ·intro i hi;simp only [qO.s1,iC hi,aG,jc hi,ah,Yz];by_cases h1:l[i].Bounds.length≤9
   ·rw [if_neg (by omega)];by_cases h2:l[i].Elements.length≤40
    ·rw [if_neg (by omega),wn (by omega)];simp [h1,h2]
    ·rw [if_pos (by omega)];simp [h2]
   ·rw [if_pos (by omega)];simp [h1]
  ·simp only [qO.s1,dh,au]
 ·rw [if_pos (by omega)];simp [h]
def NY (s:ay):Bool:=decide (s.List.length≤20)
def short (q:List ay):Bool:=decide (q.length≤9)&&q.all NY
theorem QF (q:List ay):mP q=some (short q):=by
 unfold mP short;by_cases h:q.length≤9
 ·rw [if_neg (by omega)];rw [oz (step:=mP.s1 q) q (fun a=>if NY a=true then (none:Option Bool) else some false) (fun c=>Sum.inr c) (Sum.inl ()) rfl ?_ ?_ (by omega),xI]
  ·simp only [h,decide_true,jb];cases q.all NY<;>rfl
  ·intro i hi;simp only [mP.s1,iC hi,aG,jc hi,ah,NY];by_cases h1:q[i].List.length≤20
   ·rw [if_neg (by omega),wn (by omega)];simp [h1]
   ·rw [if_pos (by omega)];simp [h1]
  ·simp only [mP.s1,dh,au]
 ·rw [if_pos (by omega)];simp [h]
def MZ (s:bF):Bool:=decide (s.Coefs.length≤9)
def EZ (q:List bF):Bool:=decide (q.length≤9)&&q.all MZ
theorem VA (q:List bF):nJ q=some (EZ q):=by
 unfold nJ EZ;by_cases h:q.length≤9
 ·rw [if_neg (by omega)];rw [oz (step:=nJ.s1 q) q (fun a=>if MZ a=true then (none:Option Bool) else some false) (fun c=>Sum.inr c) (Sum.inl ()) rfl ?_ ?_ (by omega),xI]
  ·simp only [h,decide_true,jb];cases q.all MZ<;>rfl
  ·intro i hi;simp only [nJ.s1,iC hi,aG,jc hi,ah,MZ];by_cases h1:q[i].Coefs.length≤9
   ·rw [if_neg (by omega),wn (by omega)];simp [h1]
   ·rw [if_pos (by omega)];simp [h1]
  ·simp only [nJ.s1,dh,au]
 ·rw [if_pos (by omega)];simp [h]
def NZ (n:ag):Bool:=short n.Subscripts&&EZ n.Forms
def small (e:List ag):Bool:=decide (e.length≤42)&&(!(decide (20 < e.length)&&decide (e.length≤40))&&e.all NZ)
theorem Ws (e:List ag):lN e=some (small e):=by
 unfold lN small;by_cases h:((decide (20 < e.length)&&decide (e.length≤40)) || decide (42 < e.length))=true
 ·have:((decide ((e.length:Int) > 20)&&decide ((e.length:Int)≤40)) || decide ((e.length:Int) > 42))=true:=by simp at h ⊢;omega
  rw [if_pos this]
  congr 1
  symm;simp at h ⊢;omega
 ·have:¬ ((decide ((e.length:Int) > 20)&&decide ((e.length:Int)≤40)) || decide ((e.length:Int) > 42))=true:=by simp at h ⊢;omega
  rw [if_neg this];have h42:e.length≤42:=by simp at h;omega
  have hm:(decide (20 < e.length)&&decide (e.length≤40))=false:=by simp at h ⊢;omega
  rw [oz (step:=lN.s1 e) e (fun a=>if NZ a=true then (none:Option Bool) else some false) (fun c=>Sum.inr c) (Sum.inl ()) rfl ?_ ?_ (by omega),xI]
  ·simp only [h42,hm,decide_true,jb,Bool.not_false];cases e.all NZ<;>rfl
  ·intro i hi;simp only [lN.s1,iC hi,aG,jc hi,ah,QF,VA,NZ];by_cases h1:short e[i].Subscripts=true
   ·by_cases h2:EZ e[i].Forms=true
    ·simp only [h1,h2,di,au,Bool.and_self,aG];rw [wn (by omega)]
    ·simp [h1,h2]
   ·simp [h1]
  ·simp only [lN.s1,dh,au]
def vU (s:az):Bool:=short s.Subscripts&&(small s.Value&&(small s.Mask&&small s.Else))
theorem SI (s:az):vZ s=some (vU s):=by
 unfold vZ vU;simp only [QF,Ws,ah];cases short s.Subscripts<;>cases small s.Value<;>cases small s.Mask<;>simp
theorem Gi {q:List ay} (h:short q=true):q.length≤9∧∀ s,s∈q→s.List.length < 16777216:=by
 unfold short NY at h;simp at h;exact ⟨h.1,fun s hs=>by have:=h.2 s hs;omega⟩
theorem VB {q:List bF} (h:EZ q=true):q.length≤9∧∀ s,s∈q→s.Coefs.length≤9:=by
 unfold EZ MZ at h;simp at h;exact h
theorem Gj {e:List ag} (h:small e=true):e.length≤42∧(∀ n,n∈e→short n.Subscripts=true∧EZ n.Forms=true)∧Small e:=by
 unfold small NZ at h;simp at h;refine ⟨h.1,h.2.2,by omega,fun n hn s hs=>?_⟩;exact (Gi (h.2.2 n hn).1).2 s hs
theorem BF {l:List ae} (h:few l=true):l.length≤8∧∀ a,a∈l→a.Bounds.length≤9∧a.Elements.length≤40:=by
 unfold few Yz at h;simp at h;exact h
theorem MN {l:List ae} (h:few l=true):jh l=some l:=by
 obtain ⟨h1,h2⟩:=BF h;unfold jh;rw [tZ (step:=jh.s1 l) l (fun a=>a) (fun i b=>(i,b)) (fun b=>b) rfl ?_ ?_ (by omega)]
 ·simp
 ·intro i hi b hb;have:=h2 l[i] (dE hi);simp only [jh.s1,iC hi,aG,jc hi,ah];rw [JZ (by omega) (by omega)];simp only [ah];rw [jT (by omega),wn (by omega)];rfl
 ·intro b;simp only [jh.s1,dh,au]
theorem KH {l:List ae} (h:few l=true):iH l=some l:=by
 obtain ⟨h1,h2⟩:=BF h;unfold iH;rw [tZ (step:=iH.s1 l) l (fun a=>a) (fun i b=>(i,b)) (fun b=>b) rfl ?_ ?_ (by omega)]
 ·simp
 ·intro i hi b hb;have:=h2 l[i] (dE hi);simp only [iH.s1,iC hi,aG,jc hi,ah];rw [JZ (by omega) (by omega)];simp only [ah];rw [jT (by omega),wn (by omega)];rfl
 ·intro b;simp only [iH.s1,dh,au]
theorem MM {q:List bF} (h:EZ q=true):jD q=some q:=by
 obtain ⟨h1,h2⟩:=VB h;unfold jD;rw [tZ (step:=jD.s1 q) q (fun a=>a) (fun i b=>(i,b)) (fun b=>b) rfl ?_ ?_ (by omega)]
 ·simp
 ·intro i hi b hb;have:=h2 q[i] (dE hi);simp only [jD.s1,iC hi,aG,jc hi,ah];rw [vV (by omega)];simp only [ah];rw [jT (by omega),wn (by omega)];rfl
 ·intro b;simp only [jD.s1,dh,au]
theorem BB {e:List ag} (h:small e=true):jo e=some e:=by
 obtain ⟨h1,h2,_⟩:=Gj h;unfold jo;rw [tZ (step:=jo.s1 e) e (fun a=>a) (fun i b=>(i,b)) (fun b=>b) rfl ?_ ?_ (by omega)]
 ·simp
 ·intro i hi b hb;obtain ⟨k1,k2⟩:=h2 e[i] (dE hi);have hs:=Gi k1;simp only [jo.s1,iC hi,aG,jc hi,ah];rw [xG (by omega) hs.2,MM k2];simp only [ah];rw [jT (by omega),wn (by omega)];rfl
 ·intro b;simp only [jo.s1,dh,au]
theorem Oy {s:az} (h:vU s=true):qp s=some s:=by
 unfold vU at h;simp only [bg] at h;have hs:=Gi h.1;unfold qp;rw [xG (by omega) hs.2,BB h.2.1,BB h.2.2.1,BB h.2.2.2];rfl
def stE (l:List ae):Int:=if 6 < l.length then 8 else match l.findSome? (fun a=>if (chk a).2=0 then none else some (chk a).2) with | some c=>c | none=>0
theorem Qx:∀ (l:List ae) (i:Nat),gK (fun _ (u:Unit) (a:ae)=>if (chk a).2=0 then Sum.inr u else Sum.inl (chk a).2) i l ()=(match l.findSome? (fun a=>if (chk a).2=0 then none else some (chk a).2) with | some r => .inl r | none => .inr ())
 | [],i=>rfl
 | x::xs,i=>by
  simp only [gK,List.findSome?_cons];by_cases h:(chk x).2=0
  ·simp only [h,aG];exact Qx xs (i+1)
  ·simp only [h,au]
theorem PH {l:List ae} (h:few l=true):rP l=some (stE l):=by
 obtain ⟨h1,h2⟩:=BF h;unfold rP stE;by_cases h6:6 < l.length
 ·rw [if_pos (by omega),if_pos h6]
 ·rw [if_neg (by omega),if_neg h6];have hfind:∃ k,bJ l=some (k,match l.findSome? (fun a=>if (chk a).2=0 then none else some (chk a).2) with | some c=>c | none=>0):=by
   unfold bJ;rw [jS (step:=bJ.s1 l) l (fun i (_:Unit)=>i) (fun (r:Int×Int)=>Sum.inr r) (fun _=>Sum.inl ()) (fun i u a=>if (chk a).2=0 then .inr u else .inl ((i:Int),(chk a).2)) (fun _ _=>True) (a:=()) rfl ?_ ?_ trivial (by omega)]
   ·have h3:=zY (f:=fun i (u:Unit) (a:ae)=>if (chk a).2=0 then Sum.inr u else Sum.inl ((i:Int),(chk a).2)) (g:=fun _ (u:Unit) (a:ae)=>if (chk a).2=0 then Sum.inr u else Sum.inl (chk a).2) (fun r=>r.2) (fun _=>True) l.length (fun i u a _ _=>by
     by_cases h:(chk a).2=0<;>simp [h]) l 0 () (by simp) trivial
    rw [Qx] at h3;cases hs:gK (fun i (u:Unit) (a:ae)=>if (chk a).2=0 then Sum.inr u else Sum.inl ((i:Int),(chk a).2)) 0 l () with
    | inl r =>
     rw [hs] at h3;simp only at h3;cases hf:l.findSome? (fun a=>if (chk a).2=0 then none else some (chk a).2) with
     | some c=>rw [hf] at h3;cases h3;exact ⟨r.1,rfl⟩
     | none=>rw [hf] at h3;cases h3
    | inr u =>
     rw [hs] at h3;simp only at h3;cases hf:l.findSome? (fun a=>if (chk a).2=0 then none else some (chk a).2) with
     | some c=>rw [hf] at h3;cases h3
     | none=>exact ⟨0,rfl⟩
   ·intro i hi u _;have:=h2 l[i] (dE hi);refine ⟨?_,fun _ _=>trivial⟩;simp only [bJ.s1,iC hi,aG,jc hi,ah,qY];rw [KF (by omega)];simp only [ah];by_cases hc:(chk l[i]).2=0
    ·simp only [hc,di,au,aG];rw [wn (by omega)]
    ·simp only [hc,aQ,aG,au]
   ·intro u _;simp only [bJ.s1,dh,au]
  obtain ⟨k,hk⟩:=hfind;rw [hk];rfl
theorem Ju {l:List ae} (h:few l=true):jY l=some (stE l):=by
 obtain ⟨h1,h2⟩:=BF h;unfold jY stE;by_cases h6:6 < l.length
 ·rw [if_pos (by omega),if_pos h6]
 ·rw [if_neg (by omega),if_neg h6];rw [oz (step:=jY.s1 l) l (fun a=>if (chk a).2=0 then none else some (chk a).2) (fun c=>Sum.inr c) (Sum.inl ()) rfl ?_ ?_ (by omega)]
  ·cases l.findSome? (fun a=>if (chk a).2=0 then none else some (chk a).2)<;>rfl
  ·intro i hi;have:=h2 l[i] (dE hi);simp only [jY.s1,iC hi,aG,jc hi,ah];rw [Uy (by omega)];simp only [ah];by_cases hc:(chk l[i]).2=0
   ·simp only [hc,di,au,aG];rw [wn (by omega)]
   ·simp only [hc,aQ,aG,au]
  ·simp only [jY.s1,dh,au]
theorem Zm {l:List ae} (h:stE l=0):zn l:=by
 unfold stE at h;split at h
 ·cases h
 ·rename_i h6
  refine ⟨by omega,fun a ha=>SV ?_⟩;cases hf:l.findSome? (fun a=>if (chk a).2=0 then none else some (chk a).2) with
  | some c =>
   rw [hf] at h;obtain ⟨b,_,hb⟩:=List.exists_of_findSome?_eq_some hf;simp only at h;split at hb
   ·cases hb
   ·cases hb;rename_i q;exact absurd h q
  | none =>
   have:=List.findSome?_eq_none_iff.1 hf a ha;simpa using this
end Go.Sh
set_option linter.all false
namespace Go.Sh
open Go.Lx
theorem Xl:yw=some true:=by decide +kernel
structure Shp (x:List Int):Prop where
 dims:x.length≤7
 ext:∀ e,e∈x→0≤e∧e≤512
 p0:0≤P x
 p1:P x≤60
theorem Shp.nil:Shp []:=⟨by simp,by simp,by simp [P],by simp [P]⟩
theorem F8 {b:List (List Int)} (k:Nat) (h:∀ x,x∈b→Shp x):Shp (b.getD k []):=by
 rw [bU];cases hk:b[k]? with
 | none=>exact Shp.nil
 | some x=>exact h x (bu hk)
theorem RU {l:List ae} {i:Nat} {b b':List (List Int)} {n:ag} (h:kQ l i b n = .inr b') (hb:∀ x,x∈b→Shp x):∀ x,x∈b'→Shp x:=by
 have key:∀ z:List Int,Shp z→∀ x,x∈b++[z]→Shp x:=by
  intro z hz x hx;simp only [aT,iY] at hx;rcases hx with hx | hx
  ·exact hb x hx
  ·rw [hx];exact hz
 unfold kQ at h;split at h
 ·split at h
  ·cases h;exact key _ Shp.nil
  ·cases h
 ·split at h
  ·split at h
   ·rename_i h2
    cases h;obtain ⟨a,_,hs,h60,_⟩:=Ar h2;have:=hs.len;exact key _ ⟨hs.dims,hs.ext,by omega,by omega⟩
   ·cases h
  ·split at h
   ·cases h;exact key _ (F8 _ hb)
   ·split at h
    ·cases h
    ·cases h;refine key _ ?_;split
     ·exact F8 _ hb
     ·exact F8 _ hb
theorem XR {l:List ae} {e:List ag} {out:List (List Int)} (h:shE l e = .inr out):∀ x,x∈out→Shp x:=by
 have key:∀ (xs:List ag) (i:Nat) (b b':List (List Int)),gK (kQ l) i xs b = .inr b'→(∀ x,x∈b→Shp x)→∀ x,x∈b'→Shp x:=by
  intro xs
  induction xs with
  | nil=>intro i b b' h hb;cases h;exact hb
  | cons x xs ih =>
   intro i b b' h hb;simp only [gK] at h;cases hf:kQ l i b x with
   | inl c=>rw [hf] at h;cases h
   | inr b1=>rw [hf] at h;exact ih (i+1) b1 b' h (RU hf hb)
 exact key e 0 [] out h (by simp)
theorem Qw {l:List ae} {e:List ag} (h:yG l e=0):Shp (wL l e):=F8 _ (XR (zL h).2.2)
theorem Wp {l:List ae} {e:List ag} (hs:Small e) (h:yG l e=0):qg (some (tC l e))=some (wL l e):=by
 obtain ⟨F,_,hsh⟩:=zL h;have hl:=(Gf hsh).1;have hp:=F.pos;have:=hs.1;unfold qg;simp only [ah,tC];rw [wJ (by omega) (by omega),at_in (d:=[]) (by omega) (by omega)];simp only [ah,wL]
 congr 2
 omega
end Go.Sh
set_option linter.all false
namespace Go.Sh
open Go.Lx
theorem WL {α β:Type} (f:α→β) (l:List α) (k:Int):at_ (l.map f) k=(at_ l k).map f:=by
 unfold at_;split
 ·simp
 ·rfl
def bds (l:List ae):List (List ai):=l.map (·.Bounds)
theorem WJ {l m:List ae} (h:bds l=bds m) (k:Int):(at_ l k).map (·.Bounds)=(at_ m k).map (·.Bounds):=by
 rw [← WL,← WL];exact congrArg (fun x=>at_ x k) h
theorem QB {l m:List ae} (h:bds l=bds m) (v:Int) (q:List ay):sF l v q=sF m v q:=by
 have:=WJ h v;unfold sF;cases ha:at_ l v with
 | none =>
  rw [ha] at this;cases hb:at_ m v with
  | none=>rfl
  | some b=>rw [hb] at this;cases this
 | some a =>
  rw [ha] at this;cases hb:at_ m v with
  | none=>rw [hb] at this;cases this
  | some b=>rw [hb] at this;simp only [jG,Option.some.injEq] at this;simp only [this]
theorem RQ {l m:List ae} (h:bds l=bds m):kQ l=kQ m:=by
 funext i b n
 unfold kQ;rw [QB h]
theorem UL {l m:List ae} (h:bds l=bds m) (e:List ag):shE l e=shE m e:=by unfold shE;rw [RQ h]
theorem Us {l m:List ae} (h:bds l=bds m) (e:List ag):yG l e=yG m e:=by unfold yG;rw [UL h]
theorem Qo {l m:List ae} (h:bds l=bds m) (e:List ag):Qn l e=Qn m e:=by unfold Qn;rw [UL h]
theorem UE {l m:List ae} (h:bds l=bds m) (e:List ag):wL l e=wL m e:=by unfold wL;rw [Qo h]
theorem Rk {l m:List ae} (h:bds l=bds m) (e:List ag):tC l e=tC m e:=by
 unfold tC;rw [Qo h,show sec l=sec m from by funext n;unfold sec;rw [QB h]]
theorem Ci.bds {l m:List ae} {e:List ag} {k:Int} (H:Ci l e k) (h:bds l=bds m) (hm:zn m):Ci m e k :=
 ⟨hm,H.sm,by rw [← Us h];exact H.pl,H.k0,by rw [← UE h];exact H.k1⟩
def DT (l:List ae) (e:List ag) (x:List Int):Int:=if yG l e=0 then (if wL l e=[]∨wL l e=x then 0 else 10) else yG l e
theorem D7 {l:List ae} {e:List ag} (x:List Int) (hl:l.length < 1000) (hs:Small e):∃ y,pW l e x=some (y,DT l e x)∧(DT l e x=0→y=some (tC l e)):=by
 obtain ⟨y,h1,h2⟩:=Ut (e:=e) hl hs;unfold pW DT;rw [h1];simp only [ah];by_cases hp:yG l e=0
 ·have hy:=h2 hp;have hd:=(Qw hp).dims;simp only [hp,di,au,aG,hy,Wp hs hp,ah];by_cases h0:wL l e=[]
  ·simp only [h0,ku,Int.natCast_zero,aG,qW,ah,true_or];exact ⟨_,rfl,fun _=>rfl⟩
  ·have:¬ ((wL l e).length:Int)=0:=by
    intro q;exact h0 (List.length_eq_zero_iff.1 (by omega))
   simp only [this,au,Tj (show (wL l e).length < 16777216 by omega),ah,qW,h0,false_or,lT];exact ⟨_,rfl,fun _=>rfl⟩
 ·simp only [hp,aQ,aG,au];exact ⟨none,rfl,fun h=>h.elim⟩
theorem Ez {l:List ae} {e:List ag} {x:List Int} (hx:x.length < 16777216) (hl:l.length < 1000) (hs:Small e):uF l e x=some (DT l e x):=by
 unfold uF DT;rw [NJ hl hs];simp only [ah];by_cases hp:yG l e=0
 ·have hd:=(Qw hp).dims;obtain ⟨F,_,hsh⟩:=zL hp;have hol:=(Gf hsh).1;have hpos:=F.pos;have hlt:=hs.1;simp only [hp,di,au,aG];rw [wJ (by omega) (by omega),at_in (d:=[]) (by omega) (by omega)];have hr:(Qn l e).getD (((Qn l e).length:Int) - 1).toNat []=wL l e:=by unfold wL;congr 1;omega
  simp only [ah,hr];by_cases h0:wL l e=[]
  ·simp [h0]
  ·have:((wL l e).length:Int) > 0:=by
    have:=mt List.length_eq_zero_iff.1 h0;omega
   simp only [this,aG,OW (show (wL l e).length < 16777216 by omega) hx,ah,h0,false_or,lT];by_cases h1:wL l e=x<;>simp [h1]
 ·simp only [hp,aQ,aG,au]
theorem WQ {l:List ae} {e:List ag} {x:List Int} (h:DT l e x=0):yG l e=0∧(wL l e=[]∨wL l e=x):=by
 unfold DT at h;split at h
 ·rename_i q
  split at h
  ·rename_i r;exact ⟨q,r⟩
  ·cases h
 ·rename_i q;exact absurd h q
def sS (l:List ae) (s:az):aB:=(sF l s.Var s.Subscripts).1
def opE (l:List ae) (s:az):Int :=
 if stE l=0 then
  if (sF l s.Var s.Subscripts).2=0 then
   if (sS l s).ManyOne=true then 23
   else if DT l s.Value (sS l s).Extents=0 then
    if s.Mask≠[]∧DT l s.Mask (sS l s).Extents≠0 then DT l s.Mask (sS l s).Extents
    else if s.Else=[] then 0
    else if s.Mask=[] then 3
    else DT l s.Else (sS l s).Extents
   else DT l s.Value (sS l s).Extents
  else (sF l s.Var s.Subscripts).2
 else stE l
def mkA (l:List ae) (s:az):aV :=
 aV.mk l s.Var (sS l s).Offsets (some (tC l s.Value)) (if s.Mask=[] then none else some (tC l s.Mask)) (if s.Else=[] then none else some (tC l s.Else))
theorem Eg {α:Type} {xs:List α}:((xs.length:Int) > 0)=(xs≠[]):=by cases xs<;>simp
theorem Qc {α:Type} {xs:List α}:((xs.length:Int)=0)=(xs=[]):=by cases xs<;>simp<;>omega
theorem KD {s:az} (h:vU s=true):(∀ q,q∈s.Subscripts→q.List.length < 16777216)∧Small s.Value∧Small s.Mask∧Small s.Else:=by
 unfold vU at h;simp only [bg] at h;exact ⟨(Gi h.1).2,(Gj h.2.1).2.2,(Gj h.2.2.1).2.2,(Gj h.2.2.2).2.2⟩
theorem XQ {l:List ae} {s:az} (hf:few l=true) (hb:vU s=true):∃ y,lm l s=some (y,opE l s)∧(opE l s=0→y=some (mkA l s)):=by
 have hl:l.length < 1000:=by have:=(BF hf).1;omega
 obtain ⟨hq,hv,hm,he⟩:=KD hb;unfold lm opE;rw [PH hf];simp only [ah];by_cases h0:stE l=0
 ·simp only [h0,di,au,aG,QE hl hq,ah,qW,Zh];by_cases h1:(sF l s.Var s.Subscripts).2=0
  ·simp only [h1,aG];by_cases h2:(sS l s).ManyOne=true
   ·have:(sF l s.Var s.Subscripts).1.ManyOne=true:=h2;simp only [this,h2,Bool.not_true,aF,au,aG];exact ⟨none,rfl,by simp⟩
   ·have h2':(sF l s.Var s.Subscripts).1.ManyOne=false:=by simpa [sS] using h2
    simp only [h2',h2,Bool.not_false,aG,di,au];obtain ⟨y,y1,y2⟩:=D7 (sF l s.Var s.Subscripts).1.Extents hl hv;rw [y1];simp only [ah];rw [show (sF l s.Var s.Subscripts).1=sS l s from rfl] at *
    by_cases h3:DT l s.Value (sS l s).Extents=0
    ·have hy:=y2 h3;simp only [h3,di,au,aG,Eg];have key:∀ (a:Option dS),a=(if s.Mask=[] then none else some (tC l s.Mask))→∃ z,lm.j1 l s (sF l s.Var s.Subscripts) (y,DT l s.Value (sS l s).Extents) a=some (z,if s.Else=[] then 0 else if s.Mask=[] then 3 else DT l s.Else (sS l s).Extents)∧((if s.Else=[] then 0 else if s.Mask=[] then 3 else DT l s.Else (sS l s).Extents)=0→z=some (mkA l s)):=by
      intro a ha;unfold lm.j1;simp only [Eg];by_cases h5:s.Else=[]
      ·simp only [h5,ne_eq,di,au,aG];refine ⟨_,rfl,fun _=>?_⟩;unfold mkA;rw [hy,ha];simp only [h5,aG];rfl
      ·simp only [h5,ne_eq,aQ,aG,au];by_cases h6:s.Mask=[]
       ·simp only [ha,h6,aG,Option.isNone_none];exact ⟨none,rfl,by simp⟩
       ·simp only [ha,h6,au,Option.isNone_some,aF];obtain ⟨u,u1,u2⟩:=D7 (sF l s.Var s.Subscripts).1.Extents hl he;rw [u1];simp only [ah];rw [show (sF l s.Var s.Subscripts).1=sS l s from rfl] at *
        by_cases h7:DT l s.Else (sS l s).Extents=0
        ·simp only [h7,di,au];refine ⟨_,rfl,fun _=>?_⟩;unfold mkA;rw [hy,u2 h7];simp only [h5,h6,au]
        ·simp only [h7,aQ,aG];exact ⟨none,rfl,fun h=>h.elim⟩
     by_cases h4:s.Mask=[]
     ·simp only [h4,ne_eq,di,au,false_and] at key ⊢;rw [h3] at key;exact key none rfl
     ·simp only [h4,ne_eq,aQ,aG,true_and] at key ⊢;obtain ⟨u,u1,u2⟩:=D7 (sS l s).Extents hl hm;rw [u1];simp only [ah];by_cases h7:DT l s.Mask (sS l s).Extents=0
      ·simp only [h7,di,au];rw [h3] at key;exact key u (u2 h7)
      ·simp only [h7,aQ,aG,aF,au];exact ⟨none,rfl,fun h=>h.elim⟩
    ·simp only [h3,aQ,aG,au,aF];exact ⟨none,rfl,fun h=>h.elim⟩
  ·simp only [h1,au,aQ,aG];exact ⟨none,rfl,fun h=>h.elim⟩
 ·simp only [h0,aQ,aG,au];exact ⟨none,rfl,fun h=>h.elim⟩
theorem XY {l:List ae} {v:Int} {q:List ay} {a:ae} (ha:at_ l v=some a):(sF l v q).2=if (pF a.Bounds q).2=0 then (if (pF a.Bounds q).1.Offsets.length≤60 then 0 else 8) else (pF a.Bounds q).2:=by
 unfold sF;rw [ha]
theorem zT {l:List ae} {s:az} (hf:few l=true) (hb:vU s=true):kX l s=some (if opE l s=0 then sS l s else Du,opE l s):=by
 have hl:l.length < 1000:=by have:=(BF hf).1;omega
 obtain ⟨hq,hv,hm,he⟩:=KD hb;unfold kX opE;rw [Ju hf];simp only [ah];by_cases h0:stE l=0
 ·simp only [h0,di,au,aG];rw [wJ (by omega) (by omega),Ih];cases ha:at_ l s.Var with
  | none =>
   have h6:(sF l s.Var s.Subscripts).2=6:=by unfold sF;rw [ha]
   rw [if_pos (DY.1 ha),h6];rfl
  | some a =>
   have hin:bY s.Var 0 ((l.length:Int) - 1)=true:=by
    have h1:=mt DY.2 (by rw [ha];simp:¬ at_ l s.Var=none);simpa using h1
   have hs1:(sF l s.Var s.Subscripts).1=(pF a.Bounds s.Subscripts).1:=by unfold sF;rw [ha]
   have hs2:=XY (q:=s.Subscripts) ha;simp only [hin,di,au,ah,vM a.Bounds s.Subscripts hq];by_cases h1:(pF a.Bounds s.Subscripts).2=0
   ·simp only [h1,aG] at hs2;simp only [h1,di,au];by_cases h60:(pF a.Bounds s.Subscripts).1.Offsets.length≤60
    ·simp only [h60,aG] at hs2;have hsct:=(Ar hs2)
     obtain ⟨_,_,sc,_,_⟩:=hsct;have hd:=sc.dims;rw [if_neg (by omega)];unfold sS;rw [← hs1];simp only [hs2,aG];by_cases h2:(sF l s.Var s.Subscripts).1.ManyOne=true
     ·simp only [h2,aG];rfl
     ·simp only [h2,au,aF,Ez (show (sF l s.Var s.Subscripts).1.Extents.length < 16777216 by omega) hl hv,ah];by_cases h3:DT l s.Value (sF l s.Var s.Subscripts).1.Extents=0
      ·simp only [h3,di,au,aG,Eg];have key:kX.j1 l s (pF a.Bounds s.Subscripts) ()=some (if (if s.Else=[] then 0 else if s.Mask=[] then 3 else DT l s.Else (sF l s.Var s.Subscripts).1.Extents)=0 then (sF l s.Var s.Subscripts).1 else Du,if s.Else=[] then 0 else if s.Mask=[] then 3 else DT l s.Else (sF l s.Var s.Subscripts).1.Extents):=by
        unfold kX.j1;simp only [Eg,Qc,← hs1];by_cases h5:s.Else=[]
        ·simp only [h5,ne_eq,di,au,aG]
        ·simp only [h5,ne_eq,aQ,aG,au];by_cases h6:s.Mask=[]
         ·simp only [h6,aG];rfl
         ·simp only [h6,au,Ez (show (sF l s.Var s.Subscripts).1.Extents.length < 16777216 by omega) hl he,ah];by_cases h7:DT l s.Else (sF l s.Var s.Subscripts).1.Extents=0
          ·simp only [h7,di,au,aG]
          ·simp only [h7,aQ,aG,au];rfl
       by_cases h4:s.Mask=[]
       ·simp only [h4,ne_eq,di,au,false_and,aG] at key ⊢;exact key
       ·simp only [h4,ne_eq,aQ,aG,true_and,au,Ez (show (sF l s.Var s.Subscripts).1.Extents.length < 16777216 by omega) hl hm,ah] at key ⊢;by_cases h7:DT l s.Mask (sF l s.Var s.Subscripts).1.Extents=0
        ·simp only [h7,di,au];exact key
        ·simp only [h7,aQ,aG,au];rfl
      ·simp only [h3,aQ,aG,au];rfl
    ·simp only [h60,au] at hs2;rw [if_pos (by omega),hs2];rfl
   ·simp only [h1,au] at hs2;simp only [h1,aQ,aG,hs2,au];rfl
 ·simp only [h0,aQ,aG,au];rfl
end Go.Sh
set_option linter.all false
namespace Go.Sh
open Go.Lx
structure Asg (l:List ae) (s:az):Prop where
 st:zn l
 arr:∃ a,at_ l s.Var=some a∧Sct a.Bounds (sS l s)
 n60:(sS l s).Offsets.length≤60
 many:(sS l s).ManyOne=false
 va:Small s.Value∧DT l s.Value (sS l s).Extents=0
 ma:Small s.Mask∧(s.Mask≠[]→DT l s.Mask (sS l s).Extents=0)
 el:Small s.Else∧(s.Else≠[]→s.Mask≠[]∧DT l s.Else (sS l s).Extents=0)
theorem asg {l:List ae} {s:az} (hb:vU s=true) (h:opE l s=0):Asg l s:=by
 obtain ⟨hq,hv,hm,he⟩:=KD hb;unfold opE at h;split at h
 ·rename_i h0
  split at h
  ·rename_i h1
   split at h
   ·cases h
   ·rename_i h2
    split at h
    ·rename_i h3
     split at h
     ·rename_i h4;exact absurd h h4.2
     ·rename_i h4
      obtain ⟨a,ha,sc,h60,_⟩:=Ar h1;refine ⟨Zm h0,⟨a,ha,sc⟩,h60,by simpa using h2,⟨hv,h3⟩,⟨hm,fun q=>?_⟩,he,fun q=>?_⟩
      ·exact Classical.byContradiction fun r=>h4 ⟨q,r⟩
      ·rw [if_neg q] at h;split at h
       ·cases h
       ·rename_i r;exact ⟨r,h⟩
    ·rename_i h3;exact absurd h h3
  ·rename_i h1;exact absurd h h1
 ·rename_i h0;exact absurd h h0
def nC (l:List ae) (s:az):Nat:=(sS l s).Offsets.length
theorem KP {l:List ae} {s:az} (A:Asg l s) {e:List ag} (hs:Small e) (h:DT l e (sS l s).Extents=0) {k:Int} (h0:0≤k) (h1:k < nC l s):Ci l e k:=by
 obtain ⟨p1,p2⟩:=WQ h;obtain ⟨a,_,sc⟩:=A.arr;have:=sc.len;unfold nC at h1;refine ⟨A.st,hs,p1,h0,?_⟩;rcases p2 with q | q
 ·exact .inl q
 ·right;rw [q];omega
def chs (l:List ae) (s:az) (k:Int):List ag:=if s.Mask≠[]∧value l s.Mask k=0 then s.Else else s.Value
theorem XC {l:List ae} {e:List ag} {x:List Int} (h:DT l e x=0):e≠[]:=by
 intro q;have:=(zL (WQ h).1).1.pos;rw [q] at this;simp at this
theorem MI {l:List ae} {s:az} (A:Asg l s) {k:Int} (h0:0≤k) (h1:k < nC l s) (hc:chs l s k≠[]):Ci l (chs l s k) k:=by
 unfold chs at hc ⊢;split at hc
 ·rename_i q
  rw [if_pos q];exact KP A A.el.1 (A.el.2 hc).2 h0 h1
 ·rename_i q
  rw [if_neg q];exact KP A A.va.1 A.va.2 h0 h1
theorem GV {l:List ae} {s:az} (A:Asg l s) {k:Int} (h0:0≤k) (h1:k < nC l s):iG (some (mkA l s)) k=some (if chs l s k=[] then none else some (tC l (chs l s k))):=by
 have hv:=XC A.va.2;unfold iG;simp only [ah,mkA];by_cases h4:s.Mask=[]
 ·have:chs l s k=s.Value:=by unfold chs;rw [if_neg (fun q=>q.1 h4)]
  rw [this];simp only [h4,aG,Option.isNone_none,hv,au]
 ·simp only [h4,au,Option.isNone_some,aF];rw [Fq (KP A A.ma.1 (A.ma.2 h4) h0 h1)];simp only [ah];by_cases h5:value l s.Mask k=0
  ·have:chs l s k=s.Else:=by unfold chs;rw [if_pos ⟨h4,h5⟩]
   rw [this];simp only [h5,di,au]
  ·have:chs l s k=s.Value:=by unfold chs;rw [if_neg (fun q=>h5 q.2)]
   rw [this];simp only [h5,aQ,aG,hv,au]
theorem Fz {l:List ae} {s:az} (A:Asg l s):lD l s (nC l s:Int)=some ((List.range (nC l s)).map fun k:Nat=>chs l s (k:Int)):=by
 have h60:=A.n60;unfold lD;rw [tZ (step:=lD.s1 l s (nC l s:Int)) (List.range (nC l s)) (fun k:Nat=>chs l s (k:Int)) (fun i b=>(i,b)) (fun b=>b) rfl ?_ ?_ (by simp [nC];omega)]
 ·rfl
 ·intro i hi b hb;simp only [lS] at hi;have hlt:((i:Int) < (nC l s:Int))=True:=eq_true (by omega);have hn:nC l s≤60:=h60;simp only [lD.s1,hlt,aG,Eg,List.getElem_range];by_cases h4:s.Mask=[]
  ·have:chs l s i=s.Value:=by unfold chs;rw [if_neg (fun q=>q.1 h4)]
   simp only [h4,ne_eq,di,au,this];rw [jT (by omega),wn (by omega)];rfl
  ·simp only [h4,ne_eq,aQ,aG];rw [JE (KP A A.ma.1 (A.ma.2 h4) (by omega) (by omega))];simp only [ah];by_cases h5:value l s.Mask i=0
   ·have:chs l s i=s.Else:=by unfold chs;rw [if_pos ⟨h4,h5⟩]
    simp only [h5,aG,this];rw [jT (by omega),wn (by omega)];rfl
   ·have:chs l s i=s.Value:=by unfold chs;rw [if_neg (fun q=>h5 q.2)]
    simp only [h5,au,this];rw [jT (by omega),wn (by omega)];rfl
 ·intro b;simp only [lS,lD.s1,Int.lt_irrefl,au]
def cellAt (l:List ae) (s:az) (k:Int):Int:=(sS l s).Offsets.getD k.toNat 0
def FC (m:List ae) (v:Int) (c x:Int):List ae :=
 match at_ m v with
 | none=>m
 | some a=>m.set v.toNat { a with Elements:=a.Elements.set c.toNat x }
def U8 (l:List ae) (s:az) (n:List ae) (m:List ae) (k:Int):List ae :=
 if chs l s k=[] then m else FC m s.Var (cellAt l s k) (value n (chs l s k) k)
structure Like (l m:List ae):Prop where
 b:bds l=bds m
 st:zn m
theorem Like.refl {l:List ae} (h:zn l):Like l l:=⟨rfl,h⟩
theorem at_mem {α:Type} {l:List α} {v:Int} {a:α} (h:at_ l v=some a):0≤v∧v.toNat < l.length∧l[v.toNat]?=some a:=by
 unfold at_ at h;split at h
 ·rename_i h0;exact ⟨h0,(aj.1 h).1,h⟩
 ·cases h
theorem Xk {l m:List ae} (L:Like l m) {v:Int} {a:ae} (h:at_ l v=some a):∃ b,at_ m v=some b∧b.Bounds=a.Bounds:=by
 have:=WJ L.b v;rw [h] at this;cases hb:at_ m v with
 | none=>rw [hb] at this;cases this
 | some b=>rw [hb] at this;simp only [jG,Option.some.injEq] at this;exact ⟨b,rfl,this.symm⟩
theorem Like.set {l m:List ae} (L:Like l m) {v c x:Int} (hx:AA x):Like l (FC m v c x):=by
 unfold FC;cases ha:at_ m v with
 | none=>exact L
 | some a =>
  obtain ⟨h0,h1,h2⟩:=at_mem ha;simp only;refine ⟨?_,?_,?_⟩
  ·rw [L.b];unfold bds;rw [List.map_set];symm;apply List.ext_getElem? ;intro i;rw [List.getElem?_set];split
   ·rename_i q
    subst q;simp only [jF,h1,aG,bK,h2,jG]
   ·rfl
  ·simpa using L.st.1
  ·intro b hb;rcases List.mem_or_eq_of_mem_set hb with q | q
   ·exact L.st.2 b q
   ·have hv:=L.st.2 a (bu h2);subst q;refine ⟨hv.b,by simpa using hv.len,fun y hy=>?_⟩;rcases List.mem_or_eq_of_mem_set hy with r | r
    ·exact hv.int y r
    ·subst r;unfold AA at hx;unfold eF bn;simp;omega
theorem Lh {l:List ae} {s:az} (A:Asg l s) {n m:List ae} (N:Like l n) (M:Like l m) {k:Int} (h0:0≤k) (h1:k < nC l s):Like l (U8 l s n m k):=by
 unfold U8;split
 ·exact M
 ·rename_i hc
  exact M.set (WB ((MI A h0 h1 hc).bds N.b N.st))
theorem GR {l:List ae} {s:az} (A:Asg l s) {k:Int} (h0:0≤k) (h1:k < nC l s):cellAt l s k∈(sS l s).Offsets∧at_ (sS l s).Offsets k=some (cellAt l s k):=by
 unfold nC at h1;unfold cellAt;refine ⟨?_,at_in h0 h1⟩;rw [bU,ax (by omega)];exact dE _
theorem PU {l:List ae} {s:az} (A:Asg l s) {m:List ae} (M:Like l m) {k:Int} (h0:0≤k) (h1:k < nC l s) :
  ∃ a,at_ m s.Var=some a∧0≤cellAt l s k∧cellAt l s k < a.Elements.length∧(∀ x,m.set s.Var.toNat { a with Elements:=a.Elements.set (cellAt l s k).toNat x }=FC m s.Var (cellAt l s k) x):=by
 obtain ⟨a,ha,sc⟩:=A.arr;obtain ⟨b,hb,hbb⟩:=Xk M ha;have hr:=sc.range _ (GR A h0 h1).1;have hv:=M.st.2 b (bu (at_mem hb).2.2);have hle:=hv.len;rw [hbb] at hle;refine ⟨b,hb,hr.1,by omega,fun x=>?_⟩;unfold FC;rw [hb]
def wW (n:Nat):List Int:=(List.range n).map fun k:Nat=>(k:Int)
def ZM (l:List ae) (s:az) (o:List Int):List ae:=o.foldl (fun m k=>U8 l s m m k) l
theorem Xq (xs:List ai) (h:xs.length≤16777216):lM xs=some xs:=by unfold lM;rw [Kw h];rfl
theorem Xr (xs:List Int) (h:xs.length≤16777216):slices_Clone_int xs=some xs:=by unfold slices_Clone_int;rw [Kw h];rfl
theorem QR {l:List ae} (h:few l=true):lC l=some l:=by
 obtain ⟨h1,h2⟩:=BF h;unfold lC;rw [tZ (step:=lC.s1 l) l (fun a=>a) (fun i b=>(i,b)) (fun b=>b) rfl ?_ ?_ (by omega)]
 ·simp
 ·intro i hi b hb;have:=h2 l[i] (dE hi);simp only [lC.s1,iC hi,aG,jc hi,ah,Xq l[i].Bounds (by omega),Xr l[i].Elements (by omega)];rw [jT (by omega),wn (by omega)];rfl
 ·intro b;simp only [lC.s1,dh,au]
theorem at_range {α:Type} (f:Nat→α) {n:Nat} {k:Int} (h0:0≤k) (h1:k < n):at_ ((List.range n).map f) k=some (f k.toNat):=by
 unfold at_;rw [if_pos h0,bK,List.getElem?_range (by omega)];rfl
theorem LG {l:List ae} {s:az} (hf:few l=true) (hb:vU s=true) (h:opE l s=0) {o:List Int} (ho:∀ k,k∈o→0≤k∧k < nC l s) (hl:o.length < 1000) (at1:Bool) :
  kY l s o at1=some (o.foldl (fun m k=>U8 l s (if at1=true then l else m) m k) l):=by
 have A:=asg hb h;unfold kY;rw [zT hf hb];simp only [h,aG,ah];rw [show ((sS l s).Offsets.length:Int)=(nC l s:Int) from rfl,Fz A];simp only [ah,KH hf];rw [nK (step:=kY.s1 l s o at1 (sS l s,0) ((List.range (nC l s)).map fun k:Nat=>chs l s (k:Int))) o (fun i b=>(i,b)) (fun b=>b) (fun m k=>U8 l s (if at1=true then l else m) m k) (fun _ m=>Like l m) rfl ?_ ?_ (Like.refl A.st) (by omega)]
 ·rfl
 ·intro i hi m M;obtain ⟨k0,k1⟩:=ho o[i] (dE hi);refine ⟨?_,Lh A (by split;exact Like.refl A.st;exact M) M k0 k1⟩;simp only [kY.s1,iC hi,aG,jc hi,ah];generalize o[i]=k at *
  rw [at_range _ k0 k1];have e1:((k.toNat:Nat):Int)=k:=by omega
  simp only [ah,e1,Qc];unfold U8;by_cases h5:chs l s k=[]
  ·simp only [h5,aG];rw [wn (by omega)]
  ·obtain ⟨a,a1,a2,a3,a4⟩:=PU A M k0 k1;have hc:=(GR A k0 k1).2;have hN:Like l (if at1=true then l else m):=by split;exact Like.refl A.st;exact M
   have hv:=JE ((MI A k0 k1 h5).bds hN.b hN.st);cases at1 with
   | true =>
    simp only [aG] at hv;simp only [h5,au,aG,a1,ah,hc,hv];rw [at_in (d:=0) a2 a3];simp only [ah];rw [wn (by omega),a4]
   | false =>
    simp only [aF,au] at hv;simp only [h5,au,aF,a1,ah,hc,hv];rw [at_in (d:=0) a2 a3];simp only [ah];rw [wn (by omega),a4]
 ·intro m M;simp only [kY.s1,dh,au]
theorem PI {m:List ae} (h:zn m) {a:ae} (ha:a∈m):a.Bounds.length < 16777216∧a.Elements.length < 16777216:=by
 have hv:=h.2 a ha;have ok:=zq hv.b;have:=ok.size;have hl:=hv.len;have hd:=ok.len;unfold exs at hl;omega
theorem RH {m:List ae} (h:zn m):jE m m=some true:=by
 have:=h.1;unfold jE;rw [if_neg (by simp)];rw [oz (step:=jE.s1 m m) m (fun _=>(none:Option Bool)) (fun c=>Sum.inr c) (Sum.inl ()) rfl ?_ ?_ (by omega)]
 ·have:m.findSome? (fun _=>(none:Option Bool))=none:=by simp
  rw [this];rfl
 ·intro i hi;obtain ⟨h1,h2⟩:=PI h (dE hi);simp only [jE.s1,iC hi,aG,jc hi,ah];rw [UG h1 h2];simp only [ah,di,au];rw [wn (by omega)]
 ·simp only [jE.s1,dh,au]
theorem Qm {l:List ae} {s:az} (A:Asg l s):∀ (o:List Int) (m:List ae),Like l m→(∀ k,k∈o→0≤k∧k < nC l s)→Like l (o.foldl (fun m k=>U8 l s m m k) m)
 | [],m,M,_=>M
 | k::o,m,M,h=>by
  rw [fD];exact Qm A o _ (Lh A M M (h k (.head _)).1 (h k (.head _)).2) (fun j hj=>h j (.tail _ hj))
theorem V7 (n:Nat):∀ k,k∈wW n→0≤k∧k < n:=by
 intro k hk;unfold wW at hk;obtain ⟨i,hi,rfl⟩:=iR.1 hk;simp only [kw] at hi;omega
end Go.Sh
set_option linter.all false
namespace Go.Sh
open Go.Lx
def O9 (l:List ae) (k v c:Int) (n:ag):Bool:=(n.Kind==1)&&((n.Var==v)&&(pick (sF l n.Var n.Subscripts).1 k==c))
def Lt (l:List ae) (e:List ag) (k v c:Int):Bool:=e.any (O9 l k v c)
theorem Xo {l:List ae} {e:List ag} {k:Int} (H:Ci l e k) {i:Nat} (hi:i < e.length) (h1:e[i].Kind=1):tH l e[i] k=some (pick (sF l e[i].Var e[i].Subscripts).1 k):=by
 obtain ⟨a,ha,hof,g0,g1,_,hse⟩:=II H hi h1;have hq:=H.sm.2 e[i] (dE hi);have:=hof _ rfl;unfold tH;rw [ha];simp only [ah,vM a.Bounds e[i].Subscripts hq];rw [← hse];exact this
theorem Pj {l:List ae} {e:List ag} {k:Int} (H:Ci l e k) (v c:Int):nO l e k v c=some (Lt l e k v c):=by
 have hlt:=H.sm.1;unfold nO;obtain ⟨j,hj⟩:=vJ (step:=nO.s1 l e k v c) e (O9 l k v c) (fun _=>Sum.inr true) (Sum.inl ()) (s:=0) rfl (fun i hi=>by
  simp only [nO.s1,iC hi,aG,jc hi,ah,O9];by_cases h1:e[i].Kind=1
  ·simp only [h1,aG,Xo H hi h1,ah,beq_self_eq_true,jb];by_cases h2:e[i].Var=v
   ·simp only [h2,aG,beq_self_eq_true,jb,lT];split
    ·rfl
    ·rw [wn (by omega)]
   ·have:(e[i].Var==v)=false:=by simpa using h2
    simp only [h2,au,this,Bool.false_and,aF];rw [wn (by omega)]
  ·have:(e[i].Kind==1)=false:=by simpa using h1
   simp only [h1,au,this,Bool.false_and,aF];rw [wn (by omega)]) (by simp only [nO.s1,dh,au]) (by omega)
 rw [hj];unfold Lt;by_cases h:e.any (O9 l k v c)=true
 ·simp [h]
 ·simp [h]
theorem We {l:List ae} {s:az} (A:Asg l s) {k:Int} (h0:0≤k) (h1:k < nC l s) (c:Int):fP (some (mkA l s)) k c=some (Lt l (chs l s k) k s.Var c):=by
 unfold fP;rw [GV A h0 h1];simp only [ah];by_cases h5:chs l s k=[]
 ·simp only [h5,aG,Option.isNone_none];rfl
 ·have H:=MI A h0 h1 h5;have hlt:=H.sm.1;simp only [h5,au,Option.isNone_some,aF,ah];generalize chs l s k=e at *
  obtain ⟨j,hj⟩:=vJ (step:=fP.s1 (some (mkA l s)) k c (tC l e)) e (O9 l k s.Var c) (fun _=>Sum.inr true) (Sum.inl ()) (s:=0) rfl (fun i hi=>by
   have hlt':((i:Int) < ((tC l e).e.length:Int))=True:=iC hi;have hat:at_ (tC l e).e i=some e[i]:=jc hi;simp only [fP.s1,hlt',aG,hat,ah,O9];by_cases h1:e[i].Kind=1
   ·obtain ⟨a,ha,hof,_⟩:=II H hi h1;have hsec:at_ (tC l e).sections i=some (sF l e[i].Var e[i].Subscripts).1:=by
     show at_ (e.map (sec l)) i=_
     rw [jc (by simpa using hi)];simp [sec,h1]
    have hv:(mkA l s).at_=s.Var:=rfl;simp only [h1,aG,hsec,ah,hof _ rfl,beq_self_eq_true,jb,hv];by_cases h2:e[i].Var=s.Var
    ·simp only [h2,aG,beq_self_eq_true,jb,lT];split
     ·rfl
     ·rw [wn (by omega)]
    ·have:(e[i].Var==s.Var)=false:=by simpa using h2
     simp only [h2,au,this,Bool.false_and,aF];rw [wn (by omega)]
   ·have:(e[i].Kind==1)=false:=by simpa using h1
    simp only [h1,au,this,Bool.false_and,aF];rw [wn (by omega)]) (by
    have:¬ ((e.length:Int) < ((tC l e).e.length:Int)):=by show ¬ ((e.length:Int) < (e.length:Int));omega
    simp only [fP.s1,this,au]) (by omega)
  rw [hj];unfold Lt;by_cases h:e.any (O9 l k s.Var c)=true
  ·simp [h]
  ·simp [h]
def conf (l:List ae) (s:az) (w r:Nat):Bool :=
 decide (w≠r)&&(!(chs l s (w:Int)).isEmpty&&(!(chs l s (r:Int)).isEmpty&&Lt l (chs l s (r:Int)) (r:Int) s.Var (cellAt l s (w:Int))))
def vF (l:List ae) (s:az) (w r:Nat):List aA:=if conf l s w r=true then [aA.mk (w:Int) (r:Int)] else []
def FM (l:List ae) (s:az):List aA:=(List.range (nC l s)).flatMap fun w=>(List.range (nC l s)).flatMap (vF l s w)
theorem foldl_flat {α β:Type} (g:α→List β):∀ (xs:List α) (acc:List β),xs.foldl (fun b x=>b++g x) acc=acc++xs.flatMap g
 | [],acc=>by simp
 | x::xs,acc=>by rw [fD,foldl_flat g xs];simp
theorem Dl {τ β:Type} {step:Int×List β→Option (Sum (Int×List β) τ)} (n:Nat) (g:Nat→List β) (m:Nat) (fin:List β→τ) {acc:List β} (hn:n < 1000)
  (hg:∀ i,i < n→(g i).length≤m)
  (h:∀ i,i < n→∀ b:List β,b.length≤acc.length+i * m→step ((i:Int),b)=some (.inl (((i+1:Nat):Int),b++g i)))
  (hend:∀ b,step ((n:Int),b)=some (.inr (fin b))):gV step (0,acc)=some (fin (acc++(List.range n).flatMap g)):=by
 have hl:(List.range n).length=n:=lS;rw [nK (step:=step) (List.range n) (fun i b=>(i,b)) fin (fun b x=>b++g x) (fun i b=>b.length≤acc.length+i * m) (a:=acc) rfl ?_ ?_ (by simp) (by omega),foldl_flat]
 ·intro i hi b hb;rw [hl] at hi;have e:(List.range n)[i]=i:=by simp
  rw [e];refine ⟨h i hi b hb,?_⟩;have:=hg i hi;rw [mJ,Nat.succ_mul];omega
 ·intro b _;rw [hl];exact hend b
theorem GX (l:List ae) (s:az) (w r:Nat):(vF l s w r).length≤1:=by unfold vF;split<;>simp
theorem KQ {α β:Type} (g:α→List β) (m:Nat):∀ (xs:List α),(∀ x,x∈xs→(g x).length≤m)→(xs.flatMap g).length≤xs.length * m
 | [],_=>by simp
 | x::xs,h=>by
  rw [List.flatMap_cons,mJ,gq,Nat.succ_mul];have:=KQ g m xs (fun y hy=>h y (.tail _ hy));have:=h x (.head _);omega
theorem Pv (l:List ae) (s:az) (w:Nat):((List.range (nC l s)).flatMap (vF l s w)).length≤nC l s:=by
 have:=KQ (vF l s w) 1 (List.range (nC l s)) (fun r _=>GX l s w r);simpa using this
theorem MK {l:List ae} {s:az} (A:Asg l s):(FM l s).length≤3600:=by
 have hn:nC l s≤60:=A.n60;have:=KQ (fun w=>(List.range (nC l s)).flatMap (vF l s w)) (nC l s) (List.range (nC l s)) (fun w _=>Pv l s w);simp only [lS] at this;have h2:nC l s * nC l s≤60 * 60:=Nat.mul_le_mul hn hn;unfold FM;omega
theorem Wj {l:List ae} {s:az} {w:Nat} (h:chs l s (w:Int)=[]):(List.range (nC l s)).flatMap (vF l s w)=[]:=by
 have:∀ r,vF l s w r=[]:=fun r=>by unfold vF conf;rw [h];simp
 have h2:vF l s w=fun _=>[]:=funext this
 rw [h2];generalize List.range (nC l s)=xs
 induction xs with
 | nil=>rfl
 | cons x xs ih=>rw [List.flatMap_cons,ih];rfl
theorem ML {l:List ae} {s:az} (A:Asg l s):bT (some (mkA l s))=some (FM l s):=by
 have hn:nC l s≤60:=A.n60;have hcl:((mkA l s).cells.length:Int)=(nC l s:Int):=rfl;unfold bT;simp only [ah];rw [Dl (step:=bT.s1 (some (mkA l s)) (mkA l s)) (nC l s) (fun w=>(List.range (nC l s)).flatMap (vF l s w)) (nC l s) (fun b=>b) (by omega) (fun w _=>Pv l s w) ?_ ?_]
 ·rfl
 ·intro i hi b hb;have hb2:b.length≤3600:=by
   have:i * nC l s≤60 * 60:=Nat.mul_le_mul (by omega) hn;simp only [ku] at hb;omega
  have hlt:((i:Int) < ((mkA l s).cells.length:Int))=True:=eq_true (by rw [hcl];omega);have hc:at_ (mkA l s).cells i=some (cellAt l s i):=(GR A (show (0:Int)≤i by omega) (by omega)).2;simp only [bT.s1,hlt,aG,hc,ah,GV A (show (0:Int)≤i by omega) (by omega)];by_cases h5:chs l s i=[]
  ·simp only [h5,aG,Option.isNone_none];rw [wn (by omega),Wj h5,jk]
  ·simp only [h5,au,Option.isNone_some,aF];rw [Dl (step:=bT.s2 (some (mkA l s)) (mkA l s) ((i:Int),b) (cellAt l s i)) (nC l s) (vF l s i) 1 (fun b=>b) (by omega) (fun r _=>GX l s i r) ?_ ?_]
   ·simp only [ah];rw [wn (by omega)]
   ·intro j hj b' hb';have hlt2:((j:Int) < ((mkA l s).cells.length:Int))=True:=eq_true (by rw [hcl];omega);simp only [bT.s2,hlt2,aG];have e5:(chs l s i).isEmpty=false:=by simpa using h5
    by_cases hij:(j:Int)=i
    ·have:conf l s i j=false:=by unfold conf;simp;omega
     simp only [hij,di,au,vF,this,aF];rw [wn (by omega),jk]
     congr 3
     omega
    ·simp only [hij,aQ,aG,We A (show (0:Int)≤j by omega) (show (j:Int) < nC l s by omega),ah];have hne:decide (i≠j)=true:=by simp;omega
     have hcf:conf l s i j=Lt l (chs l s j) j s.Var (cellAt l s i):=by
      unfold conf;rw [hne,e5];by_cases h6:chs l s j=[]
      ·rw [h6];rfl
      ·have e6:(chs l s j).isEmpty=false:=by simpa using h6
       rw [e6];rfl
     by_cases hr:Lt l (chs l s j) j s.Var (cellAt l s i)=true
     ·simp only [hr,aG,vF,hcf];rw [jT (by omega),wn (by omega)];rfl
     ·simp only [hr,au,vF,hcf,aF];rw [wn (by omega),jk]
   ·intro b';have:¬ ((nC l s:Int) < ((mkA l s).cells.length:Int)):=by rw [hcl];omega
    simp only [bT.s2,this,au]
 ·intro b;have:¬ ((nC l s:Int) < ((mkA l s).cells.length:Int)):=by rw [hcl];omega
  simp only [bT.s1,this,au]
theorem IP {l:List ae} {s:az} (hf:few l=true) (hb:vU s=true) (h:opE l s=0):gG l s=some (FM l s):=by
 have A:=asg hb h;have hn:nC l s≤60:=A.n60;unfold gG;rw [zT hf hb];simp only [h,aG,ah];rw [show ((sS l s).Offsets.length:Int)=(nC l s:Int) from rfl,Fz A];simp only [ah];have hxl:(((List.range (nC l s)).map fun k:Nat=>chs l s (k:Int)).length:Int)=(nC l s:Int):=by simp
 have hat:∀ i:Nat,i < nC l s→at_ ((List.range (nC l s)).map fun k:Nat=>chs l s (k:Int)) (i:Int)=some (chs l s i):=fun i hi=>by
  rw [at_range _ (by omega) (by omega)];simp
 generalize (List.range (nC l s)).map (fun k:Nat=>chs l s (k:Int))=X at *
 rw [Dl (step:=gG.s1 l s (sS l s,0) X) (nC l s) (fun w=>(List.range (nC l s)).flatMap (vF l s w)) (nC l s) (fun b=>b) (by omega) (fun w _=>Pv l s w) ?_ ?_]
 ·rfl
 ·intro i hi b hb;have hb2:b.length≤3600:=by
   have:i * nC l s≤60 * 60:=Nat.mul_le_mul (by omega) hn;simp only [ku] at hb;omega
  have hlt:((i:Int) < (X.length:Int))=True:=eq_true (by rw [hxl];omega);simp only [gG.s1,hlt,aG];rw [Dl (step:=gG.s2 l s (sS l s,0) X ((i:Int),b)) (nC l s) (vF l s i) 1 (fun b=>b) (by omega) (fun r _=>GX l s i r) ?_ ?_]
  ·simp only [ah];rw [wn (by omega)]
  ·intro j hj b' hb';have hlt2:((j:Int) < (X.length:Int))=True:=eq_true (by rw [hxl];omega);simp only [gG.s2,hlt2,aG];by_cases hij:(i:Int)=j
   ·have:conf l s i j=false:=by unfold conf;simp;omega
    simp only [hij,di,au,vF,this,aF];rw [wn (by omega),jk]
   ·have hne:decide (i≠j)=true:=by simp;omega
    simp only [hij,aQ,aG,hat i hi,hat j hj,ah,Eg];by_cases h5:chs l s i=[]
    ·have:conf l s i j=false:=by unfold conf;rw [h5];simp
     simp only [h5,ne_eq,di,au,vF,this,aF];rw [wn (by omega),jk]
    ·by_cases h6:chs l s j=[]
     ·have:conf l s i j=false:=by unfold conf;rw [h6];simp
      simp only [h5,h6,ne_eq,di,aQ,aG,au,vF,this,aF];rw [wn (by omega),jk]
     ·have hc:=(GR A (show (0:Int)≤i by omega) (show (i:Int) < nC l s by omega)).2;simp only [h5,h6,ne_eq,aQ,aG,hc,ah,Pj (MI A (show (0:Int)≤j by omega) (show (j:Int) < nC l s by omega) h6)];have e5:(chs l s i).isEmpty=false:=by simpa using h5
      have e6:(chs l s j).isEmpty=false:=by simpa using h6
      have hcf:conf l s i j=Lt l (chs l s j) j s.Var (cellAt l s i):=by unfold conf;rw [hne,e5,e6];rfl
      by_cases hr:Lt l (chs l s j) j s.Var (cellAt l s i)=true
      ·simp only [hr,aG,vF,hcf];rw [jT (by omega),wn (by omega)];rfl
      ·simp only [hr,au,vF,hcf,aF];rw [wn (by omega),jk]
  ·intro b';have:¬ ((nC l s:Int) < (X.length:Int)):=by rw [hxl];omega
   simp only [gG.s2,this,au]
 ·intro b;have:¬ ((nC l s:Int) < (X.length:Int)):=by rw [hxl];omega
  simp only [gG.s1,this,au]
theorem SX {l:List ae} {s:az} {c:aA}:c∈FM l s↔∃ w r:Nat,w < nC l s∧r < nC l s∧conf l s w r=true∧c=aA.mk (w:Int) (r:Int):=by
 unfold FM;simp only [List.mem_flatMap,kw];constructor
 ·rintro ⟨w,hw,r,hr,hc⟩
  unfold vF at hc;split at hc
  ·rename_i q;simp only [iY] at hc;exact ⟨w,r,hw,hr,q,hc⟩
  ·cases hc
 ·rintro ⟨w,r,hw,hr,q,rfl⟩
  exact ⟨w,hw,r,hr,by unfold vF;rw [if_pos q];exact iY.2 rfl⟩
end Go.Sh
set_option linter.all false
namespace Go.Sh
open Go.Lx
theorem Eu (n:Nat):(wW n).length=n:=by simp [wW]
theorem Ls (n:Nat):(wW n).Pairwise (·≤·):=by
 unfold wW;rw [List.pairwise_map];exact (List.pairwise_lt_range (n:=n)).imp (by intro a b h;omega)
theorem NG (n:Nat):(wW n).Nodup:=by
 unfold wW List.Nodup;rw [List.pairwise_map];exact (List.pairwise_lt_range (n:=n)).imp (by intro a b h;omega)
theorem Am {n:Nat} {x:Int}:x∈wW n↔0≤x∧x < n:=by
 constructor
 ·exact V7 n x
 ·intro h;exact iR.2 ⟨x.toNat,kw.2 (by omega),by omega⟩
theorem IG:∀ {xs ys:List Int},xs.Nodup→(∀ x,x∈xs→x∈ys)→ys.length≤xs.length→ys.Perm xs
 | [],ys,_,_,h=>by
  have:ys=[]:=dC (by simpa using h);subst this;exact .refl _
 | x::xs,ys,hn,hs,hl=>by
  rw [List.nodup_cons] at hn;have hx:=hs x (.head _);have p:=List.perm_cons_erase hx;refine p.trans (.cons x (IG hn.2 (fun z hz=>?_) ?_))
  ·have hne:z≠x:=fun e=>hn.1 (e ▸ hz)
   exact (List.mem_erase_of_ne hne).2 (hs z (.tail _ hz))
  ·have:=List.length_erase_of_mem hx;simp at hl;have:=List.length_pos_of_mem hx;omega
def E8 (n:Nat) (o:List Int):Bool:=decide (o.length=n)&&(List.range n).all fun i=>o.any fun x=>x==(i:Int)
theorem BI {n:Nat} {o:List Int}:E8 n o=true↔o.Perm (wW n):=by
 unfold E8;simp only [bg,iW,aW,kw,kE,lT];constructor
 ·rintro ⟨h1,h2⟩
  refine IG (NG n) (fun x hx=>?_) (by rw [Eu];omega);obtain ⟨i,hi,rfl⟩:=iR.1 hx;obtain ⟨y,hy,rfl⟩:=h2 i (kw.1 hi);exact hy
 ·intro h;refine ⟨by rw [h.length_eq,Eu],fun i hi=>⟨(i:Int),h.mem_iff.2 (Am.2 (by omega)),rfl⟩⟩
theorem OX {n:Nat} {o:List Int}:BJ o=wW n↔o.Perm (wW n):=by
 constructor
 ·intro h;rw [← h];exact (xJ o).symm
 ·intro h;exact (Fb h.symm (Ls n)).symm
theorem Nh {n:Nat} {o:List Int} (hn:n < 1000) (h:o.length < 16777216):kZ o (n:Int)=some (E8 n o):=by
 unfold kZ E8;by_cases hl:o.length=n
 ·rw [if_neg (by omega)];have key:=jS (ρ:=Unit) (β:=Unit) (τ:=Sum Unit Bool) (step:=kZ.s1 o (n:Int)) (List.range n) (fun i (_:Unit)=>i) (fun _ => .inr false) (fun _ => .inl ())
   (fun _ _ (i:Nat)=>if (o.any fun x=>x==(i:Int))=true then .inr () else .inl ()) (fun _ _=>True) (a:=()) (s:=0) rfl ?_ ?_ trivial (by simp;omega)
  ·rw [key];have scan:∀ (xs:List Nat) (i:Nat),gK (ρ:=Unit) (fun _ (_:Unit) (i:Nat)=>if (o.any fun x=>x==(i:Int))=true then Sum.inr () else Sum.inl ()) i xs ()=if (xs.all fun i=>o.any fun x=>x==(i:Int))=true then .inr () else .inl ():=by
    intro xs
    induction xs with
    | nil=>intro i;rfl
    | cons x xs ih =>
     intro i;simp only [gK,oD];by_cases hx:(o.any fun y=>y==(x:Int))=true
     ·simp only [hx,aG,jb];exact ih _
     ·simp only [hx,au,aF,Bool.false_and]
   rw [scan];by_cases hq:((List.range n).all fun i=>o.any fun x=>x==(i:Int))=true
   ·simp only [hq,hl,aG,ah,decide_true,Bool.and_self]
   ·simp only [hq,hl,au,ah,aF,decide_true,jb]
  ·intro i hi b _;refine ⟨?_,fun _ _=>trivial⟩;have hi':i < n:=by simpa using hi
   have e:(List.range n)[i]=i:=by simp
   have hle:((i:Int) < (n:Int))=True:=eq_true (by omega);simp only [kZ.s1,hle,aG,e];rw [has_eq h];simp only [ah];by_cases hx:(o.any fun y=>y==(i:Int))=true
   ·simp only [hx,aG,di,au];rw [wn (by omega)]
   ·simp only [hx,au,aG,aQ,aF]
  ·intro b _;have hle:(((List.range n).length:Int) < (n:Int))=False:=eq_false (by simp);simp only [kZ.s1,hle,au]
 ·rw [if_pos (by omega)];simp [hl]
theorem Qy:∀ (xs:List Int) (i:Nat) (b:Bool),gK (ρ:=Unit) (fun i b x => .inr (b&&(x==(i:Int)))) i xs b = .inr (b&&(xs==(List.range xs.length).map fun j:Nat=>((i+j:Nat):Int)))
 | [],i,b=>by simp [gK]
 | x::xs,i,b=>by
  simp only [gK];rw [Qy xs (i+1)];have hmap:(List.range (x::xs).length).map (fun j:Nat=>((i+j:Nat):Int))=(i:Int)::(List.range xs.length).map (fun j:Nat=>((i+1+j:Nat):Int)):=by
   rw [gq,List.range_succ_eq_map,gQ,List.map_map]
   congr 1
   apply List.map_congr_left;intro j _;simp only [Function.comp];omega
  rw [hmap]
  congr 1
  rw [Bool.and_assoc];rfl
def Sj (l:List ae) (s:az) (o:List Int):Int:=if opE l s=0 then (if E8 (nC l s) o=true then 0 else 3) else opE l s
theorem Fh {l:List ae} {s:az} {o:List Int} (hf:few l=true) (hb:vU s=true) (ho:o.length < 1000):∃ y,jf l s o=some (y,Sj l s o)∧(Sj l s o=0→y=some (mkA l s)):=by
 obtain ⟨y,y1,y2⟩:=XQ hf hb;unfold jf Sj;rw [y1];simp only [ah];by_cases h:opE l s=0
 ·have A:=asg hb h;have hn:nC l s≤60:=A.n60;have hsl:=(xJ o).length_eq;simp only [h,di,au,y2 h,ah,aG];have hs:iJ o=some (BJ o):=by unfold iJ EM;rw [if_pos (by omega)]
  rw [hs];simp only [ah];rw [jS (ρ:=Unit) (step:=jf.s1 (BJ o)) (BJ o) (fun i b=>(b,i)) (fun _=>false) (fun b=>b) (fun i b x => .inr (b&&(x==(i:Int)))) (fun _ _=>True) rfl ?_ ?_ trivial (by omega),Qy]
  ·simp only [ah,qW];have he:(((o.length:Int)==((mkA l s).cells.length:Int))&&(BJ o==(List.range (BJ o).length).map fun j:Nat=>((0+j:Nat):Int)))=E8 (nC l s) o:=by
    have e1:((o.length:Int)==((mkA l s).cells.length:Int))=decide (o.length=nC l s):=by
     show ((o.length:Int)==(nC l s:Int))=_
     rw [Bool.eq_iff_iff];simp only [lT,iW];omega
    rw [e1,hsl];have e2:((List.range o.length).map fun j:Nat=>((0+j:Nat):Int))=wW o.length:=by unfold wW;simp
    rw [e2];rw [Bool.eq_iff_iff,BI,bg,iW,lT,OX];constructor
    ·rintro ⟨q1,q2⟩;rw [q1] at q2;exact q2
    ·intro q;have:=q.length_eq;rw [Eu] at this;exact ⟨this,by rw [this];exact q⟩
   rw [he];exact ⟨_,rfl,fun _=>rfl⟩
  ·intro i hi b _;refine ⟨?_,fun _ _=>trivial⟩;simp only [jf.s1,iC hi,aG,jc hi,ah];rw [wn (by omega)]
  ·intro b _;simp only [jf.s1,dh,au]
 ·simp only [h,aQ,aG,au];exact ⟨none,rfl,fun q=>q.elim⟩
theorem Uk {n:Nat} {o:List Int} (h:E8 n o=true):∀ k,k∈o→0≤k∧k < n:=fun k hk=>Am.1 ((BI.1 h).mem_iff.1 hk)
theorem Q5 {l:List ae} {s:az} {o:List Int} (hf:few l=true) (hb:vU s=true) (ho:o.length < 1000):kC l s o=some (if Sj l s o=0 then ZM l s o else [],Sj l s o):=by
 obtain ⟨y,y1,y2⟩:=Fh hf hb ho;unfold kC;rw [y1];simp only [ah];by_cases h:Sj l s o=0
 ·have h':=h;unfold Sj at h';split at h'
  ·rename_i h0
   split at h'
   ·rename_i h1
    have A:=asg hb h0;have hin:=Uk h1;simp only [h,di,au,QR hf,ah,y2 h,aG];rw [nK (step:=kC.s1 o (some (mkA l s),0)) o (fun i b=>(i,b)) (fun b=>b) (fun m k=>U8 l s m m k) (fun _ m=>Like l m) rfl ?_ ?_ (Like.refl A.st) (by omega)]
    ·rfl
    ·intro i hi m M;obtain ⟨k0,k1⟩:=hin o[i] (dE hi);refine ⟨?_,Lh A M M k0 k1⟩;simp only [kC.s1,iC hi,aG,jc hi,ah,GV A k0 k1];generalize o[i]=k at *
     unfold U8;by_cases h5:chs l s k=[]
     ·simp only [h5,aG,Option.isSome_none,aF,au];rw [wn (by omega)]
     ·obtain ⟨a,a1,a2,a3,a4⟩:=PU A M k0 k1;have a1':at_ m (mkA l s).at_=some a:=a1;have hc2:at_ (mkA l s).cells k=some (cellAt l s k):=(GR A k0 k1).2;simp only [h5,au,Option.isSome_some,aG,a1',ah,hc2];rw [Rk M.b,Fq ((MI A k0 k1 h5).bds M.b M.st)];simp only [ah];rw [at_in (d:=0) a2 a3];simp only [ah];rw [wn (by omega)];have:=a4 (value m (chs l s k) k);rw [show (mkA l s).at_=s.Var from rfl,this]
    ·intro m M;simp only [kC.s1,dh,au]
   ·cases h'
  ·rename_i h0;exact absurd h' h0
 ·simp only [h,aQ,aG,au]
def idx (v:Int):List Int→Nat→Int
 | [],_ => -1
 | x::xs,i=>if v=x then (i:Int) else idx v xs (i+1)
theorem VH {o:List Int} {v:Int} (h:o.length < 1000):slices_Index_int o v=some (idx v o 0):=by
 unfold slices_Index_int;rw [jS (ρ:=Nat) (step:=slices_Index_int.s1 o v) o (fun i (_:Unit)=>i) (fun k=>Sum.inr (k:Int)) (fun _=>Sum.inl ()) (fun i _ x=>if v=x then .inl i else .inr ()) (fun _ _=>True) (a:=()) rfl ?_ ?_ trivial (by omega)]
 ·have key:∀ (xs:List Int) (i:Nat),(gK (ρ:=Nat) (fun i (_:Unit) x=>if v=x then .inl i else .inr ()) i xs () = .inr ()∧idx v xs i = -1)∨∃ k:Nat,gK (ρ:=Nat) (fun i (_:Unit) x=>if v=x then .inl i else .inr ()) i xs () = .inl k∧idx v xs i=(k:Int):=by
   intro xs
   induction xs with
   | nil=>intro i;exact .inl ⟨rfl,rfl⟩
   | cons x xs ih =>
    intro i;simp only [gK,idx];by_cases hx:v=x
    ·simp only [hx,aG];exact .inr ⟨i,rfl,rfl⟩
    ·simp only [hx,au];exact ih (i+1)
  rcases key o 0 with ⟨h1,h2⟩ | ⟨k,h1,h2⟩
  ·rw [h1,h2];rfl
  ·rw [h1,h2];rfl
 ·intro i hi _ _;refine ⟨?_,fun _ _=>trivial⟩;simp only [slices_Index_int.s1,iC hi,aG,jc hi,ah];by_cases hx:v=o[i]
  ·simp only [hx,aG]
  ·simp only [hx,au];rw [wn (by omega)]
 ·intro _ _;simp only [slices_Index_int.s1,dh,au]
def bef (c:aA):List Int→Bool
 | []=>false
 | x::xs=>if x=c.Reader then false else if x=c.Writer then true else bef c xs
theorem TG {v:Int}:∀ {xs:List Int} (i:Nat),v∈xs→(i:Int)≤idx v xs i
 | [],i,h=>by cases h
 | x::xs,i,h=>by
  unfold idx;split
  ·omega
  ·rename_i hx
   rcases gZ.1 h with q | q
   ·exact absurd q hx
   ·have:=TG (i+1) q;omega
theorem SC {c:aA}:∀ {xs:List Int} (i:Nat),c.Writer∈xs→c.Reader∈xs→decide (idx c.Writer xs i < idx c.Reader xs i)=bef c xs
 | [],i,h,_=>by cases h
 | x::xs,i,hw,hr=>by
  have gw:=TG i hw;unfold bef;by_cases h1:x=c.Reader
  ·have:idx c.Reader (x::xs) i=i:=by unfold idx;rw [if_pos h1.symm]
   rw [if_pos h1,this];simp;exact gw
  ·rw [if_neg h1];have hr2:c.Reader∈xs:=by
    rcases gZ.1 hr with q | q
    ·exact absurd q.symm h1
    ·exact q
   have er:idx c.Reader (x::xs) i=idx c.Reader xs (i+1):=by rw [idx,if_neg (fun q=>h1 q.symm)]
   rw [er];by_cases h2:x=c.Writer
   ·have:idx c.Writer (x::xs) i=i:=by unfold idx;rw [if_pos h2.symm]
    have:=TG (i+1) hr2;rw [if_pos h2];simp;omega
   ·rw [if_neg h2];have hw2:c.Writer∈xs:=by
     rcases gZ.1 hw with q | q
     ·exact absurd q.symm h2
     ·exact q
    have ew:idx c.Writer (x::xs) i=idx c.Writer xs (i+1):=by rw [idx,if_neg (fun q=>h2 q.symm)]
    rw [ew];exact SC (i+1) hw2 hr2
def Wl (c:List aA) (o:List Int):Bool:=!(c.any fun x=>bef x o)
theorem Rw {c:List aA} {o:List Int} (hc:c.length < 16777216) (ho:o.length < 16777216):iZ c o=some (Wl c o):=by
 unfold iZ;rw [oz (step:=iZ.s1 c o) c (fun x=>if bef x o=true then some false else none) (fun r=>Sum.inr r) (Sum.inl ()) rfl ?_ ?_ (by omega)]
 ·unfold Wl;rw [rH];by_cases h:c.any (fun x=>bef x o)=true<;>simp [h]
 ·intro i hi;simp only [iZ.s1,iC hi,aG];rw [jS (ρ:=Bool) (step:=iZ.s2 c o i) o (fun i (_:Unit)=>i) (fun b=>if b=true then Sum.inr false else Sum.inl ()) (fun _=>Sum.inl ()) (fun _ _ x=>if x=c[i].Reader then .inl false else if x=c[i].Writer then .inl true else .inr ()) (fun _ _=>True) (a:=()) rfl ?_ ?_ trivial (by omega)]
  ·have key:∀ (xs:List Int) (j:Nat),(gK (ρ:=Bool) (fun _ (_:Unit) x=>if x=c[i].Reader then .inl false else if x=c[i].Writer then .inl true else .inr ()) j xs () = .inr ()∧bef c[i] xs=false)∨gK (ρ:=Bool) (fun _ (_:Unit) x=>if x=c[i].Reader then .inl false else if x=c[i].Writer then .inl true else .inr ()) j xs () = .inl (bef c[i] xs):=by
    intro xs
    induction xs with
    | nil=>intro j;exact .inl ⟨rfl,rfl⟩
    | cons x xs ih =>
     intro j;simp only [gK,bef];by_cases h1:x=c[i].Reader
     ·simp [h1]
     ·simp only [if_neg h1];by_cases h2:x=c[i].Writer
      ·simp [h2]
      ·simp only [if_neg h2];exact ih (j+1)
   rcases key o 0 with ⟨h1,h2⟩ | h1
   ·rw [h1,h2];simp only [ah,aF,au];rw [wn (by omega)]
   ·rw [h1];by_cases hb:bef c[i] o=true
    ·simp only [hb,aG,ah]
    ·simp only [hb,au,ah,aF];rw [wn (by omega)]
  ·intro j hj _ _;refine ⟨?_,fun _ _=>trivial⟩;simp only [iZ.s2,iC hj,aG,jc hj,jc hi,ah];by_cases h1:o[j]=c[i].Reader
   ·simp only [h1,di,au,aG,aF]
   ·by_cases h2:o[j]=c[i].Writer
    ·have h3:¬ c[i].Writer=c[i].Reader:=by rw [← h2];exact h1
     simp only [h2,h3,aQ,aG,au]
    ·simp only [h1,h2,aQ,aG,au];rw [wn (by omega)]
  ·intro _ _;simp only [iZ.s2,dh,au]
 ·simp only [iZ.s1,dh,au]
theorem TP {l:List ae} {s:az} {o:List Int} (hf:few l=true) (hb:vU s=true) (ho:o.length < 1000):oW l s o=some (if Sj l s o=0 then Wl (FM l s) o else false,Sj l s o):=by
 obtain ⟨y,y1,y2⟩:=Fh hf hb ho;unfold oW;rw [y1];simp only [ah];by_cases h:Sj l s o=0
 ·have h':=h;unfold Sj at h';split at h'
  ·rename_i h0
   split at h'
   ·rename_i h1
    have A:=asg hb h0;have hp:=BI.1 h1;have hcl:=MK A;simp only [h,di,au,y2 h,aG,ML A,ah];unfold fA aX;obtain ⟨k,hk⟩:=vJ (step:=aX.s1 (FM l s) o) (FM l s) (fun x=>bef x o) (fun i=>Sum.inr i) (Sum.inl ()) (s:=0) rfl (fun i hi=>by
     obtain ⟨cw,cr,hw,hr,_,hc⟩:=SX.1 (dE hi);simp only [aX.s1,iC hi,aG,jc hi,ah,oN,VH ho];rw [SC 0 (by rw [hc];exact hp.mem_iff.2 (Am.2 (by simp;omega))) (by rw [hc];exact hp.mem_iff.2 (Am.2 (by simp;omega)))];by_cases hq:bef (FM l s)[i] o=true
     ·simp only [hq,aG]
     ·simp only [hq,au,aF];rw [wn (by omega)]) (by simp only [aX.s1,dh,au]) (by omega)
    rw [hk];unfold Wl;by_cases hq:(FM l s).any (fun x=>bef x o)=true
    ·simp [hq]
    ·simp [hq]
   ·cases h'
  ·rename_i h0;exact absurd h' h0
 ·simp only [h,aQ,aG,au]
theorem FI (l:List ae) (s:az) (o:List Int):iV l s o=some true:=by
 unfold iV;rw [Xl,YA];simp only [ah,di,au];by_cases hf:few l=true
 ·simp only [hf,di,au,SI,ah];by_cases hb:((!vU s) || decide ((o.length:Int) > 60))=true
  ·simp only [hb,aG]
  ·simp only [hb,au,aF];simp at hb;obtain ⟨hb,hl⟩:=hb;have hl':o.length≤60:=by omega
   simp only [MN hf,Oy hb,vV (show o.length≤16777216 by omega),ah,TP hf hb (show o.length < 1000 by omega),Q5 hf hb (show o.length < 1000 by omega),zT hf hb];unfold iV.j1 Sj;by_cases h:opE l s=0
   ·have A:=asg hb h;have hn:nC l s≤60:=A.n60;simp only [h,aG];rw [show ((sS l s).Offsets.length:Int)=(nC l s:Int) from rfl,Nh (by omega) (by omega)];simp only [ah];by_cases h1:E8 (nC l s) o=true
    ·have hcl:=MK A;simp only [h1,aG,di,au,IP hf hb h,ah,Rw (show (FM l s).length < 16777216 by omega) (show o.length < 16777216 by omega),beq_self_eq_true,Bool.and_self];rw [LG hf hb h (Uk h1) (by omega)];simp only [ah,aF,au];rw [show ZM l s o=o.foldl (fun m k=>U8 l s m m k) l from rfl,RH (Qm A _ _ (Like.refl A.st) (Uk h1)).st];rfl
    ·simp [h1]
   ·simp [h]
 ·simp [hf]
end Go.Sh
