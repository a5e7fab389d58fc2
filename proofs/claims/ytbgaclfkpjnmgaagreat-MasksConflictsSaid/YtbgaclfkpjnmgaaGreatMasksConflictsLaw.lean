/- What the functions compute answers as the statement says. -/
import Derived.Test.YtbgaclfkpjnmgaaGreatMasksConflictsSh
set_option linter.all false
namespace Go.Sh
open Go.Lx
set_option linter.unusedVariables false
set_option linter.unusedSimpArgs false
theorem iZ {i n:Nat} (h:i < n):((i:Int) < (n:Int))=True:=rP (by omega)
theorem dB (n:Nat):((n:Int) < (n:Int))=False:=eq_false (by omega)
theorem Lc {p:List ax} (h:p.length≤16777216):qB p=some p:=by
 unfold qB;rw [OY h];rfl
theorem yx {p:List Int} (h:p.length≤16777216):oI p=some p:=by
 unfold oI;rw [Xo h];simp [RQ]
theorem JX {p:List ax} (h:p.length < 16777216):jM p=some (p.map bg):=by
 unfold jM;rw [wz p bg (fun i b=>(i,b)) (fun b=>b) rfl ?_ ?_ (by omega)]
 ·rfl
 ·intro i hi b hb;simp only [jM.s1,iZ hi,aG,jo hi,ae];rw [jE (by omega),wn (by omega)];rfl
 ·intro b;simp only [jM.s1,dB,aj]
theorem DY {p:List ax} (h:p.length < 16777216):jS p=some (p.map bg):=by
 unfold jS;rw [wz p bg (fun i b=>(i,b)) (fun b=>b) rfl ?_ ?_ (by omega)]
 ·rfl
 ·intro i hi b hb;simp only [jS.s1,iZ hi,aG,jo hi,ae];rw [jE (by omega),wn (by omega)];rfl
 ·intro b;simp only [jS.s1,dB,aj]
theorem UT (p:List Int) (v:Int) (h:p.length < 16777216):∃ k:Nat,slices_Index_int p v=some (if p.any (fun x=>v==x)=true then (k:Int) else -1):=by
 unfold slices_Index_int;obtain ⟨k,hk⟩:=wu (step:=slices_Index_int.s1 p v) p (fun x=>v==x) (fun i=>Sum.inr i) (Sum.inl ()) (s:=0) rfl (fun i hi=>by
  simp only [slices_Index_int.s1,iZ hi,aG,jo hi,ae];by_cases e:v=p[i]
  ·simp [e]
  ·simp only [e,aj,jX];rw [wn (by omega)]) (by simp only [slices_Index_int.s1,dB,aj]) (by omega)
 refine ⟨k,?_⟩;rw [hk];by_cases e:p.any (fun x=>v==x)=true
 ·rw [if_pos e,if_pos e];rfl
 ·rw [if_neg e,if_neg e];rfl
theorem O8 {p:List Int} {v:Int} (h:p.length < 16777216):slices_Contains_int p v=some (p.any (fun x=>v==x)):=by
 unfold slices_Contains_int;obtain ⟨k,hk⟩:=UT p v h;rw [hk];by_cases e:p.any (fun x=>v==x)=true
 ·rw [if_pos e,e];simp
 ·rw [if_neg e,gV e];rfl
def ZL (xs:List Int):Int:=xs.foldl (fun a x=>mn (w (a * mn x 513)) 513) 1
def lF (xs:List Int):Int:=if xs.any (fun x=>0==x)=true then 0 else ZL xs
theorem Kz {p:List Int} (h:p.length < 16777216):jO p=some (lF p):=by
 unfold jO;rw [lL (step:=jO.s1 p) p (fun i b=>(b,i)) (fun b=>b) (fun a x=>mn (w (a * mn x 513)) 513) (fun _ _=>True) (a:=1) rfl ?_ ?_ trivial (by omega)]
 ·simp only [ae,O8 h];unfold lF ZL;split<;>rfl
 ·intro i hi b _;refine ⟨?_,trivial⟩;simp only [jO.s1,iZ hi,aG,jo hi,ae];rw [wn (by omega)]
 ·intro b _;simp only [jO.s1,dB,aj]
theorem OC:∀ (xs:List Int) (i:Nat) (a:Int),iw (ρ:=Unit) (fun _ (b:Int) x=>if x=0 then .inl () else .inr (mn (w (b * mn x 513)) 513)) i xs a=(if xs.any (fun x=>0==x)=true then .inl () else .inr (xs.foldl (fun a x=>mn (w (a * mn x 513)) 513) a))
 | [],i,a=>rfl
 | x::xs,i,a=>by
  simp only [iw,List.any_cons,dY];by_cases e:x=0
  ·subst e;simp
  ·have e':(0==x)=false:=by simp;exact fun q=>e q.symm
   simp only [e,aj,e',Bool.false_or];exact OC xs (i+1) _
theorem zf {p:List Int} (h:p.length < 16777216):jT p=some (lF p):=by
 unfold jT;rw [kP (step:=jT.s1 p) p (fun i b=>(b,i)) (fun (_:Unit)=>Sum.inr 0) (fun b=>Sum.inl b) (fun _ (b:Int) x=>if x=0 then .inl () else .inr (mn (w (b * mn x 513)) 513)) (fun _ _=>True) (a:=1) rfl ?_ ?_ trivial (by omega)]
 ·rw [OC];unfold lF ZL;by_cases e:p.any (fun x=>0==x)=true
  ·simp only [e,aG];rfl
  ·simp only [e,aj];rfl
 ·intro i hi b _;refine ⟨?_,fun _ _=>trivial⟩;simp only [jT.s1,iZ hi,aG,jo hi,ae];by_cases e:p[i]=0
  ·simp only [e,aG]
  ·simp only [e,aj];rw [wn (by omega)]
 ·intro b _;simp only [jT.s1,dB,aj]
def num (b:ax):Bool:=bD b.Low&&bD b.High
def KU (p:List ax):Int:=if (p.length:Int) > 7 then 32 else if p.any (fun b=>!num b)=true then 2 else if p.any (fun b=>decide (bg b > 512))=true then 8 else if lF (p.map bg) > 512 then 8 else 0
theorem D8 (a b c:Int):fD a b c=bu a b c:=by
 unfold fD bu;simp only [Bool.not_or,← decide_not]
 congr 1<;>exact decide_eq_decide.2 (by omega)
theorem ve {α ρ:Type} {p:α→Bool} {c:ρ}:∀ xs:List α,xs.findSome? (fun x=>if p x=true then some c else none)=if xs.any p=true then some c else none
 | []=>rfl
 | x::xs=>by
  simp only [List.findSome?_cons,List.any_cons];by_cases e:p x=true
  ·simp [e]
  ·simp only [e,aj,Bool.false_or];exact ve xs
theorem TY (b:Bool) (c:Int):iF [aK.mk b c]=some (if b=true then 0 else c):=by
 unfold iF;rw [qw (step:=iF.s1 [aK.mk b c]) [aK.mk b c] (fun r=>if r.holds=true then none else some r.code) (fun c=>Sum.inr c) (Sum.inl ()) rfl ?_ ?_ (by simp)]
 ·cases b<;>rfl
 ·intro i hi;simp only [iF.s1,iZ hi,aG,jo hi,ae];have:i=0:=by simpa using hi
  subst this;cases b<;>simp [w,IntKind.wrap]<;>rfl
 ·rfl
theorem UQ (p:List ax) (h:p.length < 16777216):fA p=some (p.any (fun b=>!num b)):=by
 unfold fA bI;obtain ⟨k,hk⟩:=wu (step:=bI.s1 p) p (fun b=>!num b) (fun i=>Sum.inr i) (Sum.inl ()) (s:=0) rfl (fun i hi=>by
  simp only [bI.s1,iZ hi,aG,jo hi,ae];have:lU p[i]=!num p[i]:=by unfold lU num;simp
  rw [this,wn (by omega)];split<;>rfl) (by simp only [bI.s1,dB,aj]) (by omega)
 rw [hk];by_cases e:p.any (fun b=>!num b)=true
 ·rw [if_pos e,e];simp
 ·rw [if_neg e,gV e];rfl
theorem UR (p:List ax) (h:p.length < 16777216):fB p=some (p.any (fun b=>decide (bg b > 512))):=by
 unfold fB bJ;obtain ⟨k,hk⟩:=wu (step:=bJ.s1 p) p (fun b=>decide (bg b > 512)) (fun i=>Sum.inr i) (Sum.inl ()) (s:=0) rfl (fun i hi=>by
  simp only [bJ.s1,iZ hi,aG,jo hi,ae];unfold nY;rw [wn (by omega)];split<;>rfl) (by simp only [bJ.s1,dB,aj]) (by omega)
 rw [hk];by_cases e:p.any (fun b=>decide (bg b > 512))=true
 ·rw [if_pos e,e];simp
 ·rw [if_neg e,gV e];rfl
theorem size_eq {p:List ax} (h:p.length < 16777216):uV p=some (lF (p.map bg)):=by
 unfold uV;rw [JX h];simp only [ae];rw [Kz (by simpa using h)];rfl
theorem Fq (p:List ax):oH p=some (KU p):=by
 unfold oH KU;by_cases h7:(p.length:Int) > 7
 ·simp only [h7,aG]
 ·have h:p.length < 16777216:=by omega
  simp only [h7,aj,UQ p h,UR p h,size_eq h,TY,ae];by_cases e1:p.any (fun b=>!num b)=true
  ·simp only [e1,aG]
  ·simp only [e1,aj];by_cases e2:p.any (fun b=>decide (bg b > 512))=true
   ·simp [e2]
   ·simp only [e2,aj];by_cases e3:lF (p.map bg) > 512
    ·have:¬ lF (p.map bg)≤512:=by omega
     simp [e3,this]
    ·have:lF (p.map bg)≤512:=by omega
     simp [e3,this]
theorem Aj (p:List ax):gJ p=some (KU p):=by
 unfold gJ KU;by_cases h7:(p.length:Int) > 7
 ·simp only [h7,aG]
 ·have h:p.length < 16777216:=by omega
  simp only [h7,aj,DY h,ae];rw [qw (step:=gJ.s1 p) p (fun b=>if (!num b)=true then some (2:Int) else none) (fun c=>Sum.inr c) (Sum.inl ()) rfl ?_ ?_ (by omega),ve]
  ·by_cases e1:p.any (fun b=>!num b)=true
   ·simp only [e1,aG,ae]
   ·simp only [e1,aj,ae];rw [qw (step:=gJ.s2 (p.map bg)) (p.map bg) (fun x=>if (decide (x > 512))=true then some (8:Int) else none) (fun c=>Sum.inr c) (Sum.inl ()) rfl ?_ ?_ (by simp;omega),ve,List.any_map]
    ·by_cases e2:p.any (fun b=>decide (bg b > 512))=true
     ·have e2':p.any ((fun x=>decide (x > 512)) ∘ bg)=true:=e2;simp only [e2,e2',aG,ae,aF,aj]
     ·have e2':¬ p.any ((fun x=>decide (x > 512)) ∘ bg)=true:=e2;simp only [e2,e2',aj,ae,aF];rw [zf (by simpa using h)];simp only [ae];split<;>rfl
    ·intro i hi;simp only [gJ.s2,iZ hi,aG,jo hi,ae];by_cases e:(p.map bg)[i] > 512
     ·simp only [e,aG,decide_true]
     ·simp only [e,aj,decide_false,aF];rw [wn (by simp at hi;omega)]
    ·simp only [gJ.s2,dB,aj]
  ·intro i hi;simp only [gJ.s1,iZ hi,aG,jo hi,ae,eH,D8,num,bD];rw [wn (by omega)];by_cases e1:bu p[i].Low (-2147483647) 2147483647=true
   ·by_cases e2:bu p[i].High (-2147483647) 2147483647=true
    ·simp [e1,e2]
    ·simp [e1,e2]
   ·simp [e1]
  ·simp only [gJ.s1,dB,aj]
set_option linter.unusedVariables false
set_option linter.unusedSimpArgs false
theorem MZ:∀ (n:Nat) (a b:List Int),a.length < n→n≤16777217→b.length < 16777216→∃ r,fC.N n a b=some r∧(r=true→a≠b)
 | 0,a,b,h,_,_=>absurd h (Nat.not_lt_zero _)
 | n+1,a,b,h,hn,hb=>by
  show ∃ r,fC.F (fC.N n) a b=some r∧_
  unfold fC.F
  match a,b with
  | [],b=>exact ⟨_,rfl,fun h=>by simp at h;intro q;subst q;simp at h⟩
  | x::a,[]=>exact ⟨_,rfl,fun h=>by simp at h;omega⟩
  | x::a,y::b =>
   have e0:¬ ((((x::a).length:Int)==0) || (((y::b).length:Int)==0))=true:=by simp;omega
   have c1:cut (x::a) 1 ((x::a).length:Int)=some a:=by unfold cut;rw [if_pos (by simp;omega)];simp
   have c2:cut (y::b) 1 ((y::b).length:Int)=some b:=by unfold cut;rw [if_pos (by simp;omega)];simp
   have a1:at_ (x::a) 0=some x:=rfl;have a2:at_ (y::b) 0=some y:=rfl;rw [if_neg e0];simp only [a1,a2,ae];by_cases h1:x < y
   ·exact ⟨true,by simp [h1],fun _ q=>by simp at q;omega⟩
   ·by_cases h2:x=y
    ·obtain ⟨r,h3,h4⟩:=MZ n a b (by simp at h;omega) (by omega) (by simp at hb;omega);refine ⟨r,?_,fun hr q=>h4 hr (by simp at q;exact q.2)⟩;subst h2;rw [if_neg h1,if_pos rfl,c1,c2];simp only [ae,h3]
    ·exact ⟨false,by simp [h1,h2],fun q=>by cases q⟩
theorem JV:∀ (n m:Nat) (a b:List Int),fC.N n a b=some false→fC.N m b a=some false→a.length=b.length→a=b
 | 0,m,a,b,h,_,_=>by cases h
 | n+1,0,a,b,_,h,_=>by cases h
 | n+1,m+1,a,b,h,k,hl=>by
  change fC.F (fC.N n) a b=some false at h;change fC.F (fC.N m) b a=some false at k;unfold fC.F at h k
  match a,b,hl with
  | [],[],_=>rfl
  | x::a,y::b,hl =>
   have e0:¬ ((((x::a).length:Int)==0) || (((y::b).length:Int)==0))=true:=by simp;omega
   have e1:¬ ((((y::b).length:Int)==0) || (((x::a).length:Int)==0))=true:=by simp;omega
   have c1:cut (x::a) 1 ((x::a).length:Int)=some a:=by unfold cut;rw [if_pos (by simp;omega)];simp
   have c2:cut (y::b) 1 ((y::b).length:Int)=some b:=by unfold cut;rw [if_pos (by simp;omega)];simp
   have a1:at_ (x::a) 0=some x:=rfl;have a2:at_ (y::b) 0=some y:=rfl;rw [if_neg e0] at h;rw [if_neg e1] at k;simp only [a1,a2,ae,c1,c2] at h k;by_cases h1:x < y
   ·simp [h1] at h
   ·by_cases h2:y < x
    ·simp [h2] at k
    ·have h3:x=y:=by omega
     subst h3;simp only [h1,aj,aG] at h k;obtain ⟨r,hr,h⟩:=fK.1 h;obtain ⟨r',hr',k⟩:=fK.1 k;cases h;cases k;rw [JV n m a b hr hr' (by simpa using hl)]
theorem PM {a b:List Int} (ha:a.length < 16777216) (hb:b.length < 16777216):pG a b=some (a==b):=by
 unfold pG;have hF:(16777217:Nat)≤FUEL:=by unfold FUEL;omega
 have step:∀ (n:Nat) (a b:List Int) (r:Bool),fC.N n a b=some r→fC.N (n+1) a b=some r:=by
  intro n
  induction n with
  | zero=>intro a b r h;cases h
  | succ n ih =>
   intro a b r h;change fC.F (fC.N n) a b=some r at h
   show fC.F (fC.N (n+1)) a b=some r
   unfold fC.F at h ⊢;split
   ·rename_i hc;rw [if_pos hc] at h;exact h
   ·rename_i hc
    rw [if_neg hc] at h;obtain ⟨x4,h4,h⟩:=fK.1 h;obtain ⟨x5,h5,h⟩:=fK.1 h;rw [h4,h5];simp only [ae];split
    ·rename_i hd;rw [if_pos hd] at h;exact h
    ·rename_i hd
     rw [if_neg hd] at h;rw [h4,h5] at h;simp only [ae] at h ⊢;split
     ·rename_i he
      rw [if_pos he] at h;obtain ⟨x6,h6,h⟩:=fK.1 h;obtain ⟨x7,h7,h⟩:=fK.1 h;obtain ⟨x8,h8,h⟩:=fK.1 h;rw [h6,h7];simp only [ae];rw [ih _ _ _ h8];exact h
     ·rename_i he;rw [if_neg he] at h;exact h
 have up:∀ (n m:Nat) (a b:List Int) (r:Bool),n≤m→fC.N n a b=some r→fC.N m a b=some r:=by
  intro n m a b r hnm h
  induction hnm with
  | refl=>exact h
  | step _ ih=>exact step _ _ _ _ ih
 have get:∀ a b:List Int,a.length < 16777216→b.length < 16777216→∃ r,fC a b=some r∧(r=true→a≠b):=by
  intro a b ha hb;obtain ⟨r,h1,h2⟩:=MZ 16777217 a b (by omega) (aZ _) hb;exact ⟨r,up _ _ _ _ _ hF h1,h2⟩
 by_cases hl:(a.length:Int)=(b.length:Int)
 ·rw [if_pos hl];obtain ⟨r,h1,h2⟩:=get a b ha hb;obtain ⟨r',h3,h4⟩:=get b a hb ha;rw [h1,h3];simp only [ae];cases r with
  | true=>simp;exact h2 rfl
  | false =>
   cases r' with
   | true=>simp;exact fun q=>h4 rfl q.symm
   | false=>simp;exact JV _ _ _ _ h1 h3 (by omega)
 ·rw [if_neg hl];have:a≠b:=fun q=>hl (by rw [q])
  simp [this]
set_option linter.unusedVariables false
set_option linter.unusedSimpArgs false
def P:List Int→Int
 | []=>1
 | x::xs=>x * P xs
def H:List Int→List Int→Int
 | e::es,d::ds=>d+e * H es ds
 | _,_=>0
def dig:List Int→Int→List Int
 | [],_=>[]
 | e::es,n=>n % e::dig es (n / e)
def inBase:List Int→List Int→Prop
 | e::es,d::ds=>0≤d∧d < e∧inBase es ds
 | [],[]=>True
 | _,_=>False
theorem Rz:∀ {es:List Int},(∀ e,e∈es→1≤e)→1≤P es
 | [],_=>Int.le_refl 1
 | e::es,h=>by
  have h1:=h e (.head _);have h2:=Rz (es:=es) fun x hx=>h x (.tail _ hx)
  have:=Int.mul_le_mul h1 h2 (by omega) (by omega);simpa [P] using this
theorem Zz {e:Int} {es:List Int} (h:∀ x,x∈e::es→1≤x):P es≤P (e::es):=by
 have h1:=h e (.head _);have h2:=Rz (es:=es) fun x hx=>h x (.tail _ hx)
 have:=Int.mul_le_mul h1 (Int.le_refl (P es)) (by omega) (by omega);simpa [P] using this
theorem Ew:∀ {es ds:List Int},inBase es ds→∀ e,e∈es→1≤e
 | [],_,_,e,h=>by cases h
 | e::es,[],h,_,_=>by cases h
 | e::es,d::ds,⟨h1,h2,h3⟩,x,hx=>by
  cases hx with
  | head=>omega
  | tail _ hx=>exact Ew h3 x hx
theorem KJ:∀ {es ds:List Int},inBase es ds→0≤H es ds∧H es ds < P es
 | [],[],_=>by simp [H,P]
 | [],_::_,h=>by cases h
 | e::es,[],h=>by cases h
 | e::es,d::ds,⟨h1,h2,h3⟩=>by
  obtain ⟨i1,i2⟩:=KJ h3;have a1:0≤e * H es ds:=Int.mul_nonneg (by omega) i1;have a2:e * H es ds≤e * (P es - 1):=jv (by omega) (by omega);rw [Int.mul_sub,Int.mul_one] at a2;simp only [H,P];omega
theorem X7:∀ {es:List Int} {n:Int},(∀ e,e∈es→1≤e)→0≤n→n < P es→inBase es (dig es n)∧H es (dig es n)=n
 | [],n,_,h1,h2=>by simp [P] at h2;simp [inBase,dig,H];omega
 | e::es,n,h,h1,h2=>by
  have he:=h e (.head _);have g1:0≤n / e:=Int.ediv_nonneg h1 (by omega);have g2:n / e < P es:=Int.ediv_lt_of_lt_mul (by omega) (by simp only [P] at h2;rw [Int.mul_comm];exact h2);obtain ⟨i1,i2⟩:=X7 (es:=es) (fun x hx=>h x (.tail _ hx)) g1 g2;refine ⟨⟨Int.emod_nonneg _ (by omega),Int.emod_lt_of_pos _ (by omega),i1⟩,?_⟩;simp only [dig,H,i2];exact Int.emod_add_mul_ediv n e
theorem Uo:∀ (es:List Int) (n:Int),(dig es n).length=es.length
 | [],n=>rfl
 | e::es,n=>by simp [dig,Uo es]
theorem TG:∀ {es:List Int},(∃ e,e∈es∧e=0)→P es=0
 | [],h=>by obtain ⟨e,h,_⟩:=h;cases h
 | e::es,h=>by
  obtain ⟨x,hx,rfl⟩:=h;cases hx with
  | head=>simp [P]
  | tail _ hx=>rw [P,TG ⟨0,hx,rfl⟩];simp
theorem min_mul {a b m:Int} (ha:1≤a) (hb:1≤b) (hm:0≤m):min (min a m * b) m=min (a * b) m:=by
 rcases Int.le_total a m with h | h
 ·rw [Int.min_eq_left h]
 ·rw [Int.min_eq_right h];have h1:m * 1≤m * b:=jv hb hm;have h2:m * b≤a * b:=Int.mul_le_mul_of_nonneg_right h (by omega);omega
theorem O3:∀ {xs:List Int} {a:Int},(∀ x,x∈xs→1≤x∧x≤512)→1≤a→a≤513→xs.foldl (fun a x=>mn (w (a * mn x 513)) 513) a=min (a * P xs) 513
 | [],a,_,h1,h2=>by simp [P];omega
 | x::xs,a,h,h1,h2=>by
  obtain ⟨g1,g2⟩:=h x (.head _);have m1:mn x 513=x:=by unfold mn;rw [if_neg (by omega)]
  have b1:1 * 1≤a * x:=Int.mul_le_mul h1 g1 (by omega) (by omega);have b2:a * x≤513 * 512:=Int.mul_le_mul h2 g2 (by omega) (by omega);have m2:mn (w (a * x)) 513=min (a * x) 513:=by
   rw [uF (by omega) (by omega)];unfold mn;split<;>omega
  rw [dY,m1,m2,O3 (fun y hy=>h y (.tail _ hy)) (by omega) (by omega)];have hp:=Rz (es:=xs) fun y hy=>(h y (.tail _ hy)).1
  rw [min_mul (by omega) hp (by omega),P,Int.mul_assoc]
structure Ok (p:List ax):Prop where
 len:p.length≤7
 num:∀ b,b∈p→num b=true
 big:∀ b,b∈p→bg b≤512
 pos:∀ b,b∈p→0≤bg b
 sz:lF (p.map bg)≤512
theorem Sl (b:ax):0≤bg b:=by unfold bg mx;split<;>omega
theorem BH {p:List ax} (h:KU p=0):Ok p:=by
 unfold KU at h;split at h
 ·cases h
 split at h
 ·cases h
 split at h
 ·cases h
 split at h
 ·cases h
 rename_i h1 h2 h3 h4
 refine ⟨by omega,fun b hb=>?_,fun b hb=>?_,fun b _=>Sl b,by omega⟩
 ·simp only [gY,not_exists,not_and,jU,Bool.not_eq_false] at h2;exact h2 b hb
 ·simp only [gY,not_exists,not_and,fE] at h3;have:=h3 b hb;omega
theorem N9 {b:ax} (h:num b=true) : -2147483647≤b.Low∧b.Low≤2147483647 ∧ -2147483647≤b.High∧b.High≤2147483647:=by
 simp [num,bD,bu] at h;omega
theorem YH {b:ax} (h:num b=true):bg b=max 0 (b.High - b.Low+1):=by
 have:=N9 h;unfold bg mx;rw [uF (n:=b.High - b.Low) (by omega) (by omega),uF (by omega) (by omega)];split<;>omega
theorem PX {xs:List Int} (h:∀ x,x∈xs→0≤x∧x≤512) (hs:lF xs≤512):lF xs=P xs∧0≤P xs:=by
 unfold lF at hs ⊢;by_cases h0:xs.any (fun x=>0==x)=true
 ·rw [if_pos h0];have:P xs=0:=TG (by
   simp only [gY,jX] at h0;obtain ⟨x,h1,h2⟩:=h0;exact ⟨x,h1,h2.symm⟩)
  omega
 ·rw [if_neg h0] at hs ⊢;have hx:∀ x,x∈xs→1≤x∧x≤512:=fun x hx=>by
   obtain ⟨h1,h2⟩:=h x hx;simp only [gY,not_exists,not_and,jX] at h0;have:=h0 x hx;omega
  have:=O3 (a:=1) hx (by omega) (by omega);unfold ZL at hs ⊢;have hp:=Rz fun x hq=>(hx x hq).1
  omega
theorem Ok.size {p:List ax} (h:Ok p):lF (p.map bg)=P (p.map bg)∧0≤P (p.map bg)∧P (p.map bg)≤512:=by
 have:=PX (xs:=p.map bg) (fun x hx=>by
  obtain ⟨b,hb,rfl⟩:=gU.1 hx;exact ⟨h.pos b hb,h.big b hb⟩) h.sz
 have hs:=h.sz;omega
def allIn:List ax→List Int→Bool
 | b::bs,x::xs=>bu x b.Low b.High&&allIn bs xs
 | _,_=>true
def WF (bs:List ax) (xs:List Int):List Int:=(xs.zip bs).map fun p=>w (p.1 - p.2.Low)
def exs (bs:List ax):List Int:=bs.map bg
theorem WJ {b:ax} {bs:List ax}:exs (b::bs)=bg b::exs bs:=rfl
theorem Us {b:ax} {bs:List ax} {x:Int} {xs:List Int}:WF (b::bs) (x::xs)=w (x - b.Low)::WF bs xs:=rfl
theorem QN {b:ax} {x:Int} (hn:num b=true) (h:bu x b.Low b.High=true):w (x - b.Low)=x - b.Low∧0≤x - b.Low∧x - b.Low < bg b:=by
 have:=N9 hn;have he:=YH hn;simp [bu] at h;refine ⟨uF (by omega) (by omega),by omega,by omega⟩
theorem Aw:∀ {bs:List ax} {xs:List Int},bs.length=xs.length→(∀ b,b∈bs→num b=true)→allIn bs xs=true→inBase (exs bs) (WF bs xs)
 | [],[],_,_,_=>trivial
 | b::bs,x::xs,hl,hn,h=>by
  simp only [allIn,aS] at h;obtain ⟨h1,h2,h3⟩:=QN (hn b (.head _)) h.1;refine ⟨by show 0≤w (x - b.Low);rw [h1];exact h2,by show w (x - b.Low) < _;rw [h1];exact h3,Aw (by simpa using hl) (fun c hc=>hn c (.tail _ hc)) h.2⟩
 | [],_::_,hl,_,_=>by cases hl
 | _::_,[],hl,_,_=>by cases hl
def str:Int→List Int→List Int
 | _,[]=>[]
 | s,e::es=>s::str (w (s * e)) es
theorem Qm:∀ (es:List Int) (s:Int),(str s es).length=es.length
 | [],s=>rfl
 | e::es,s=>by simp [str,Qm es]
theorem Rq:∀ (es:List Int) (s:Int) (acc:List Int),(es.foldl (fun (b:Int×List Int) e=>(w (b.1 * e),b.2++[b.1])) (s,acc)).2=acc++str s es
 | [],s,acc=>by simp [str]
 | e::es,s,acc=>by rw [dY,Rq es];simp [str]
theorem Tv {p:List Int} (h:p.length < 16777216):kF p=some (str 1 p):=by
 unfold kF;rw [lL (step:=kF.s1 p) p (fun i (b:Int×List Int)=>(b.1,i,b.2)) (fun b=>b.2) (fun b e=>(w (b.1 * e),b.2++[b.1])) (fun i b=>b.2.length=i) (a:=(1,[])) rfl ?_ ?_ rfl (by omega)]
 ·simp only [ae];rw [Rq];rfl
 ·intro i hi b hb;refine ⟨?_,by simp [hb]⟩;simp only [kF.s1,iZ hi,aG,jo hi,ae];rw [jE (by omega),wn (by omega)];rfl
 ·intro b _;simp only [kF.s1,dB,aj]
def Xt (_:Nat) (a:Int) (t:Int×ax×Int):Sum Unit Int:=if bu t.1 t.2.1.Low t.2.1.High=true then .inr (w (a+w (t.2.2 * w (t.1 - t.2.1.Low)))) else .inl ()
theorem Rf:∀ (bs:List ax) (xs:List Int) (s a:Int) (i:Nat),bs.length=xs.length→(∀ b,b∈bs→num b=true) →
  (allIn bs xs=false→iw Xt i (xs.zip (bs.zip (str s (exs bs)))) a = .inl ()) ∧
  (allIn bs xs=true→1≤s→s * P (exs bs)≤512→0≤a→a+512 * bs.length≤5000→iw Xt i (xs.zip (bs.zip (str s (exs bs)))) a = .inr (a+s * H (exs bs) (WF bs xs)))
 | [],[],s,a,i,_,_=>⟨fun h=>(by cases h),fun _ _ _ _ _=>by simp [iw,exs,WF,H]⟩
 | [],_::_,_,_,_,hl,_=>by cases hl
 | _::_,[],_,_,_,hl,_=>by cases hl
 | b::bs,x::xs,s,a,i,hl,hn=>by
  have ih:=fun s a=>Rf bs xs s a (i+1) (by simpa using hl) (fun c hc=>hn c (.tail _ hc))
  simp only [WJ,str,List.zip_cons_cons,iw];by_cases hi:bu x b.Low b.High=true
  ·have hf:Xt i a (x,b,s) = .inr (w (a+w (s * w (x - b.Low)))):=by unfold Xt;rw [if_pos hi]
   rw [hf];refine ⟨fun h=>(ih _ _).1 (by simpa [allIn,hi] using h),fun h h1 h2 h3 h4=>?_⟩;have ha:allIn bs xs=true:=by simpa [allIn,hi] using h
   obtain ⟨d1,d2,d3⟩:=QN (hn b (.head _)) hi;have hb:=Aw (by simpa using hl) (fun c hc=>hn c (.tail _ hc)) ha;have hp:1≤P (exs bs):=Rz (Ew hb);have e0:s * P (bg b::exs bs)=s * bg b * P (exs bs):=by simp [P,Int.mul_assoc]
   have e1:1 * 1≤s * bg b:=Int.mul_le_mul h1 (by omega) (by omega) (by omega);have e2:s * bg b * 1≤s * bg b * P (exs bs):=jv hp (by omega);have e3:s * (x - b.Low)≤s * bg b:=jv (by omega) (by omega);have e4:0≤s * (x - b.Low):=Int.mul_nonneg (by omega) d2;rw [e0] at h2;simp only [dU] at h4;have w1:w (s * bg b)=s * bg b:=uF (by omega) (by omega);have w2:w (s * w (x - b.Low))=s * (x - b.Low):=by rw [d1];exact uF (by omega) (by omega)
   have w3:w (a+s * (x - b.Low))=a+s * (x - b.Low):=uF (by omega) (by omega);simp only [w1,w2,w3];have:=(ih (s * bg b) (a+s * (x - b.Low))).2 ha (by omega) h2 (by omega) (by omega);rw [this,Us,H,d1,Int.mul_add,← Int.mul_assoc,Int.add_assoc]
  ·have hf:Xt i a (x,b,s) = .inl ():=by unfold Xt;rw [if_neg hi]
   rw [hf];exact ⟨fun _=>rfl,fun h=>by simp [allIn,hi] at h⟩
def aar (bs:List ax) (xs:List Int):Int:=if KU bs≠0 then KU bs else if (xs.length:Int)≠(bs.length:Int) then 32 else if allIn bs xs=true then 0 else 33
def off (bs:List ax) (xs:List Int):Int:=H (exs bs) (WF bs xs)
set_option linter.unusedVariables false
set_option linter.unusedSimpArgs false
theorem Pm {p:List ax} (h:p.length < 16777216):jM p=some (exs p):=JX h
theorem BC {p:List ax} (h:p.length < 16777216):jS p=some (exs p):=DY h
theorem Ic:∀ {es ds:List Int},inBase es ds→P es≤512→(∀ e,e∈es→e≤512)→(es.zip ds).foldr (fun (t:Int×Int) b=>w (w (b * t.1)+t.2)) 0=H es ds
 | [],[],_,_,_=>rfl
 | [],_::_,h,_,_=>by cases h
 | _::_,[],h,_,_=>by cases h
 | e::es,d::ds,h,hp,hb=>by
  have hpos:=Ew h;have ht:=Zz hpos;have hr:=KJ h;obtain ⟨h1,h2,h3⟩:=h;have hq:=KJ h3;rw [List.zip_cons_cons,List.foldr_cons,Ic h3 (by omega) (fun x hx=>hb x (.tail _ hx))];simp only [H] at hr ⊢;rw [Int.mul_comm e] at hr;have e0:0≤H es ds * e:=Int.mul_nonneg hq.1 (by omega);have e1:w (H es ds * e)=H es ds * e:=uF (by omega) (by omega);rw [e1,uF (by omega) (by omega),Int.mul_comm e];omega
theorem P6 {es ds:List Int} (h:inBase es ds) (hp:P es≤512) (hb:∀ e,e∈es→e≤512) (hl:es.length=ds.length) (hn:es.length < 16777216):mX es ds=some (H es ds):=by
 unfold mX;have hlen:(es.zip ds).reverse.length=es.length:=by simp;omega
 rw [lL (step:=mX.s1 es ds) (es.zip ds).reverse (fun i (b:Int)=>(b,(es.length:Int) - 1 - i)) (fun b=>b) (fun b (t:Int×Int)=>w (w (b * t.1)+t.2)) (fun _ _=>True) (a:=0) (by rw [uF (by omega) (by omega)];simp) ?_ ?_ trivial (by omega)]
 ·rw [List.foldl_reverse,Ic h hp hb];rfl
 ·intro i hi b _;refine ⟨?_,trivial⟩;rw [hlen] at hi;have c:((es.length:Int) - 1 - (i:Int))=((es.length - 1 - i:Nat):Int):=by omega
  have k:es.length - 1 - i < es.length:=by omega
  have k2:es.length - 1 - i < ds.length:=by omega
  simp only [mX.s1,c];rw [if_pos (by omega),jo k,jo k2];simp only [ae];have hz:(es.zip ds).reverse[i]'(by omega)=(es[es.length - 1 - i],ds[es.length - 1 - i]):=by
   rw [List.getElem_reverse];simp only [List.getElem_zip,List.length_zip];have:min es.length ds.length - 1 - i=es.length - 1 - i:=by omega
   simp only [this]
  rw [hz];have e2:w (((es.length - 1 - i:Nat):Int) - 1)=(es.length:Int) - 1 - ((i+1:Nat):Int):=by rw [uF (by omega) (by omega)];omega
  rw [e2]
 ·intro b _;rw [hlen];simp only [mX.s1];rw [if_neg (by omega)]
theorem Oo {bs:List ax} {xs:List Int} (h:aar bs xs=0):mD bs xs=some (off bs xs):=by
 unfold aar at h;split at h
 ·rename_i hb;exact absurd h hb
 rename_i hb
 split at h
 ·cases h
 rename_i hl
 split at h
 ·rename_i ha
  have ok:=BH (aI.1 hb);have hl7:=ok.len;have hll:bs.length=xs.length:=by omega
  have hlen:(xs.zip bs).length=bs.length:=by simp;omega
  unfold mD;rw [wz (step:=mD.s1 bs xs) (xs.zip bs) (fun p=>w (p.1 - p.2.Low)) (fun i b=>(i,b)) (fun b=>b) rfl ?_ ?_ (by omega)]
  ·simp only [ae];rw [BC (by omega)];simp only [ae];have hsz:=ok.size
   show ((mX (exs bs) (WF bs xs)).bind fun x8=>some x8)=_
   rw [P6 (es:=exs bs) (ds:=WF bs xs) (Aw hll ok.num ha) hsz.2.2 (fun e he=>by obtain ⟨b,hb,rfl⟩:=gU.1 he;exact ok.big b hb) (by simp [exs,WF];omega) (by simp [exs];omega)];rfl
  ·intro i hi b hbl;rw [hlen] at hi;have h1:i < xs.length:=by omega
   simp only [mD.s1,iZ hi,aG,jo hi,jo h1,ae,List.getElem_zip];rw [jE (by omega),wn (by omega)];rfl
  ·intro b;rw [hlen];simp only [mD.s1,dB,aj]
 ·cases h
theorem Lh:∀ (es:List Int) (n:Int) (acc:List Int),(es.foldl (fun (b:Int×List Int) e=>(b.1 / e,b.2++[b.1 % e])) (n,acc)).2=acc++dig es n
 | [],n,acc=>by simp [dig]
 | e::es,n,acc=>by rw [dY,Lh es];simp [dig]
theorem X8 {n e:Int} (hn:0≤n) (hb:n≤4611686018427387904) (he:1≤e):rem n e=some (n % e)∧quo .i64 n e=some (n / e)∧0≤n / e∧n / e≤n:=by
 have h0:¬ e=0:=by omega
 have h1:0≤n / e:=Int.ediv_nonneg hn (by omega);have h2:n / e≤n:=Int.ediv_le_self e hn;refine ⟨by unfold rem;rw [if_neg h0,Int.tmod_eq_emod_of_nonneg hn],?_,h1,h2⟩;unfold quo;rw [if_neg h0,Int.tdiv_eq_ediv_of_nonneg hn];exact congrArg some (uF (n:=n / e) (by omega) (by omega))
theorem Ur {es:List Int} {n:Int} (h:∀ e,e∈es→1≤e) (h0:0≤n) (hb:n≤4611686018427387904) (hl:es.length < 16777216):lm es n=some (dig es n):=by
 unfold lm;rw [lL (step:=lm.s1 es) es (fun i (b:Int×List Int)=>(b.1,i,b.2)) (fun b=>b.2) (fun b e=>(b.1 / e,b.2++[b.1 % e])) (fun i b=>b.2.length=i∧0≤b.1∧b.1≤4611686018427387904) (a:=(n,[])) rfl ?_ ?_ ⟨rfl,h0,hb⟩ (by omega)]
 ·simp only [ae];rw [Lh];rfl
 ·rintro i hi b ⟨k1,k2,k3⟩
  obtain ⟨d1,d2,d3,d4⟩:=X8 k2 k3 (h es[i] (dH hi));refine ⟨?_,by simp [k1],d3,by simp only;omega⟩;simp only [lm.s1,iZ hi,aG,jo hi,ae,d1,d2];rw [jE (by omega),wn (by omega)];rfl
 ·intro b _;simp only [lm.s1,dB,aj]
theorem Me {es:List Int} {n:Int} (h:∀ e,e∈es→1≤e) (h0:0≤n) (hb:n≤4611686018427387904) (hl:es.length < 16777216):kZ es n=some (dig es n):=by
 unfold kZ;rw [lL (step:=kZ.s1 es) es (fun i (b:Int×List Int)=>(b.1,i,b.2)) (fun b=>b.2) (fun b e=>(b.1 / e,b.2++[b.1 % e])) (fun i b=>b.2.length=i∧0≤b.1∧b.1≤4611686018427387904) (a:=(n,[])) rfl ?_ ?_ ⟨rfl,h0,hb⟩ (by omega)]
 ·simp only [ae];rw [Lh];rfl
 ·rintro i hi b ⟨k1,k2,k3⟩
  obtain ⟨d1,d2,d3,d4⟩:=X8 k2 k3 (h es[i] (dH hi));refine ⟨?_,by simp [k1],d3,by simp only;omega⟩;simp only [kZ.s1,iZ hi,aG,jo hi,ae,d1,d2];rw [jE (by omega)];simp only [ae];rw [wn (by omega)]
 ·intro b _;simp only [kZ.s1,dB,aj]
set_option linter.unusedVariables false
set_option linter.unusedSimpArgs false
def Ws (xs:List Int):Sum Nat Unit:=iw (fun i b x=>if eU x=true then .inr b else .inl i) 0 xs ()
def chk (a:ah):Int×Int :=
 if KU a.Bounds≠0 then (0,KU a.Bounds)
 else if (a.Elements.length:Int)≠lF (exs a.Bounds) then (0,10)
 else match Ws a.Elements with | .inl i=>((i:Int),2) | .inr _=>(0,0)
theorem NI (x:Int):lg x=eU x:=by unfold lg eU;exact D8 _ _ _
theorem La {a:ah} (h:a.Elements.length < 16777216):pW a=some (chk a):=by
 unfold pW chk;rw [Fq];simp only [ae];by_cases hb:KU a.Bounds=0
 ·have hl7:=(BH hb).len;simp only [hb,dh,aj,ne_eq];rw [size_eq (by omega)];simp only [ae];by_cases hl:(a.Elements.length:Int)=lF (exs a.Bounds)
  ·have hl':(a.Elements.length:Int)=lF (a.Bounds.map bg):=hl;simp only [hl',hl,dh,aj];unfold cO;rw [kP (step:=cO.s1 a.Elements) a.Elements (fun i (_:Unit)=>i) (fun k:Nat=>Sum.inr ((k:Int),2)) (fun _=>Sum.inl ()) (fun i b x=>if eU x=true then .inr b else .inl i) (fun _ _=>True) (a:=()) rfl ?_ ?_ trivial (by omega)]
   ·unfold Ws;cases iw (fun i b x=>if eU x=true then Sum.inr b else Sum.inl i) 0 a.Elements ()<;>simp [hl,exs]
   ·intro i hi b _;refine ⟨?_,fun _ _=>trivial⟩;simp only [cO.s1,iZ hi,aG,jo hi,ae,pz,TY];by_cases hq:eU a.Elements[i]=true
    ·simp only [hq,aG,dh,aj];rw [wn (by omega)]
    ·simp only [hq,aj,aF];simp
   ·intro b _;simp only [cO.s1,dB,aj]
  ·have hl':¬ (a.Elements.length:Int)=lF (a.Bounds.map bg):=hl;simp [hl',hl,exs]
 ·simp [hb]
theorem P5 {a:ah} (h:a.Elements.length < 16777216):nU a=some (chk a):=by
 unfold nU chk;rw [Aj];simp only [ae];by_cases hb:KU a.Bounds=0
 ·have hl7:=(BH hb).len;simp only [hb,dh,aj,ne_eq];rw [BC (by omega)];simp only [ae];rw [zf (by simp [exs];omega)];simp only [ae];by_cases hl:(a.Elements.length:Int)=lF (exs a.Bounds)
  ·simp only [hl,dh,aj];rw [kP (step:=nU.s1 a) a.Elements (fun i (_:Unit)=>i) (fun k:Nat=>Sum.inr ((k:Int),2)) (fun _=>Sum.inl ()) (fun i b x=>if eU x=true then .inr b else .inl i) (fun _ _=>True) (a:=()) rfl ?_ ?_ trivial (by omega)]
   ·unfold Ws;cases iw (fun i b x=>if eU x=true then Sum.inr b else Sum.inl i) 0 a.Elements ()<;>rfl
   ·intro i hi b _;refine ⟨?_,fun _ _=>trivial⟩;simp only [nU.s1,iZ hi,aG,jo hi,ae,NI];by_cases hq:eU a.Elements[i]=true
    ·simp only [hq,aG,dh,aj];rw [wn (by omega)]
    ·simp only [hq,aj,aF,aU,aG]
   ·intro b _;simp only [nU.s1,dB,aj]
  ·simp [hl]
 ·simp [hb]
theorem Vu {a:ah} (h:a.Elements.length < 16777216):Ai a=some (chk a).2:=by
 unfold Ai;rw [P5 h];rfl
theorem SX {a:ah} (h1:a.Bounds.length≤16777216) (h:a.Elements.length < 16777216):xZ a=some a:=by
 unfold xZ;rw [Lc h1,yx (by omega)];rfl
set_option linter.unusedVariables false
set_option linter.unusedSimpArgs false
theorem YD (a b c:Bool):iF [aK.mk a 3,aK.mk b 11,aK.mk c 2]=some (if a=true then (if b=true then (if c=true then 0 else 2) else 11) else 3):=by
 cases a<;>cases b<;>cases c<;>decide +kernel
def YR (s:az):Bool:=(((s.Kind != 2) || (s.Low==0))&&((s.Kind==1) || ((s.High==0)&&(s.Step==0))))&&((s.Kind==2) || ((s.List.length:Int)==0))
def nums (s:az):Bool:=bD s.Low&&bD s.High&&bD s.Step
def VD (s:az):Int:=if ¬ bu s.Kind 0 2=true then 15 else if YR s=false then 3 else if (s.Kind==1&&s.Step==0)=true then 11 else if nums s=true then 0 else 2
theorem Jl (s:az):nZ s=some (VD s):=by
 unfold nZ VD;have hf:((((s.Kind != 2) || (s.Low==0))&&((s.Kind==1) || ((s.High==0)&&(s.Step==0))))&&((s.Kind==2) || ((s.List.length:Int)==0)))=YR s:=rfl;simp only [hf,YD];by_cases hk:bu s.Kind 0 2=true
 ·simp only [hk,dh,aj];unfold nums;cases YR s
  ·simp only [aF,aj,aG,ae]
   repeat' split
   all_goals rfl
  ·by_cases h1:s.Kind=1
   ·by_cases h2:s.Step=0
    ·simp [h1,h2]
    ·by_cases h3:bD s.Low=true
     ·by_cases h4:bD s.High=true
      ·by_cases h5:bD s.Step=true<;>simp [h1,h2,h3,h4,h5]
      ·simp [h1,h2,h3,h4]
     ·simp [h1,h2,h3]
   ·by_cases h3:bD s.Low=true
    ·by_cases h4:bD s.High=true
     ·by_cases h5:bD s.Step=true<;>simp [h1,h3,h4,h5]
     ·simp [h1,h3,h4]
    ·simp [h1,h3]
 ·simp only [hk,aU,aG,aF]
theorem KG {a b:Int} (hb:1≤b) : -(a.natAbs:Int)≤a.tdiv b∧a.tdiv b≤a.natAbs:=by
 rcases Int.le_total 0 a with h | h
 ·rw [Int.tdiv_eq_ediv_of_nonneg h];have h1:0≤a / b:=Int.ediv_nonneg h (by omega);have h2:a / b≤a:=Int.ediv_le_self b h;omega
 ·have e:a.tdiv b = -((-a).tdiv b):=by rw [Int.neg_tdiv];omega
  rw [e,Int.tdiv_eq_ediv_of_nonneg (by omega)];have h1:0≤(-a) / b:=Int.ediv_nonneg (by omega) (by omega);have h2:(-a) / b ≤ -a:=Int.ediv_le_self b (by omega);omega
theorem Vs {a b:Int} (ha : -1099511627776≤a∧a≤1099511627776) (hb:1≤b):quo .i64 a b=some (a.tdiv b):=by
 have:=KG (a:=a) hb;unfold quo;rw [if_neg (by omega)];exact congrArg some (uF (n:=a.tdiv b) (by omega) (by omega))
theorem QJ {a b:Int} (ha : -1099511627776≤a∧a≤1099511627776) (hb:1≤b):wF a b=some (a / b):=by
 unfold wF;rw [Vs ha hb];have hr:rem a b=some (a.tmod b):=by unfold rem;rw [if_neg (by omega)]
 rw [hr];simp only [ae];have t:=KG (a:=a) hb;have e1:=Int.tdiv_eq_ediv (a:=a) (b:=b);have e2:=Int.tmod_eq_emod (a:=a) (b:=b);have m1:=Int.emod_nonneg a (b:=b) (by omega);have m2:=Int.emod_lt_of_pos a (b:=b) (by omega);have sg:b.sign=1:=Int.sign_eq_one_of_pos (by omega);have nb:(b.natAbs:Int)=b:=by omega
 unfold nD;by_cases hd:0≤a∨b ∣ a
 ·rw [if_pos hd] at e1 e2;have:¬ a.tmod b < 0:=by omega
  simp only [this,decide_false,aF,aj];rw [uF (by omega) (by omega)];exact congrArg some (by omega)
 ·rw [if_neg hd] at e1 e2;have:a.tmod b < 0:=by omega
  simp only [this,decide_true,aG];rw [uF (by omega) (by omega)];exact congrArg some (by omega)
def cnt (s:az):Int:=if s.Step < 0 then max 0 ((s.Low - s.High) / (-s.Step)+1) else max 0 ((s.High - s.Low) / s.Step+1)
theorem Kw {s:az} (h:nums s=true):(-2147483647≤s.Low∧s.Low≤2147483647)∧(-2147483647≤s.High∧s.High≤2147483647)∧(-2147483647≤s.Step∧s.Step≤2147483647):=by
 simp [nums,bD,bu] at h;omega
theorem QQ {a:Int}:mx 0 a=max 0 a:=by unfold mx;split<;>omega
theorem Ho {d s:Int} (hs:1≤s):max 0 ((d+s).tdiv s)=max 0 (d / s+1):=by
 have e:(d+s) / s=d / s+1:=Int.add_ediv_of_dvd_right (Int.dvd_refl s) |>.trans (by rw [Int.ediv_self (by omega)])
 rcases Int.le_total 0 (d+s) with h | h
 ·rw [Int.tdiv_eq_ediv_of_nonneg h,e]
 ·have e1:(d+s).tdiv s = -((-(d+s)).tdiv s):=by rw [Int.neg_tdiv];omega
  have e2:0≤(-(d+s)).tdiv s:=by rw [Int.tdiv_eq_ediv_of_nonneg (by omega)];exact Int.ediv_nonneg (by omega) (by omega)
  have e3:(d+s) / s≤0:=by
   have:=Int.ediv_le_ediv (a:=d+s) (b:=0) (c:=s) (by omega) h;simpa using this
  omega
theorem count_eq {s:az} (h:nums s=true) (hs:s.Step≠0):vG s=some (cnt s):=by
 obtain ⟨r1,r2,r3⟩:=Kw h;unfold vG cnt;by_cases hp:s.Step > 0
 ·rw [if_pos hp,if_neg (by omega)];rw [uF (n:=s.High - s.Low) (by omega) (by omega),uF (by omega) (by omega),Vs (by omega) (by omega)];simp only [ae];rw [QQ,Ho (by omega)]
 ·rw [if_neg hp,if_pos (by omega)];rw [uF (n:=s.Low - s.High) (by omega) (by omega),uF (by omega) (by omega),uF (n:=0 - s.Step) (by omega) (by omega),Vs (by omega) (by omega)];simp only [ae];have e:s.Low - s.High - s.Step=s.Low - s.High + -s.Step:=by omega
  have e':0 - s.Step = -s.Step:=by omega
  rw [QQ,e,e',Ho (by omega)]
theorem Nj {s:az} (h:nums s=true) (hs:s.Step≠0):0≤cnt s:=by unfold cnt;split<;>omega
def Yf (s:az):List Int:=if s.Kind=0 then [s.Low] else if s.Kind=1 then (List.range (cnt s).toNat).map (fun i:Nat=>w (s.Low+w ((i:Int) * s.Step))) else s.List
def sel (b:ax) (s:az):List Int×Int :=
 if VD s≠0 then ([],VD s)
 else if s.Kind=1∧cnt s > 512 then ([],8)
 else if s.Kind=2∧(s.List.length:Int) > 512 then ([],8)
 else if (Yf s).any (fun x=>!bu x b.Low b.High)=true then ([],33)
 else (Yf s,0)
theorem Iq (b:ax) {l:List Int} (h:l.length < 16777216):gZ.j1 b l=some (if l.any (fun x=>!bu x b.Low b.High)=true then ([],33) else (l,0)):=by
 unfold gZ.j1 iI dw;obtain ⟨k,hk⟩:=wu (step:=dw.s1 l b) l (fun x=>!bu x b.Low b.High) (fun i=>Sum.inr i) (Sum.inl ()) (s:=0) rfl (fun i hi=>by
  simp only [dw.s1,iZ hi,aG,jo hi,ae];have e1:pX l[i] b=!bu l[i] b.Low b.High:=rfl;rw [wn (by omega),e1];by_cases hq:(!bu l[i] b.Low b.High)=true
  ·rw [if_pos hq,if_pos hq]
  ·rw [if_neg hq,if_neg hq]) (by simp only [dw.s1,dB,aj]) (by omega)
 rw [hk];by_cases e:l.any (fun x=>!bu x b.Low b.High)=true
 ·rw [if_pos e,if_pos e];simp
 ·rw [if_neg e,if_neg e];rfl
theorem E5 (b:ax) {l:List Int} (h:l.length < 16777216):dJ.j1 b l=some (if l.any (fun x=>!bu x b.Low b.High)=true then ([],33) else (l,0)):=by
 unfold dJ.j1;rw [qw (step:=dJ.s2 b l) l (fun x=>if (!bu x b.Low b.High)=true then some (([]:List Int),(33:Int)) else none) (fun c=>Sum.inr c) (Sum.inl ()) rfl ?_ ?_ (by omega),ve]
 ·by_cases e:l.any (fun x=>!bu x b.Low b.High)=true
  ·rw [if_pos e,if_pos e];rfl
  ·rw [if_neg e,if_neg e];rfl
 ·intro i hi;simp only [dJ.s2,iZ hi,aG,jo hi,ae,D8];by_cases hq:bu l[i] b.Low b.High=true
  ·simp only [hq,dh,aj,nJ,aF];rw [wn (by omega)]
  ·simp only [hq,aU,aG,mf,aF]
 ·simp only [dJ.s2,dB,aj]
theorem KA {τ:Type} {step:Int×List Int→Option (Sum (Int×List Int) τ)} (n:Int) (g:Nat→Int) (fin:List Int→τ) (h0:0≤n) (hn:n < 16777216)
  (h:∀ i:Nat,(i:Int) < n→∀ b:List Int,b.length=i→step (i,b)=some (.inl (((i+1:Nat):Int),b++[g i]))) (hend:∀ b,step (n,b)=some (.inr (fin b))) :
  fZ step (0,[])=some (fin ((List.range n.toNat).map g)):=by
 have hl:(List.range n.toNat).length=n.toNat:=by simp
 have hc:((List.range n.toNat).length:Int)=n:=by rw [hl];omega
 refine wz (step:=step) (List.range n.toNat) g (fun i b=>(i,b)) fin rfl ?_ ?_ (by omega)
 ·intro i hi b hb;have:(List.range n.toNat)[i]=i:=by simp
  rw [this];exact h i (by omega) b hb
 ·intro b;rw [hc];exact hend b
theorem EC {s:az} (h:VD s=0):(s.Kind=0∨s.Kind=1∨s.Kind=2)∧YR s=true∧(s.Kind=1→s.Step≠0)∧nums s=true:=by
 unfold VD at h;split at h
 ·cases h
 rename_i h1
 split at h
 ·cases h
 rename_i h2
 split at h
 ·cases h
 rename_i h3
 split at h
 ·rename_i h4
  refine ⟨?_,by simpa using h2,?_,h4⟩
  ·simp [bu] at h1;omega
  ·intro q1 q2;exact h3 (by simp [q1,q2])
 ·cases h
theorem SB (b:ax) (s:az) (hl:s.List.length < 16777216):gZ b s=some (sel b s):=by
 unfold gZ sel;rw [Jl];simp only [ae];by_cases he:VD s=0
 ·obtain ⟨hk,hf,hs,hn⟩:=EC he;simp only [he,dh,aj,ne_eq];unfold Yf;rcases hk with k | k | k
  ·simp only [k,aG];rw [Iq b (by simp)];simp
  ·have hz:=hs k;simp only [k,aG,show ¬ (1:Int)=0 by decide,aj,show ¬ (1:Int)=2 by decide,false_and,true_and];rw [count_eq hn hz];simp only [ae];by_cases hc:cnt s > 512
   ·simp only [hc,aG]
   ·simp only [hc,aj];rw [KA (step:=gZ.s2 s (cnt s)) (cnt s) (fun i:Nat=>w (s.Low+w ((i:Int) * s.Step))) (fun b=>b) (Nj hn hz) (by omega) ?_ ?_]
    ·simp only [ae];rw [Iq b (by simp;omega)]
    ·intro i hi b hb;simp only [gZ.s2,hi,aG];rw [jE (by omega)];simp only [ae];rw [wn (by omega)]
    ·intro b;simp only [gZ.s2,Int.lt_irrefl,aj]
  ·simp only [k,show ¬ (2:Int)=0 by decide,aj,show ¬ (2:Int)=1 by decide,false_and,true_and];by_cases hc:(s.List.length:Int) > 512
   ·simp only [hc,aG]
   ·simp only [hc,aj];unfold slices_Clone_int;rw [OY (by omega)];simp only [ae];rw [Iq b (by omega)]
 ·simp [he]
theorem YQ (s:az):((((s.Kind != 1)&&((s.High != 0) || (s.Step != 0))) || ((s.Kind==2)&&(s.Low != 0))) || ((s.Kind != 2)&&(decide ((s.List.length:Int) > 0))))=!YR s:=by
 unfold YR;have e:decide ((s.List.length:Int) > 0)=!((s.List.length:Int)==0):=by
  by_cases h:(s.List.length:Int)=0
  ·simp [h]
  ·have h1:(s.List.length:Int) > 0:=by omega
   have h2:((s.List.length:Int)==0)=false:=by simpa using h
   rw [h2,decide_eq_true h1];rfl
 rw [e];simp only [bne];generalize (s.Kind==1)=a;generalize (s.Kind==2)=b;generalize (s.High==0)=c;generalize (s.Step==0)=d;generalize (s.Low==0)=f;generalize ((s.List.length:Int)==0)=g;cases a<;>cases b<;>cases c<;>cases d<;>cases f<;>cases g<;>rfl
theorem Qi (b:ax) (s:az) (hl:s.List.length < 16777216):dJ b s=some (if num b=true then sel b s else ([],2)):=by
 unfold dJ;rw [YQ];simp only [D8,eH];have hb:((!(bu b.Low (-2147483647) 2147483647)) || (!(bu b.High (-2147483647) 2147483647)))=!num b:=by unfold num bD;simp
 have hs:(((!(bu s.Low (-2147483647) 2147483647)) || (!(bu s.High (-2147483647) 2147483647))) || (!(bu s.Step (-2147483647) 2147483647)))=!nums s:=by unfold nums bD;simp
 rw [hb,hs];by_cases hn:num b=true
 ·simp only [hn,nJ,aF,aj,aG];unfold sel;by_cases he:VD s=0
  ·obtain ⟨hk,hf,hst,hnn⟩:=EC he;have hin:bu s.Kind 0 2=true:=by simp [bu];omega
   have hks:((s.Kind==1)&&(s.Step==0))=false:=by
    by_cases k:s.Kind=1
    ·simp [k,hst k]
    ·simp [k]
   simp only [hin,dh,aj,hf,nJ,aF,hks,hnn,he,ne_eq];unfold Yf;obtain ⟨r1,r2,r3⟩:=Kw hnn;rcases hk with k | k | k
   ·simp only [k,aG];rw [E5 b (by simp)];simp
   ·have hz:=hst k;simp only [k,aG,show ¬ (1:Int)=0 by decide,aj,show ¬ (1:Int)=2 by decide,false_and,true_and];have j3:dJ.j3 b s (cnt s)=some (if cnt s > 512 then ([],8) else if ((List.range (cnt s).toNat).map (fun i:Nat=>w (s.Low+w ((i:Int) * s.Step)))).any (fun x=>!bu x b.Low b.High)=true then ([],33) else ((List.range (cnt s).toNat).map (fun i:Nat=>w (s.Low+w ((i:Int) * s.Step))),0)):=by
     unfold dJ.j3;by_cases hc:cnt s > 512
     ·simp only [hc,aG]
     ·simp only [hc,aj];rw [KA (step:=dJ.s4 s (cnt s)) (cnt s) (fun i:Nat=>w (s.Low+w ((i:Int) * s.Step))) (fun b=>b) (Nj hnn hz) (by omega) ?_ ?_]
      ·simp only [ae];rw [E5 b (by simp;omega)]
      ·intro i hi b hb;simp only [dJ.s4,hi,aG];rw [jE (by omega)];simp only [ae];rw [wn (by omega)]
      ·intro b;simp only [dJ.s4,Int.lt_irrefl,aj]
    have sz:kM s.Step=if s.Step < 0 then -s.Step else s.Step:=by
     unfold kM;split
     ·rw [uF (by omega) (by omega)];omega
     ·rfl
    have sz1:1≤kM s.Step∧kM s.Step≤2147483647:=by rw [sz];split<;>omega
    rw [uF (n:=s.High - s.Low) (by omega) (by omega),uF (n:=s.Low - s.High) (by omega) (by omega),QJ (by omega) (by omega),QJ (by omega) (by omega)];simp only [ae];have div_le:∀ a:Int, -4294967296≤a→a≤4294967296 → -4294967297≤a / kM s.Step∧a / kM s.Step≤4294967296:=by
     intro a h1 h2;refine ⟨?_,?_⟩
     ·have:(-4294967297) * kM s.Step≤a:=by
       have:=jv (a:=1) (b:=kM s.Step) (c:=4294967297) sz1.1 (by omega);omega
      exact (Int.le_ediv_iff_mul_le (by omega)).2 this
     ·have:a / kM s.Step < 4294967297:=Int.ediv_lt_of_lt_mul (by omega) (by
       have:=jv (a:=1) (b:=kM s.Step) (c:=4294967297) sz1.1 (by omega);omega)
      omega
    have d1:=div_le (s.High - s.Low) (by omega) (by omega);have d2:=div_le (s.Low - s.High) (by omega) (by omega);rw [uF (n:=(s.High - s.Low) / kM s.Step+1) (by omega) (by omega),uF (n:=(s.Low - s.High) / kM s.Step+1) (by omega) (by omega),QQ,QQ];by_cases hneg:s.Step < 0
    ·rw [if_pos hneg];have:max 0 ((s.Low - s.High) / kM s.Step+1)=cnt s:=by unfold cnt;rw [if_pos hneg,sz,if_pos hneg]
     rw [this,j3]
    ·rw [if_neg hneg];have:max 0 ((s.High - s.Low) / kM s.Step+1)=cnt s:=by unfold cnt;rw [if_neg hneg,sz,if_neg hneg]
     rw [this,j3]
   ·simp only [k,show ¬ (2:Int)=0 by decide,aj,show ¬ (2:Int)=1 by decide,false_and,true_and];by_cases hc:(s.List.length:Int) > 512
    ·simp only [hc,aG]
    ·simp only [hc,aj];rw [yx (by omega)];simp only [ae];rw [E5 b (by omega)]
  ·simp only [he,aU,aG,ne_eq];unfold VD at he ⊢;by_cases h1:bu s.Kind 0 2=true
   ·simp only [h1,dh,aj] at he ⊢;cases hf:YR s
    ·simp
    ·simp only [hf,Bool.true_eq_false,aj,nJ,aF] at he ⊢;by_cases h2:((s.Kind==1)&&(s.Step==0))=true
     ·simp only [h2,aG]
     ·simp only [h2,aj,aF] at he ⊢;by_cases h3:nums s=true
      ·simp [h3] at he
      ·simp [h3]
   ·simp only [h1,aU,aG,aF]
 ·simp [hn]
set_option linter.unusedVariables false
set_option linter.unusedSimpArgs false
abbrev Sec:=List Int×List (List Int)×List Int
def ML (_:Nat) (v:Sec) (t:ax×az):Sum Int Sec :=
 if (sel t.1 t.2).2≠0 then .inl (sel t.1 t.2).2
 else .inr (if t.2.Kind≠0 then v.1++[((sel t.1 t.2).1.length:Int)] else v.1,v.2.1++[(sel t.1 t.2).1],v.2.2++[((sel t.1 t.2).1.length:Int)])
def Rj (i:Nat) (v:Sec):Prop:=v.1.length≤i∧v.2.1.length=i∧v.2.2.length=i
theorem Jf {i:Nat} {v v':Sec} {t:ax×az} (h:Rj i v) (e:ML i v t = .inr v'):Rj (i+1) v':=by
 obtain ⟨h1,h2,h3⟩:=h;unfold ML at e;split at e
 ·cases e
 ·cases e;refine ⟨?_,by simp [h2],by simp [h3]⟩;simp only;split
  ·simp;omega
  ·omega
theorem Ym:∀ {T:List (ax×az)} {i:Nat} {v v':Sec},iw ML i T v = .inr v' →
  v'.2.1=v.2.1++T.map (fun t=>(sel t.1 t.2).1)∧v'.2.2=v.2.2++T.map (fun t=>((sel t.1 t.2).1.length:Int))∧∀ t,t∈T→(sel t.1 t.2).2=0
 | [],i,v,v',h=>by cases h;simp
 | t::T,i,v,v',h=>by
  simp only [iw] at h;cases hf:ML i v t with
  | inl e=>rw [hf] at h;cases h
  | inr v2 =>
   rw [hf] at h;obtain ⟨g1,g2,g3⟩:=Ym h;unfold ML at hf;split at hf
   ·cases hf
   ·rename_i hs
    cases hf;refine ⟨by rw [g1];simp,by rw [g2];simp,?_⟩;intro u hu;cases hu with
    | head=>exact aI.1 hs
    | tail _ hu=>exact g3 u hu
def zh (p:List ax) (q:List az):Sum Int Sec:=iw ML 0 (p.zip q) ([],[],[])
def picks (lists:List (List Int)) (ds:List Int):List Int:=ds.mapIdx fun j d=>(((lists[j]?).getD [])[d.toNat]?).getD 0
theorem IY (lists:List (List Int)) (ds:List Int):(picks lists ds).length=ds.length:=by simp [picks]
theorem SS (l:List Int) (lists:List (List Int)) (d:Int) (ds:List Int):picks (l::lists) (d::ds)=((l[d.toNat]?).getD 0)::picks lists ds:=by
 simp [picks,List.mapIdx_cons]
theorem QX:∀ {bs:List ax} {lists:List (List Int)} {ds:List Int},bs.length=lists.length→(∀ t,t∈bs.zip lists→∀ x,x∈t.2→bu x t.1.Low t.1.High=true)→inBase (lists.map fun l=>(l.length:Int)) ds→allIn bs (picks lists ds)=true∧(picks lists ds).length=bs.length
 | [],[],[],_,_,_=>⟨rfl,rfl⟩
 | [],[],_::_,_,_,h=>by cases h
 | [],_::_,_,h,_,_=>by cases h
 | _::_,[],_,h,_,_=>by cases h
 | _::_,_::_,[],_,_,h=>by cases h
 | b::bs,l::lists,d::ds,hl,hin,h=>by
  obtain ⟨h1,h2,h3⟩:=h;obtain ⟨i1,i2⟩:=QX (bs:=bs) (by simpa using hl) (fun t ht=>hin t (by simp;exact .inr (by simpa using ht))) h3;have hd:d.toNat < l.length:=by have h2':d < (l.length:Int):=h2;omega
  have hx:(l[d.toNat]?).getD 0=l[d.toNat]:=by simp [hd]
  have hi:=hin (b,l) (by simp) l[d.toNat] (dH hd);rw [SS,hx];refine ⟨?_,by simp [i2]⟩;simp only [allIn,i1,Bool.and_true];exact hi
def Z8 (a:Int) (t:Int×ax×Int):Int:=w (a+w (t.2.2 * w (t.1 - t.2.1.Low)))
theorem scan_fold:∀ (bs:List ax) (xs:List Int) (ss:List Int) (a:Int) (i:Nat),allIn bs xs=true→iw Xt i (xs.zip (bs.zip ss)) a = .inr ((xs.zip (bs.zip ss)).foldl Z8 a)
 | [],xs,ss,a,i,_=>by simp [iw]
 | b::bs,[],ss,a,i,_=>by simp [iw]
 | b::bs,x::xs,[],a,i,_=>by simp [iw]
 | b::bs,x::xs,s::ss,a,i,h=>by
  simp only [allIn,aS] at h;have hf:Xt i a (x,b,s) = .inr (Z8 a (x,b,s)):=by unfold Xt;rw [if_pos h.1];rfl
  simp only [List.zip_cons_cons,iw,hf,dY];exact scan_fold bs xs ss _ _ h.2
theorem WM {bs:List ax} {xs:List Int} (ok:Ok bs) (hl:bs.length=xs.length) (ha:allIn bs xs=true):(xs.zip (bs.zip (str 1 (exs bs)))).foldl Z8 0=off bs xs:=by
 have h1:=scan_fold bs xs (str 1 (exs bs)) 0 0 ha;have hl7:=ok.len;have sz:=ok.size;have h2:=(Rf bs xs 1 0 0 hl ok.num).2 ha (by omega) (by have:P (exs bs)≤512:=sz.2.2;omega) (by omega) (by omega);rw [h1] at h2;have:=Sum.inr.inj h2;rw [this];unfold off;omega
theorem has_eq {l:List Int} {v:Int} (h:l.length < 16777216):rD l v=some (l.any fun x=>x==v):=by
 unfold rD;rw [lL (step:=rD.s1 l v) l (fun i (b:Bool)=>(b,i)) (fun b=>b) (fun b x=>b || (x==v)) (fun _ _=>True) (a:=false) rfl ?_ ?_ trivial (by omega)]
 ·have key:∀ (l:List Int) (b:Bool),l.foldl (fun b x=>b || (x==v)) b=(b || l.any fun x=>x==v):=by
   intro l
   induction l with
   | nil=>intro b;simp
   | cons x l ih=>intro b;rw [dY,ih,List.any_cons,Bool.or_assoc]
  rw [key];simp
 ·intro i hi b _;refine ⟨?_,trivial⟩;simp only [rD.s1,iZ hi,aG,jo hi,ae];rw [wn (by omega)]
 ·intro b _;simp only [rD.s1,dB,aj]
theorem U6 (m:List (Int×Bool)) (k:Int) (v:Bool) (z:Int):OM (Xp m k v) z=if k=z then some v else OM m z:=by
 induction m with
 | nil=>simp [Xp,OM]
 | cons p m ih =>
  obtain ⟨a,c⟩:=p;simp only [Xp];by_cases e:a=k
  ·subst e;by_cases q:a=z
   ·simp [OM,q]
   ·simp [OM,q]
  ·rw [if_neg e];simp only [OM,ih];by_cases q:a=z
   ·have:¬ k=z:=fun r=>e (by rw [q,r])
    simp [q,this]
   ·simp [q]
def Xl (o:Nat→Int) (v:Bool×List Int×List (Int×Bool)) (k:Nat):Bool×List Int×List (Int×Bool):=(v.1 || (OM v.2.2 (o k)).getD false,v.2.1++[o k],Xp v.2.2 (o k) true)
def A7 (o:Nat→Int) (v:Bool×List Int) (k:Nat):Bool×List Int:=(v.1 || v.2.any (fun x=>x==o k),v.2++[o k])
theorem NT (o:Nat→Int):∀ (ks:List Nat) (a:Bool) (l:List Int) (m:List (Int×Bool)),(∀ z,(OM m z).getD false=l.any (fun x=>x==z)) →
  ((ks.foldl (Xl o) (a,l,m)).1,(ks.foldl (Xl o) (a,l,m)).2.1)=ks.foldl (A7 o) (a,l)
 | [],a,l,m,h=>rfl
 | k::ks,a,l,m,h=>by
  rw [dY,dY];have e2:A7 o (a,l) k=(a || (OM m (o k)).getD false,l++[o k]):=by unfold A7;rw [h]
  rw [e2];refine NT o ks _ _ _ fun z=>?_
  rw [U6,List.any_append];by_cases e:o k=z
  ·simp [e]
  ·simp [e,h]
def yS (p:List ax) (v:Sec) (k:Nat):Int:=off p (picks v.2.1 (dig v.2.2 k))
def Ri (p:List ax) (v:Sec):aA×Int :=
 if lF v.2.2 > 512 then (⟨[],[],false⟩,8)
 else (⟨v.1,((List.range (lF v.2.2).toNat).foldl (A7 (yS p v)) (false,[])).2,((List.range (lF v.2.2).toNat).foldl (A7 (yS p v)) (false,[])).1⟩,0)
theorem IB (o:Nat→Int):∀ (ks:List Nat) (v:Bool×List Int),(ks.foldl (A7 o) v).2.length=v.2.length+ks.length
 | [],v=>rfl
 | k::ks,v=>by rw [dY,IB o ks];simp [A7];omega
theorem Qh {b:ax} {s:az} (h:(sel b s).2=0):(sel b s).1.length≤512∧∀ x,x∈(sel b s).1→bu x b.Low b.High=true:=by
 unfold sel at h ⊢;by_cases he:VD s=0
 ·simp only [he,ne_eq,dh,aj] at h ⊢;by_cases h1:s.Kind=1∧cnt s > 512
  ·simp [h1] at h
  ·simp only [h1,aj] at h ⊢;by_cases h2:s.Kind=2∧(s.List.length:Int) > 512
   ·simp [h2] at h
   ·simp only [h2,aj] at h ⊢;by_cases h3:(Yf s).any (fun x=>!bu x b.Low b.High)=true
    ·simp [h3] at h
    ·simp only [h3,aj,aF];refine ⟨?_,?_⟩
     ·obtain ⟨hk,_⟩:=EC he;unfold Yf;rcases hk with k | k | k
      ·simp [k]
      ·simp [k] at h1 ⊢;omega
      ·simp [k] at h2 ⊢;omega
     ·intro x hx;simp only [gY,not_exists,not_and,jU,Bool.not_eq_false] at h3;exact h3 x hx
 ·simp [he] at h
section
variable {p:List ax} {q:List az} {v:Sec}
structure GV (p:List ax) (q:List az) (v:Sec):Prop where
 lists:v.2.1.length=p.length
 lens:v.2.2=v.2.1.map fun l=>(l.length:Int)
 small:∀ l,l∈v.2.1→l.length≤512
 ins:∀ t,t∈p.zip v.2.1→∀ x,x∈t.2→bu x t.1.Low t.1.High=true
theorem Za (hl:q.length=p.length) (h:zh p q = .inr v):GV p q v:=by
 obtain ⟨h1,h2,h3⟩:=Ym h;simp only [iU] at h1 h2;refine ⟨by rw [h1];simp;omega,by rw [h1,h2];simp,?_,?_⟩
 ·intro l hlm;rw [h1] at hlm;obtain ⟨t,ht,rfl⟩:=gU.1 hlm;exact (Qh (h3 t ht)).1
 ·intro t ht x hx;rw [h1] at ht;have key:∀ (p:List ax) (q:List az) (t:ax×List Int),t∈p.zip ((p.zip q).map fun t=>(sel t.1 t.2).1)→∃ s,(t.1,s)∈p.zip q∧t.2=(sel t.1 s).1:=by
   intro p
   induction p with
   | nil=>intro q t ht;simp at ht
   | cons b p ih =>
    intro q t ht;cases q with
    | nil=>simp at ht
    | cons s q =>
     simp only [List.zip_cons_cons,gB,fJ] at ht;rcases ht with rfl | ht
     ·exact ⟨s,by simp,rfl⟩
     ·obtain ⟨s',h1,h2⟩:=ih q t ht;exact ⟨s',by simp [h1],h2⟩
  obtain ⟨s,g1,g2⟩:=key p q t ht;rw [g2] at hx;exact (Qh (h3 _ g1)).2 x hx
theorem GV.base (h:GV p q v) (k:Nat) (hk:(k:Int) < lF v.2.2) (hs:lF v.2.2≤512):(∀ e,e∈v.2.2→1≤e)∧inBase v.2.2 (dig v.2.2 k)∧(k:Int) < P v.2.2:=by
 have hr:∀ x,x∈v.2.2→0≤x∧x≤512:=by
  intro x hx;rw [h.lens] at hx;obtain ⟨l,hl,rfl⟩:=gU.1 hx;have:=h.small l hl;omega
 obtain ⟨h1,h2⟩:=PX hr hs;have hpos:∀ e,e∈v.2.2→1≤e:=by
  intro e he;have h0:=hr e he;rcases Int.lt_or_eq_of_le h0.1 with g | g
  ·omega
  ·have:P v.2.2=0:=TG ⟨e,he,g.symm⟩;omega
 exact ⟨hpos,(X7 hpos (by omega) (by omega)).1,by omega⟩
theorem GV.place (h:GV p q v) (k:Nat) (hk:(k:Int) < lF v.2.2) (hs:lF v.2.2≤512):allIn p (picks v.2.1 (dig v.2.2 k))=true∧(picks v.2.1 (dig v.2.2 k)).length=p.length:=by
 obtain ⟨_,h1,_⟩:=h.base k hk hs;rw [h.lens] at h1 ⊢;exact QX h.lists.symm h.ins h1
theorem J7:∀ {es ds:List Int},inBase es ds→es.length=ds.length∧∀ i (h1:i < es.length) (h2:i < ds.length),0≤ds[i]∧ds[i] < es[i]
 | [],[],_=>⟨rfl,fun i h=>by simp at h⟩
 | [],_::_,h=>by cases h
 | _::_,[],h=>by cases h
 | e::es,d::ds,⟨h1,h2,h3⟩=>by
  obtain ⟨i1,i2⟩:=J7 h3;refine ⟨by simp [i1],fun i g1 g2=>?_⟩;cases i with
  | zero=>exact ⟨h1,h2⟩
  | succ i=>simpa using i2 i (by simpa using g1) (by simpa using g2)
theorem GV.Vm (h:GV p q v) (k:Nat) (hk:(k:Int) < lF v.2.2) (hs:lF v.2.2≤512) {i:Nat} (hi:i < p.length) :
  ∃ (h1:i < (dig v.2.2 k).length) (h2:i < v.2.1.length) (h3:i < (picks v.2.1 (dig v.2.2 k)).length),at_ v.2.1[i] (dig v.2.2 k)[i]=some (picks v.2.1 (dig v.2.2 k))[i]:=by
 obtain ⟨_,hb,_⟩:=h.base k hk hs;obtain ⟨g1,g2⟩:=J7 hb;have l1:v.2.2.length=p.length:=by rw [h.lens];simp [h.lists]
 have hd:i < (dig v.2.2 k).length:=by omega
 have hv:i < v.2.1.length:=by rw [h.lists];exact hi
 refine ⟨hd,hv,by rw [IY];exact hd,?_⟩;obtain ⟨r1,r2⟩:=g2 i (by omega) hd;have e:v.2.2[i]'(by omega)=(v.2.1[i].length:Int):=by
  have:v.2.2[i]?=some (v.2.1[i].length:Int):=by rw [h.lens];simp [hv]
  rw [au (by omega)] at this;exact jB this
 rw [e] at r2;have hn:(dig v.2.2 k)[i].toNat < v.2.1[i].length:=by omega
 have hx:(picks v.2.1 (dig v.2.2 k))[i]'(by rw [IY];exact hd)=v.2.1[i][(dig v.2.2 k)[i].toNat]:=by
  simp [picks,hv,hn]
 rw [hx];unfold at_;rw [if_pos r1];simp [hn]
theorem Qg (ok:Ok p) (h:GV p q v) (hs:lF v.2.2≤512) (hp:0≤lF v.2.2) :
  fZ (eX.s2 p v (lF v.2.2) (str 1 (exs p))) (0,false,[],[])=some ((List.range (lF v.2.2).toNat).foldl (A7 (yS p v)) (false,[])):=by
 have hlen:(List.range (lF v.2.2).toNat).length=(lF v.2.2).toNat:=by simp
 have hc:((List.range (lF v.2.2).toNat).length:Int)=lF v.2.2:=by omega
 have hl7:=ok.len;rw [lL (step:=eX.s2 p v (lF v.2.2) (str 1 (exs p))) (List.range (lF v.2.2).toNat) (fun i (b:Bool×List Int×List (Int×Bool))=>(i,b)) (fun b=>(b.1,b.2.1)) (Xl (yS p v)) (fun i b=>b.2.1.length=i) (a:=(false,[],[])) rfl ?_ ?_ rfl (by omega)]
 ·rw [NT];intro z;rfl
 ·intro i hi b hb;have hir:(List.range (lF v.2.2).toNat)[i]=i:=by simp
  have hil:(i:Int) < lF v.2.2:=by omega
  refine ⟨?_,by simp [Xl,hb]⟩;obtain ⟨b1,b2,b3⟩:=h.base i hil hs;obtain ⟨a1,a2⟩:=h.place i hil hs;have l1:v.2.2.length=p.length:=by rw [h.lens];simp [h.lists]
  simp only [eX.s2,hil,aG,hir];rw [Ur b1 (by omega) (by omega) (by omega)];simp only [ae];have T:((picks v.2.1 (dig v.2.2 i)).zip (p.zip (str 1 (exs p)))).length=p.length:=by simp [Qm,exs,a2]
  have inner:fZ (eX.s3 p v (str 1 (exs p)) (dig v.2.2 i)) (0,0)=some (yS p v i):=by
   rw [lL (step:=eX.s3 p v (str 1 (exs p)) (dig v.2.2 i)) ((picks v.2.1 (dig v.2.2 i)).zip (p.zip (str 1 (exs p)))) (fun i (b:Int)=>(b,i)) (fun b=>b) Z8 (fun _ _=>True) (a:=0) rfl ?_ ?_ trivial (by omega)]
   ·rw [WM ok a2.symm a1];rfl
   ·intro j hj b _;refine ⟨?_,trivial⟩;rw [T] at hj;obtain ⟨g1,g2,g3,g4⟩:=h.Vm i hil hs hj;have g5:j < (str 1 (exs p)).length:=by simp [Qm,exs];exact hj
    simp only [eX.s3,iZ g1,aG,jo g1,jo g5,jo g2,jo hj,ae,g4,List.getElem_zip,Z8];rw [wn (by omega)]
   ·intro b _;have e:((dig v.2.2 i).length:Int)=(((picks v.2.1 (dig v.2.2 i)).zip (p.zip (str 1 (exs p)))).length:Int):=by rw [T,← a2,IY]
    rw [← e];simp only [eX.s3,dB,aj]
  rw [inner];simp only [ae];rw [jE (by omega)];simp only [ae];rw [wn (by omega)];rfl
 ·intro b _;rw [hc];simp only [eX.s2,Int.lt_irrefl,aj]
theorem JL (hb:KU p=0) (ok:Ok p) (h:GV p q v) (hs:lF v.2.2≤512) (hp:0≤lF v.2.2) :
  fZ (eG.s2 p (v.2.1,v.2.2,v.1) (lF v.2.2)) (0,false,[])=some ((List.range (lF v.2.2).toNat).foldl (A7 (yS p v)) (false,[])):=by
 have hlen:(List.range (lF v.2.2).toNat).length=(lF v.2.2).toNat:=by simp
 have hc:((List.range (lF v.2.2).toNat).length:Int)=lF v.2.2:=by omega
 have hl7:=ok.len;rw [lL (step:=eG.s2 p (v.2.1,v.2.2,v.1) (lF v.2.2)) (List.range (lF v.2.2).toNat) (fun i (b:Bool×List Int)=>(i,b)) (fun b=>b) (A7 (yS p v)) (fun i b=>b.2.length=i) (a:=(false,[])) rfl ?_ ?_ rfl (by omega)]
 ·intro i hi b hbl;have hir:(List.range (lF v.2.2).toNat)[i]=i:=by simp
  have hil:(i:Int) < lF v.2.2:=by omega
  refine ⟨?_,by simp [A7,hbl]⟩;obtain ⟨b1,b2,b3⟩:=h.base i hil hs;obtain ⟨a1,a2⟩:=h.place i hil hs;have l1:v.2.2.length=p.length:=by rw [h.lens];simp [h.lists]
  have dl:(dig v.2.2 i).length=p.length:=by rw [Uo,l1]
  simp only [eG.s2,hil,aG,hir];rw [Me b1 (by omega) (by omega) (by omega)];simp only [ae];have inner:fZ (eG.s3 (v.2.1,v.2.2,v.1)) (0,dig v.2.2 i)=some (picks v.2.1 (dig v.2.2 i)):=by
   rw [Xi (step:=eG.s3 (v.2.1,v.2.2,v.1)) (dig v.2.2 i) (fun j d=>(((v.2.1[j]?).getD [])[d.toNat]?).getD 0) (fun i b=>(i,b)) (fun b=>b) rfl ?_ ?_ (by omega)]
   ·rfl
   ·intro j hj b hbl2 hbj;obtain ⟨g1,g2,g3,g4⟩:=h.Vm i hil hs (i:=j) (by omega);have hjb:j < b.length:=by omega
    have hbv:b[j]=(dig v.2.2 i)[j]:=by rw [au hjb] at hbj;exact jB hbj
    simp only [eG.s3,iZ hjb,aG,jo g2,jo hjb,ae,hbv,g4,jD];rw [wn (by omega)];simp [picks]
   ·intro b hbl2;rw [← hbl2];simp only [eG.s3,dB,aj]
  rw [inner];simp only [ae];have hoff:aar p (picks v.2.1 (dig v.2.2 i))=0:=by unfold aar;simp [hb,a2,a1]
  rw [Oo hoff];simp only [ae];by_cases hm:b.1=true
  ·simp only [hm,aG];rw [jE (by omega)];simp only [ae];rw [wn (by omega)];simp [A7,hm,yS]
  ·simp only [hm,aj,aF];rw [has_eq (by omega),jE (by omega)];simp only [ae];rw [wn (by omega)];simp [A7,hm,yS]
 ·intro b _;rw [hc];simp only [eG.s2,Int.lt_irrefl,aj]
theorem GV.pos (h:GV p q v):0≤lF v.2.2:=by
 unfold lF;split
 ·omega
 ·rename_i h0
  have hr:∀ x,x∈v.2.2→1≤x∧x≤512:=by
   intro x hx;have hx':=hx;rw [h.lens] at hx;obtain ⟨l,hl,rfl⟩:=gU.1 hx;have:=h.small l hl;simp only [gY,not_exists,not_and,jX] at h0;have:=h0 _ hx';omega
  have:=O3 (a:=1) hr (by omega) (by omega);have hp:=Rz fun x hq=>(hr x hq).1
  unfold ZL;omega
end
def pV (p:List ax) (q:List az):aA×Int :=
 if KU p≠0 then (⟨[],[],false⟩,KU p)
 else if (q.length:Int)≠(p.length:Int) then (⟨[],[],false⟩,32)
 else match zh p q with
  | .inl e=>(⟨[],[],false⟩,e)
  | .inr v=>Ri p v
theorem OD (p:List ax) (q:List az) (hq:∀ s,s∈q→s.List.length < 16777216):qC p q=some (pV p q):=by
 unfold qC pV;rw [Fq];simp only [ae];by_cases hb:KU p=0
 ·have ok:=BH hb;have hl7:=ok.len;simp only [hb,dh,aj,ne_eq];unfold eX;by_cases hl:(q.length:Int)=(p.length:Int)
  ·simp only [hl,dh,aj];have T:(p.zip q).length=q.length:=by simp;omega
   have l1:fZ (eX.s1 p q) (0,[],[],[])=some (match zh p q with | .inl e=>Sum.inr (⟨[],[],false⟩,e) | .inr v=>Sum.inl v):=by
    unfold zh;rw [kP (step:=eX.s1 p q) (p.zip q) (fun i (b:Sec)=>(i,b)) (fun e=>Sum.inr (⟨[],[],false⟩,e)) (fun b=>Sum.inl b) ML Rj (a:=([],[],[])) rfl ?_ ?_ ⟨aZ _,rfl,rfl⟩ (by omega)]
    ·cases iw ML 0 (p.zip q) ([],[],[])<;>rfl
    ·intro i hi b hI;refine ⟨?_,fun b' e=>Jf hI e⟩;obtain ⟨i1,i2,i3⟩:=hI;rw [T] at hi;have h2:i < p.length:=by omega
     simp only [eX.s1,iZ hi,aG,jo hi,jo h2,ae,List.getElem_zip,ML];rw [SB _ _ (hq _ (dH hi))];simp only [ae];by_cases he:(sel p[i] q[i]).2=0
     ·simp only [he,dh,aj,ne_eq];rw [jE (by omega),jE (by omega)];simp only [ae];by_cases hk:q[i].Kind=0
      ·simp only [hk,dh,aj];rw [wn (by omega)]
      ·simp only [hk,aU,aG];rw [jE (by omega)];simp only [ae];rw [wn (by omega)]
     ·simp only [he,aU,aG,ne_eq]
    ·intro b _;rw [T];simp only [eX.s1,dB,aj]
   rw [l1];simp only [ae];cases hv:zh p q with
   | inl e=>simp
   | inr v =>
    have so:=Za (by omega) hv;have hp:=so.pos;have hvl:v.2.2.length=p.length:=by rw [so.lens];simp [so.lists]
    simp only [Kz (show v.2.2.length < 16777216 by omega),ae];unfold Ri;by_cases hs:lF v.2.2 > 512
    ·simp only [hs,aG,ae]
    ·simp only [hs,aj];rw [Pm (by omega)];simp only [ae];rw [Tv (by simp [exs];omega)];simp only [ae];rw [Qg ok so (by omega) hp];simp only [ae]
  ·simp [hl]
 ·simp [hb]
theorem wC (p:List ax) (q:List az) (hq:∀ s,s∈q→s.List.length < 16777216):eG p q=some (pV p q):=by
 unfold eG pV;rw [Aj];simp only [ae];by_cases hb:KU p=0
 ·have ok:=BH hb;have hl7:=ok.len;simp only [hb,dh,aj,ne_eq];by_cases hl:(q.length:Int)=(p.length:Int)
  ·simp only [hl,dh,aj];have T:(p.zip q).length=q.length:=by simp;omega
   have l1:fZ (eG.s1 p q) (0,[],[],[])=some (match zh p q with | .inl e=>Sum.inr (⟨[],[],false⟩,e) | .inr v=>Sum.inl (v.2.1,v.2.2,v.1)):=by
    unfold zh;rw [kP (step:=eG.s1 p q) (p.zip q) (fun i (b:Sec)=>(i,b.2.1,b.2.2,b.1)) (fun e=>Sum.inr (⟨[],[],false⟩,e)) (fun b=>Sum.inl (b.2.1,b.2.2,b.1)) ML Rj (a:=([],[],[])) rfl ?_ ?_ ⟨aZ _,rfl,rfl⟩ (by omega)]
    ·cases iw ML 0 (p.zip q) ([],[],[])<;>rfl
    ·intro i hi b hI;refine ⟨?_,fun b' e=>Jf hI e⟩;obtain ⟨i1,i2,i3⟩:=hI;rw [T] at hi;have h2:i < p.length:=by omega
     simp only [eG.s1,iZ hi,aG,jo hi,jo h2,ae,List.getElem_zip,ML];rw [Qi _ _ (hq _ (dH hi)),if_pos (ok.num _ (dH h2))];simp only [ae];by_cases he:(sel p[i] q[i]).2=0
     ·simp only [he,dh,aj,ne_eq];rw [jE (by omega),jE (by omega)];simp only [ae];by_cases hk:q[i].Kind=0
      ·simp only [hk,dh,aj];rw [wn (by omega)]
      ·simp only [hk,aU,aG];rw [jE (by omega)];simp only [ae];rw [wn (by omega)]
     ·simp only [he,aU,aG,ne_eq]
    ·intro b _;rw [T];simp only [eG.s1,dB,aj]
   rw [l1];simp only [ae];cases hv:zh p q with
   | inl e=>simp
   | inr v =>
    have so:=Za (by omega) hv;have hp:=so.pos;have hvl:v.2.2.length=p.length:=by rw [so.lens];simp [so.lists]
    simp only [zf (show v.2.2.length < 16777216 by omega),ae];unfold Ri;by_cases hs:lF v.2.2 > 512
    ·simp only [hs,aG,ae]
    ·simp only [hs,aj];rw [JL hb ok so (by omega) hp];simp only [ae]
  ·simp [hl]
 ·simp [hb]
theorem xR {q:List az} (h:q.length < 16777216) (hq:∀ s,s∈q→s.List.length < 16777216):gX q=some q:=by
 unfold gX;rw [wz (step:=gX.s1 q) q (fun s=>s) (fun i b=>(i,b)) (fun b=>b) rfl ?_ ?_ (by omega)]
 ·simp
 ·intro i hi b hb;simp only [gX.s1,iZ hi,aG,jo hi,ae];have:=hq _ (dH hi);rw [yx (by omega)];simp only [ae];rw [jE (by omega),wn (by omega)];rfl
 ·intro b;simp only [gX.s1,dB,aj]
set_option linter.unusedVariables false
set_option linter.unusedSimpArgs false
structure Yz (a:ah):Prop where
 b:KU a.Bounds=0
 len:(a.Elements.length:Int)=P (exs a.Bounds)
 int:∀ x,x∈a.Elements→eU x=true
theorem MW:∀ (xs:List Int) (i:Nat),(∀ x,x∈xs→eU x=true)↔iw (fun i b x=>if eU x=true then Sum.inr b else Sum.inl i) i xs () = .inr ()
 | [],i=>by simp [iw]
 | x::xs,i=>by
  simp only [iw,fJ,forall_eq_or_imp];by_cases h:eU x=true
  ·simp only [h,aG,true_and];exact MW xs (i+1)
  ·simp [h]
theorem Ue {a:ah} (h:(chk a).2=0):Yz a:=by
 unfold chk at h;split at h
 ·rename_i hb;exact absurd h hb
 rename_i hb
 split at h
 ·cases h
 rename_i hl
 have hb':=aI.1 hb;have hl':=aI.1 hl;have ok:=BH hb';refine ⟨hb',by have:=ok.size;rw [hl'];exact this.1,?_⟩;cases hq:Ws a.Elements with
 | inl i=>rw [hq] at h;cases h
 | inr u=>exact (MW _ 0).2 hq
theorem IE (o:Nat→Int):∀ (ks:List Nat) (v:Bool×List Int),(ks.foldl (A7 o) v).2=v.2++ks.map o
 | [],v=>by simp
 | k::ks,v=>by rw [dY,IE o ks];simp [A7]
theorem IC (o:Nat→Int):∀ (ks:List Nat) (a:Bool) (l:List Int),(ks.foldl (A7 o) (a,l)).1=false→a=false∧(l.Nodup→(l++ks.map o).Nodup)
 | [],a,l,h=>⟨h,fun hn=>by simpa using hn⟩
 | k::ks,a,l,h=>by
  rw [dY] at h;obtain ⟨h1,h2⟩:=IC o ks _ _ h;simp only [Bool.or_eq_false_iff,List.any_eq_false,jX] at h1;refine ⟨h1.1,fun hn=>?_⟩;have:(l++[o k]).Nodup:=by
   rw [List.nodup_append];refine ⟨hn,by simp,?_⟩;intro x hx y hy;simp only [eY] at hy;subst hy;exact h1.2 x hx
  have:=h2 this;simpa using this
structure Sct (p:List ax) (s:aA):Prop where
 range:∀ o,o∈s.Offsets→0≤o∧o < P (exs p)
 nodup:s.ManyOne=false→s.Offsets.Nodup
 len:(s.Offsets.length:Int)=P s.Extents
 ext:∀ e,e∈s.Extents→0≤e∧e≤512
 dims:s.Extents.length≤7
 small:s.Offsets.length≤512
theorem WV {b:ax} {s:az} (h:(sel b s).2=0) (hk:s.Kind=0):(sel b s).1.length=1:=by
 unfold sel at h ⊢;by_cases he:VD s=0
 ·simp only [he,ne_eq,dh,aj,hk,show ¬ (0:Int)=1 by decide,show ¬ (0:Int)=2 by decide,false_and] at h ⊢;by_cases h3:(Yf s).any (fun x=>!bu x b.Low b.High)=true
  ·simp [h3] at h
  ·simp only [h3,aj,aF];unfold Yf;simp [hk]
 ·simp [he] at h
theorem Qq (a b:List Int):P (a++b)=P a * P b:=by
 induction a with
 | nil=>simp [P]
 | cons x a ih=>simp [P,ih,Int.mul_assoc]
theorem Qe:∀ {T:List (ax×az)} {i:Nat} {v v':Sec},iw ML i T v = .inr v'→P v.1=P v.2.2→(∀ e,e∈v.1→0≤e∧e≤512)→P v'.1=P v'.2.2∧(∀ e,e∈v'.1→0≤e∧e≤512)∧v'.1.length≤v.1.length+T.length
 | [],i,v,v',h,h1,h2=>by cases h;exact ⟨h1,h2,by simp⟩
 | t::T,i,v,v',h,h1,h2=>by
  simp only [iw] at h;cases hf:ML i v t with
  | inl e=>rw [hf] at h;cases h
  | inr v2 =>
   rw [hf] at h;unfold ML at hf;split at hf
   ·cases hf
   ·rename_i hs
    have hs:=aI.1 hs;cases hf;have hsl:=(Qh hs).1;by_cases hk:t.2.Kind=0
    ·simp only [hk,ne_eq,dh,aj] at h;have e1:=WV hs hk;obtain ⟨g1,g2,g3⟩:=Qe h (by simp only [Qq,e1,P];simp [h1]) h2;exact ⟨g1,g2,by simp at g3 ⊢;omega⟩
    ·simp only [hk,ne_eq,aU,aG] at h;obtain ⟨g1,g2,g3⟩:=Qe h (by simp only [Qq,h1]) (by
      intro e he;simp only [aP,eY] at he;rcases he with he | he
      ·exact h2 e he
      ·omega)
     exact ⟨g1,g2,by simp at g3 ⊢;omega⟩
theorem Td {p:List ax} {q:List az} (h:(pV p q).2=0):Sct p (pV p q).1:=by
 unfold pV at h ⊢;by_cases hb:KU p=0
 ·have ok:=BH hb;have hl7:=ok.len;simp only [hb,ne_eq,dh,aj] at h ⊢;by_cases hl:(q.length:Int)=(p.length:Int)
  ·simp only [hl,dh,aj] at h ⊢;cases hv:zh p q with
   | inl e =>
    rw [hv] at h
    exfalso
    have key:∀ (T:List (ax×az)) (i:Nat) (v:Sec) (e:Int),iw ML i T v = .inl e→e≠0:=by
     intro T
     induction T with
     | nil=>intro i v e h;cases h
     | cons t T ih =>
      intro i v e h;simp only [iw] at h;cases hf:ML i v t with
      | inl e' =>
       rw [hf] at h;cases h;unfold ML at hf;split at hf
       ·rename_i hs;cases hf;exact hs
       ·cases hf
      | inr v2=>rw [hf] at h;exact ih _ _ _ h
    exact key _ _ _ _ hv h
   | inr v =>
    rw [hv] at h;have so:=Za (by omega) hv;obtain ⟨x1,x2,x3⟩:=Qe hv rfl (fun e he=>by cases he);simp only at h ⊢;unfold Ri at h ⊢;by_cases hs:lF v.2.2 > 512
    ·simp [hs] at h
    ·simp only [hs,aj] at h ⊢;have hp:=so.pos;have hr:∀ x,x∈v.2.2→0≤x∧x≤512:=by
      intro x hx;rw [so.lens] at hx;obtain ⟨l,hl,rfl⟩:=gU.1 hx;have:=so.small l hl;omega
     obtain ⟨z1,z2⟩:=PX hr (by omega);have T:(p.zip q).length≤7:=by simp;omega
     refine ⟨?_,?_,?_,x2,by show v.1.length≤7;simp at x3;omega,?_⟩
     ·intro o ho;simp only [IE,iU] at ho;obtain ⟨k,hk,rfl⟩:=gU.1 ho;have hk':(k:Int) < lF v.2.2:=by have:=kT.1 hk;omega
      obtain ⟨a1,a2⟩:=so.place k hk' (by omega);exact KJ (Aw a2.symm ok.num a1)
     ·intro hm;have:=(IC _ _ _ _ hm).2 (by simp);simp only [IE,iU] at this ⊢;exact this
     ·simp only [IB,jy,jW];omega
     ·simp only [IB,jy,jW];omega
  ·simp [hl] at h
 ·simp [hb] at h
end Go.Sh
set_option linter.all false
namespace Go.Sh
open Go.Lx
theorem U4 (rs:List aQ) (h:rs.length < 1000):gQ rs=some (match rs.findSome? (fun r=>if r.holds=true then none else some r.code) with | some c=>c | none=>0):=by
 unfold gQ;rw [qw (step:=gQ.s1 rs) rs (fun r=>if r.holds=true then none else some r.code) (fun c=>Sum.inr c) (Sum.inl ()) rfl ?_ ?_ (by omega)]
 ·cases rs.findSome? (fun r=>if r.holds=true then none else some r.code)<;>rfl
 ·intro i hi;simp only [gQ.s1,iZ hi,aG,jo hi,ae];by_cases e:rs[i].holds=true
  ·simp only [e,dh,aj,aG];rw [wn (by omega)]
  ·simp only [e,aU,aG];rfl
 ·simp only [gQ.s1,dB,aj]
theorem rE (b:Bool) (c:Int):gQ [aQ.mk b c]=some (if b=true then 0 else c):=by
 rw [U4 _ (by simp)];cases b<;>rfl
theorem Xk (a b:Bool) (c d:Int):gQ [aQ.mk a c,aQ.mk b d]=some (if a=true then (if b=true then 0 else d) else c):=by
 rw [U4 _ (by simp)];cases a<;>cases b<;>rfl
theorem aaL (x y:Int):iP [x,y]=some (if x=0 then y else x):=by
 unfold iP;rw [qw (step:=iP.s1 [x,y]) [x,y] (fun r=>if r=0 then none else some r) (fun c=>Sum.inr c) (Sum.inl ()) rfl ?_ ?_ (by simp)]
 ·by_cases h:x=0<;>by_cases k:y=0<;>simp [h,k]
 ·intro i hi;simp only [iP.s1,iZ hi,aG,jo hi,ae];have hi2:i < 2:=by simpa using hi
  by_cases e:[x,y][i]=0
  ·simp only [e,dh,aj,aG];rw [wn (by omega)]
  ·simp only [e,aU,aG];rfl
 ·simp only [iP.s1,dB,aj]
theorem Iz (a b c:Int):fD a b c=bZ a b c:=by
 unfold fD bZ;simp only [Bool.not_or,← decide_not]
 congr 1<;>exact decide_eq_decide.2 (by omega)
theorem FK {α:Type} {n:Nat} {a:α} (h:n≤16777216):Js (n:Int) a=some (List.replicate n a):=by unfold Js;rw [if_pos (by omega)];simp
def clean (n:ag):Bool :=
 (((((((n.Kind==0) || (n.Value==0))&&(((n.Kind==1) || ((n.Kind==8) || (n.Kind==9))) || (n.Var==0)))&&((bY n.Kind) || (n.B==0)))&&(((bY n.Kind) || (n.Kind==7)) || (n.A==0)))&&((n.Kind==1) || ((n.Subscripts.length:Int)==0)))&&((n.Kind==9) || ((n.Forms.length:Int)==0)))
theorem SE (n:ag):jG n=some (clean n):=by
 unfold jG;by_cases h1:n.Kind=1
 ·rw [if_pos h1];unfold jG.j1 clean;simp [h1]
 ·rw [if_neg h1];by_cases h8:n.Kind=8
  ·rw [if_pos h8];unfold jG.j1 clean;simp [h8]
  ·rw [if_neg h8];unfold jG.j1 clean;have e1:(n.Kind==1)=false:=by simpa using h1
   have e8:(n.Kind==8)=false:=by simpa using h8
   simp only [e1,e8,Bool.false_or]
def SA (i:Nat) (n:ag):Bool:=(fH n).all fun k=>bZ k 0 ((i:Int) - 1)
def QR (i:Nat) (n:ag):Int:=if ¬ bZ n.Kind 0 9=true then 15 else if (SA i n&&clean n)=true then 0 else 3
def bump (b:List Int) (k:Int):List Int:=b.set k.toNat (w (b.getD k.toNat 0+1))
def Ua (b:List Int) (n:ag):List Int:=(fH n).foldl bump b
theorem CW (b:List Int) (k:Int):(bump b k).length=b.length:=by simp [bump]
theorem vg:∀ (ks:List Int) (b:List Int),(ks.foldl bump b).length=b.length
 | [],b=>rfl
 | k::ks,b=>by rw [dY,vg ks,CW]
theorem G8 (b:List Int) (n:ag):(Ua b n).length=b.length:=vg _ _
theorem pJ {a b c:Int}:bZ a b c=true↔b≤a∧a≤c:=by unfold bZ;simp
theorem at_in {α:Type} [Inhabited α] {xs:List α} {k:Int} {d:α} (h0:0≤k) (h:k < xs.length):at_ xs k=some (xs.getD k.toNat d):=by
 have e:k=((k.toNat:Nat):Int):=by omega
 rw [e,jo (by omega)];simp only [jD]
 congr 1
 rw [aO,au (by omega)];rfl
theorem Rh (i:Nat):∀ (ks:List Int) (j:Nat) (b:List Int),iw (ρ:=Int×List Int) (fun _ b k=>if bZ k 0 ((i:Int) - 1)=true then .inr (bump b k) else .inl (3,b)) j ks b =
  if ks.all (fun k=>bZ k 0 ((i:Int) - 1))=true then .inr (ks.foldl bump b) else .inl (3,((iw (ρ:=Int×List Int) (fun _ b k=>if bZ k 0 ((i:Int) - 1)=true then .inr (bump b k) else .inl (3,b)) j ks b).elim (fun e=>e.2) id))
 | [],j,b=>by simp [iw]
 | k::ks,j,b=>by
  simp only [iw,mg,dY];by_cases h:bZ k 0 ((i:Int) - 1)=true
  ·simp only [h,aG,iK];exact Rh i ks (j+1) (bump b k)
  ·simp [h]
theorem ZK {i:Nat} {n:ag} {b:List Int} (hi:i < b.length) (hb:b.length < 1000):∃ b',jc i n b=some (QR i n,b')∧(QR i n=0→b'=Ua b n):=by
 unfold jc QR;by_cases hk:bZ n.Kind 0 9=true
 ·simp only [hk,dh,aj];have hw:w ((i:Int) - 1)=(i:Int) - 1:=uF (by omega) (by omega);have hol:(fH n).length < 3:=by unfold fH;split<;>(try split)<;>simp
  rw [kP (step:=jc.s1 i n) (fH n) (fun j b=>(j,b)) (fun r=>Sum.inr r) (fun b=>Sum.inl b) (fun _ b k=>if bZ k 0 ((i:Int) - 1)=true then .inr (bump b k) else .inl (3,b)) (fun _ b'=>b'.length=b.length) (a:=b) rfl ?_ ?_ rfl (by omega)]
  ·rw [Rh];unfold SA;by_cases ha:(fH n).all (fun k=>bZ k 0 ((i:Int) - 1))=true
   ·simp only [ha,aG,ae,SE,rE,iK];exact ⟨_,rfl,fun _=>rfl⟩
   ·simp only [ha,aF,aj,ae,jQ];exact ⟨_,rfl,fun h=>by simp at h⟩
  ·intro j hj b' hb';refine ⟨?_,?_⟩
   ·simp only [jc.s1,iZ hj,aG,jo hj,ae,hw];by_cases hin:bZ (fH n)[j] 0 ((i:Int) - 1)=true
    ·simp only [hin,dh,aj,aG];have hr:=pJ.1 hin;rw [at_in (d:=0) hr.1 (by omega),wn (by omega)];rfl
    ·simp only [hin,aU,aG];rfl
   ·intro b'' e;split at e
    ·cases e;rw [CW];exact hb'
    ·cases e
  ·intro b' hb';simp only [jc.s1,dB,aj]
 ·simp only [hk,aU,aG];exact ⟨b,rfl,fun h=>by simp at h⟩
def uj (i:Nat) (b:List Int) (n:ag):Sum Int (List Int):=if QR i n=0 then .inr (Ua b n) else .inl (QR i n)
theorem Aq {α β ρ τ:Type} {f:Nat→β→α→Sum ρ β} {g:Nat→β→α→Sum τ β} (π:ρ→τ) (Inv:β→Prop) (N:Nat)
  (h:∀ i b x,i < N→Inv b→(match f i b x with | .inl r=>g i b x = .inl (π r) | .inr b'=>g i b x = .inr b'∧Inv b')):∀ (xs:List α) (i:Nat) (b:β),i+xs.length=N→Inv b →
  (match iw f i xs b with | .inl r=>iw g i xs b = .inl (π r) | .inr b'=>iw g i xs b = .inr b')
 | [],i,b,_,_=>rfl
 | x::xs,i,b,hN,hI=>by
  have h1:=h i b x (by simp at hN;omega) hI;simp only [iw];cases hf:f i b x with
  | inl r=>rw [hf] at h1;simp only at h1 ⊢;rw [h1]
  | inr b' =>
   rw [hf] at h1;simp only at h1 ⊢;rw [h1.1];exact Aq π Inv N h xs (i+1) b' (by simp at hN;omega) h1.2
def c1F (i:Nat) (b:List Int) (n:ag):Sum (Int×Int×List Int) (List Int) :=
 match jc i n b with
 | some (c,b')=>if c=0 then .inr b' else .inl ((i:Int),c,b')
 | none => .inr b
theorem YT (e:List ag) (he:e.length < 1000):∃ k b',bC e (List.replicate e.length 0)=some (k,(match iw uj 0 e (List.replicate e.length 0) with | .inl c=>c | .inr _=>0),b') ∧
  (∀ b,iw uj 0 e (List.replicate e.length 0) = .inr b→b'=b)∧(∀ c,iw uj 0 e (List.replicate e.length 0) = .inl c→c≠0):=by
 have key:∀ i (b:List Int) n,i < e.length→b.length=e.length→(match c1F i b n with | .inl r=>uj i b n = .inl r.2.1∧r.2.1≠0 | .inr b'=>uj i b n = .inr b'∧b'.length=e.length):=by
  intro i b n hi hb;obtain ⟨b',h1,h2⟩:=ZK (n:=n) (show i < b.length by omega) (by omega);unfold c1F uj;rw [h1];by_cases hn:QR i n=0
  ·simp only [hn,aG];rw [h2 hn];exact ⟨rfl,by rw [G8];exact hb⟩
  ·simp only [hn,aj];exact ⟨trivial,hn⟩
 unfold bC;rw [kP (step:=bC.s1 e) e (fun i b=>(i,b)) (fun r=>Sum.inr r) (fun b=>Sum.inl b) c1F (fun _ b=>b.length=e.length) (a:=List.replicate e.length 0) rfl ?_ ?_ (by simp) (by omega)]
 ·have h3:=Aq (f:=c1F) (g:=uj) (fun r=>r.2.1) (fun b=>b.length=e.length) e.length (fun i b x hi hb=>by
   have:=key i b x hi hb;cases hc:c1F i b x with
   | inl r=>rw [hc] at this;exact this.1
   | inr b'=>rw [hc] at this;exact this) e 0 (List.replicate e.length 0) (by simp) (by simp)
  have h4:=Aq (f:=c1F) (g:=fun i b n=>match c1F i b n with | .inl r=>if r.2.1=0 then .inr b else .inl r.2.1 | .inr b' => .inr b') (fun r=>r.2.1) (fun b=>b.length=e.length) e.length (fun i b x hi hb=>by
   have:=key i b x hi hb;cases hc:c1F i b x with
   | inl r=>rw [hc] at this;simp only [this.2,aj]
   | inr b'=>rw [hc] at this;simp only;exact ⟨trivial,this.2⟩) e 0 (List.replicate e.length 0) (by simp) (by simp)
  have h5:∀ (xs:List ag) (i:Nat) (b:List Int) r,i+xs.length=e.length→b.length=e.length→iw c1F i xs b = .inl r→r.2.1≠0:=by
   intro xs
   induction xs with
   | nil=>intro i b r _ _ h;cases h
   | cons x xs ih =>
    intro i b r hN hb h;have:=key i b x (by simp at hN;omega) hb;simp only [iw] at h;cases hc:c1F i b x with
    | inl r'=>rw [hc] at this h;cases h;exact this.2
    | inr b'=>rw [hc] at this h;exact ih (i+1) b' r (by simp at hN;omega) this.2 h
  cases hs:iw c1F 0 e (List.replicate e.length 0) with
  | inl r =>
   rw [hs] at h3;simp only at h3;rw [h3];refine ⟨r.1,r.2.2,rfl,?_,?_⟩
   ·intro b h;cases h
   ·intro c h;cases h;exact h5 _ _ _ r (by simp) (by simp) hs
  | inr b' =>
   rw [hs] at h3;simp only at h3;rw [h3];refine ⟨0,b',rfl,?_,?_⟩
   ·intro b h;cases h;rfl
   ·intro c h;cases h
 ·intro i hi b hb;have hc:=key i b e[i] hi hb;refine ⟨?_,?_⟩
  ·simp only [bC.s1,iZ hi,aG,jo hi,ae];obtain ⟨b',h1,h2⟩:=ZK (n:=e[i]) (show i < b.length by omega) (by omega);unfold c1F;rw [h1];simp only [ae];by_cases hn:QR i e[i]=0
   ·simp only [hn,dh,aj,aG];rw [wn (by omega)]
   ·simp only [hn,aU,aG,aj]
  ·intro b' h;rw [h] at hc;exact hc.2
 ·intro b hb;simp only [bC.s1,dB,aj]
def yj (N:Nat):Nat→List Int→Int
 | _,[]=>0
 | i,x::xs=>if ((i+1=N∧x=0)∨(i+1≠N∧x=1)) then yj N (i+1) xs else 3
def Ie (e:List ag):Int :=
 if e.length=0 then 17 else if 40 < e.length then 8 else
 match iw uj 0 e (List.replicate e.length 0) with
 | .inl c=>c
 | .inr b=>yj e.length 0 b
theorem MG (N:Nat):∀ (xs:List Int) (i:Nat),iw (β:=Unit) (ρ:=Int) (fun i b x=>if ((i+1=N∧x=0)∨(i+1≠N∧x=1)) then .inr b else .inl 3) i xs ()=if yj N i xs=0 then .inr () else .inl 3
 | [],i=>rfl
 | x::xs,i=>by
  simp only [iw,yj];by_cases h:((i+1=N∧x=0)∨(i+1≠N∧x=1))
  ·simp only [h,aG];exact MG N xs (i+1)
  ·simp [h]
theorem D6 (N:Nat):∀ (xs:List Int) (i:Nat),yj N i xs=0∨yj N i xs=3
 | [],i => .inl rfl
 | x::xs,i=>by
  simp only [yj];split
  ·exact D6 N xs (i+1)
  ·exact .inr rfl
theorem aaC {b:List Int} {N:Nat} (hN:0 < N) (hb:b.length=N) (hl:N < 1000):∃ k,dm b (w ((N:Int) - 1))=some (k,yj N 0 b):=by
 have hw:w ((N:Int) - 1)=(N:Int) - 1:=uF (by omega) (by omega);rw [hw];unfold dm;rw [kP (step:=dm.s1 b ((N:Int) - 1)) b (fun i (_:Unit)=>i) (fun (r:Int×Int)=>Sum.inr r) (fun _=>Sum.inl ()) (fun i b x=>if ((i+1=N∧x=0)∨(i+1≠N∧x=1)) then .inr b else .inl ((i:Int),3)) (fun _ _=>True) rfl ?_ ?_ trivial (by omega)]
 ·have h3:=Aq (f:=fun i (b:Unit) (x:Int)=>if ((i+1=N∧x=0)∨(i+1≠N∧x=1)) then Sum.inr b else Sum.inl ((i:Int),(3:Int))) (g:=fun i b x=>if ((i+1=N∧x=0)∨(i+1≠N∧x=1)) then .inr b else .inl (3:Int)) (fun r=>r.2) (fun _=>True) b.length (fun i b x _ _=>by
   by_cases h:((i+1=N∧x=0)∨(i+1≠N∧x=1))
   ·simp only [h,aG];exact ⟨trivial,trivial⟩
   ·simp only [h,aj]) b 0 () (by simp) trivial
  rw [MG] at h3;cases hs:iw (fun i (b:Unit) (x:Int)=>if ((i+1=N∧x=0)∨(i+1≠N∧x=1)) then Sum.inr b else Sum.inl ((i:Int),(3:Int))) 0 b () with
  | inl r =>
   rw [hs] at h3;simp only at h3;rcases D6 N b 0 with h | h
   ·rw [h] at h3;simp at h3
   ·rw [h] at h3 ⊢;simp at h3;obtain ⟨k,c⟩:=r;simp only at h3;subst h3;exact ⟨k,rfl⟩
  | inr u =>
   rw [hs] at h3;simp only at h3;rcases D6 N b 0 with h | h
   ·rw [h];exact ⟨0,rfl⟩
   ·rw [h] at h3;simp at h3
 ·intro i hi u _;refine ⟨?_,fun _ _=>trivial⟩;simp only [dm.s1,iZ hi,aG,jo hi,ae,sO,rE];by_cases e1:i+1=N
  ·have e2:((i:Int)==(N:Int) - 1)=true:=by simp;omega
   have e3:((i:Int) != (N:Int) - 1)=false:=by simp;omega
   simp only [e2,e3,iK,jQ,Bool.or_false,e1,true_and,ne_eq,dh,false_and,or_false];by_cases e4:b[i]=0
   ·simp [e4];rw [wn (by omega)];congr 3
   ·simp [e4]
  ·have e2:((i:Int)==(N:Int) - 1)=false:=by simp;omega
   have e3:((i:Int) != (N:Int) - 1)=true:=by simp;omega
   simp only [e2,e3,iK,jQ,Bool.false_or,e1,false_and,ne_eq,aU,true_and,false_or];by_cases e4:b[i]=1
   ·simp [e4];rw [wn (by omega)];congr 3
   ·simp [e4]
 ·intro u _;simp only [dm.s1,dB,aj]
theorem Gu:∀ (xs:List ag) (i:Nat) (b b':List Int),iw uj i xs b = .inr b'→b'.length=b.length
 | [],i,b,b',h=>by cases h;rfl
 | x::xs,i,b,b',h=>by
  simp only [iw,uj] at h;split at h
  ·cases h
  ·rename_i b1 hb1
   split at hb1
   ·cases hb1;rw [Gu xs (i+1) _ b' h,G8]
   ·cases hb1
theorem Su (e:List ag) (he:e.length < 1000):uu e=some (Ie e):=by
 unfold uu Ie;rw [Xk];by_cases h0:e.length=0
 ·simp [h0]
 ·have h0':decide ((e.length:Int) > 0)=true:=by simp;omega
  rw [if_pos h0',if_neg h0];by_cases h4:40 < e.length
  ·have:decide ((e.length:Int)≤40)=false:=by simp;omega
   rw [this,if_pos h4];rfl
  ·have:decide ((e.length:Int)≤40)=true:=by simp;omega
   rw [this,if_neg h4];simp only [aG,ae,dh,aj,FK (show e.length≤16777216 by omega)];obtain ⟨k,b',h1,h2,h3⟩:=YT e he;rw [h1];simp only [ae];cases hs:iw uj 0 e (List.replicate e.length 0) with
   | inl c=>simp only;rw [if_pos (h3 c hs)]
   | inr b =>
    have:=h2 b hs;subst this;have hl:=Gu _ _ _ _ hs;simp only [mJ] at hl;obtain ⟨k2,h5⟩:=aaC (b:=b') (N:=e.length) (by omega) hl (by omega);simp only [dh,aj,h5,ae]
end Go.Sh
set_option linter.all false
namespace Go.Sh
open Go.Lx
theorem ZJ (i N:Nat) (h:i < N) (hN:N < 1000):nD (decide ((i:Int) < w ((N:Int) - 1)))=if i+1=N then 0 else 1:=by
 rw [uF (by omega) (by omega)];unfold nD;by_cases e:i+1=N
 ·have:decide ((i:Int) < (N:Int) - 1)=false:=by simp;omega
  simp [this,e]
 ·have:decide ((i:Int) < (N:Int) - 1)=true:=by simp;omega
  simp [this,e]
theorem Vx (e:List ag) (b:List Int) (hb:b.length=e.length) (hl:e.length < 1000):fZ (dC.s4 e b) 0=some (if yj e.length 0 b=0 then .inl () else .inr (yj e.length 0 b)):=by
 rw [kP (step:=dC.s4 e b) b (fun i (_:Unit)=>i) (fun (r:Int)=>Sum.inr r) (fun _=>Sum.inl ()) (fun i b x=>if ((i+1=e.length∧x=0)∨(i+1≠e.length∧x=1)) then .inr b else .inl 3) (fun _ _=>True) rfl ?_ ?_ trivial (by omega)]
 ·rw [MG];rcases D6 e.length b 0 with h | h
  ·rw [h];rfl
  ·rw [h];rfl
 ·intro i hi u _;refine ⟨?_,fun _ _=>trivial⟩;simp only [dC.s4,iZ (show i < e.length by omega),aG,jo hi,ae];rw [ZJ i e.length (by omega) hl];by_cases e1:i+1=e.length
  ·by_cases e2:b[i]=0
   ·simp only [e1,e2,aG,dh,aj,true_and,true_or];rw [wn (by omega)];rw [← e1]
   ·simp [e1,e2]
  ·by_cases e2:b[i]=1
   ·simp only [e1,e2,aG,dh,aj,ne_eq,aU,true_and,or_true];rw [wn (by omega)]
   ·simp [e1,e2]
 ·intro u _;have:((b.length:Nat):Int)=(e.length:Int):=by omega
  rw [this];simp only [dC.s4,dB,aj]
theorem Xb {i:Nat} {b:List Int} {n:ag} {a8:Bool×Bool×Bool×Bool×Bool×Bool} (hi:i < b.length) (hb:b.length < 1000) (h:a8.2.2.2.2.2=true→bZ n.B 0 ((i:Int) - 1)=true) (b0:List Int) (h0:b0.length=b.length) :
  dC.j3 ((i:Int),b) n a8 b0=some (.inl (((i+1:Nat):Int),if a8.2.2.2.2.2=true then bump b0 n.B else b0)):=by
 unfold dC.j3;cases ha:a8.2.2.2.2.2 with
 | true =>
  have hr:=pJ.1 (h ha);simp only [aG];rw [at_in (d:=0) hr.1 (by omega),wn (by omega)];rfl
 | false=>simp only [aF,aj];rw [wn (by omega)]
theorem aaI {i:Nat} {b:List Int} {n:ag} {a8:Bool×Bool×Bool×Bool×Bool×Bool} (hi:i < b.length) (hb:b.length < 1000)
  (hops:fH n=(if a8.2.2.2.2.1=true then [n.A] else [])++(if a8.2.2.2.2.2=true then [n.B] else []))
  (hcl:clean n=!(((((((!a8.1)&&(n.Value != 0)) || ((!a8.2.1)&&(n.Var != 0))) || ((!a8.2.2.1)&&(decide ((n.Subscripts.length:Int) > 0)))) || ((!a8.2.2.2.1)&&(decide ((n.Forms.length:Int) > 0)))) || ((!a8.2.2.2.2.1)&&(n.A != 0))) || ((!a8.2.2.2.2.2)&&(n.B != 0)))) (hk:bZ n.Kind 0 9=true) :
  dC.j2 ((i:Int),b) n a8=some (match uj i b n with | .inl c => .inr (.inr c) | .inr b' => .inl (((i+1:Nat):Int),b')):=by
 unfold dC.j2 uj QR;simp only [hk,dh,aj];have hw:w ((i:Int) - 1)=(i:Int) - 1:=uF (by omega) (by omega);have hX:(((((((!a8.1)&&(n.Value != 0)) || ((!a8.2.1)&&(n.Var != 0))) || ((!a8.2.2.1)&&(decide ((n.Subscripts.length:Int) > 0)))) || ((!a8.2.2.2.1)&&(decide ((n.Forms.length:Int) > 0)))) || ((!a8.2.2.2.2.1)&&(n.A != 0))) || ((!a8.2.2.2.2.2)&&(n.B != 0)))=!(clean n):=by rw [hcl,Bool.not_not]
 by_cases hc:clean n=true
 ·rw [if_neg (by rw [hX,hc];simp)];simp only [Iz,hw];unfold SA Ua;rw [hops,hc];obtain ⟨a1,a2,a3,a4,a5,a6⟩:=a8;simp only at *
  cases a5<;>cases a6
  ·simp;rw [Xb hi hb (by simp) b rfl];simp
  ·by_cases hB:bZ n.B 0 ((i:Int) - 1)=true
   ·simp [hB];rw [Xb hi hb (by simp [hB]) b rfl];simp
   ·simp [hB]
  ·by_cases hA:bZ n.A 0 ((i:Int) - 1)=true
   ·have hr:=pJ.1 hA;simp [hA];rw [at_in (d:=0) hr.1 (by omega)];simp only [ae];rw [Xb hi hb (by simp) _ (by simp)];simp [bump]
   ·simp [hA]
  ·by_cases hA:bZ n.A 0 ((i:Int) - 1)=true
   ·by_cases hB:bZ n.B 0 ((i:Int) - 1)=true
    ·have hr:=pJ.1 hA;simp [hA,hB];rw [at_in (d:=0) hr.1 (by omega)];simp only [ae];rw [Xb hi hb (by simp [hB]) _ (by simp)];simp [bump]
    ·simp [hA,hB]
   ·simp [hA]
 ·have:clean n=false:=gV hc;rw [if_pos (by rw [hX,this];rfl)];simp [this]
theorem kinds {k:Int} (h:bZ k 0 9=true):k=0∨k=1∨k=2∨k=3∨k=4∨k=5∨k=6∨k=7∨k=8∨k=9:=by
 have:=pJ.1 h;omega
theorem SY {e:List ag} {i:Nat} (hi:i < e.length) (he:e.length < 1000) {b:List Int} (hb:b.length=e.length) :
  dC.s1 e ((i:Int),b)=some (match uj i b e[i] with | .inl c => .inr (.inr c) | .inr b' => .inl (((i+1:Nat):Int),b')):=by
 simp only [dC.s1,iZ hi,aG,jo hi,ae,Iz];generalize e[i]=n;by_cases hk:bZ n.Kind 0 9=true
 ·simp only [hk,dh,aj];have key:=fun (a8:Bool×Bool×Bool×Bool×Bool×Bool) h1 h2=>aaI (i:=i) (b:=b) (n:=n) (a8:=a8) (by omega) (by omega) h1 h2 hk
  have hz:∀ m:Nat,decide ((m:Int) > 0)=!((m:Int)==0):=by
   intro m;by_cases h:m=0
   ·subst h;rfl
   ·have h1:decide ((m:Int) > 0)=true:=by simp;omega
    have h2:((m:Int)==0)=false:=by simp;exact h
    rw [h1,h2];rfl
  have hsub:=hz n.Subscripts.length;have hfor:=hz n.Forms.length;rcases kinds hk with q | q | q | q | q | q | q | q | q | q<;>simp only [q,aG,aj,show (1:Int)≠0 by omega,show ((2:Int)=0)=False by simp,show ((2:Int)=1)=False by simp,show ((2:Int)=7)=False by simp,show ((2:Int)=8)=False by simp,show ((2:Int)=9)=False by simp,Int.reduceEq] <;>
   (refine key _ ?_ ?_
    ·simp [fH,bY,q]
    ·unfold clean;rw [hsub,hfor];generalize ((n.Subscripts.length:Int)==0)=u1;generalize ((n.Forms.length:Int)==0)=u2;simp only [bY,q,bne];generalize (n.Value==0)=u3;generalize (n.Var==0)=u4;generalize (n.A==0)=u5;generalize (n.B==0)=u6;revert u1 u2 u3 u4 u5 u6;decide)
 ·simp only [hk,aU,aG];unfold uj QR;simp [hk]
theorem Md (e:List ag) (he:e.length < 1000):dC e=some (Ie e):=by
 unfold dC Ie;by_cases h0:e.length=0
 ·simp [h0]
 ·rw [if_neg (by omega),if_neg h0];by_cases h4:40 < e.length
  ·rw [if_pos (by omega),if_pos h4]
  ·rw [if_neg (by omega),if_neg h4];rw [FK (by omega)];simp only [ae];rw [kP (step:=dC.s1 e) e (fun i b=>(i,b)) (fun r=>Sum.inr r) (fun b=>Sum.inl b) uj (fun _ b=>b.length=e.length) (a:=List.replicate e.length 0) rfl ?_ ?_ (by simp) (by omega)]
   ·cases hs:iw uj 0 e (List.replicate e.length 0) with
    | inl c=>rfl
    | inr b =>
     have hl:=Gu _ _ _ _ hs;simp only [mJ] at hl;simp only [ae];rw [Vx e b hl he];rcases D6 e.length b 0 with h | h<;>rw [h]<;>rfl
   ·intro i hi b hb;refine ⟨?_,?_⟩
    ·rw [SY hi he hb];cases uj i b e[i]<;>rfl
    ·intro b' h;unfold uj at h;split at h
     ·cases h;rw [G8];exact hb
     ·cases h
   ·intro b hb;simp only [dC.s1,dB,aj]
end Go.Sh
set_option linter.all false
namespace Go.Sh
open Go.Lx
def TI {ρ τ β γ:Type} (π:ρ→τ) (R:β→γ→Prop):Sum ρ β→Sum τ γ→Prop
 | .inl r, .inl t=>t=π r
 | .inr b, .inr c=>R b c
 | _,_=>False
theorem Oz {α β γ ρ τ:Type} {f:Nat→β→α→Sum ρ β} {g:Nat→γ→α→Sum τ γ} (π:ρ→τ) (R:Nat→β→γ→Prop) (e:List α)
  (h:∀ i (hi:i < e.length) b c,R i b c→TI π (R (i+1)) (f i b e[i]) (g i c e[i])) :
  ∀ (ys:List α) (i:Nat) (b:β) (c:γ),e.drop i=ys→i≤e.length→R i b c→TI π (R e.length) (iw f i ys b) (iw g i ys c)
 | [],i,b,c,hd,hi,hR=>by
  have:i=e.length:=by have:=congrArg List.length hd;simp at this;omega
  subst this;exact hR
 | y::ys,i,b,c,hd,hi,hR=>by
  have hlt:i < e.length:=by have:=congrArg List.length hd;simp at this;omega
  have hy:e[i]=y∧e.drop (i+1)=ys:=by
   rw [kG hlt] at hd;injection hd with h1 h2
   exact ⟨h1,h2⟩
  have h1:=h i hlt b c hR;rw [hy.1] at h1;simp only [iw];cases hf:f i b y with
  | inl r =>
   rw [hf] at h1;cases hg:g i c y with
   | inl t=>rw [hg] at h1;exact h1
   | inr c'=>rw [hg] at h1;exact h1.elim
  | inr b' =>
   rw [hf] at h1;cases hg:g i c y with
   | inl t=>rw [hg] at h1;exact h1.elim
   | inr c'=>rw [hg] at h1;exact Oz π R e h ys (i+1) b' c' hy.2 hlt h1
theorem OA:∀ (xs:List ag) (i:Nat) (b b':List Int),iw uj i xs b = .inr b'→∀ k (hk:k < xs.length),QR (i+k) xs[k]=0
 | [],i,b,b',h,k,hk=>by simp at hk
 | x::xs,i,b,b',h,k,hk=>by
  simp only [iw] at h;cases hs:uj i b x with
  | inl c=>rw [hs] at h;cases h
  | inr b1 =>
   rw [hs] at h;have h0:QR i x=0:=by unfold uj at hs;split at hs;assumption;cases hs
   cases k with
   | zero=>simpa using h0
   | succ k =>
    have:=OA xs (i+1) b1 b' h k (by simpa using hk);rw [show i+1+k=i+(k+1) by omega] at this;simpa using this
structure GI (e:List ag):Prop where
 pos:0 < e.length
 len:e.length≤40
 node:∀ i (hi:i < e.length),QR i e[i]=0
 use:∃ b,iw uj 0 e (List.replicate e.length 0) = .inr b∧yj e.length 0 b=0
theorem VG:∀ (xs:List ag) (i:Nat) (b:List Int) (c:Int),iw uj i xs b = .inl c→c≠0
 | [],i,b,c,h=>by cases h
 | x::xs,i,b,c,h=>by
  simp only [iw] at h;cases hs:uj i b x with
  | inl c'=>rw [hs] at h;cases h;unfold uj at hs;split at hs;cases hs;cases hs;assumption
  | inr b1=>rw [hs] at h;exact VG xs (i+1) b1 c h
theorem PH {e:List ag} (h:Ie e=0):GI e:=by
 unfold Ie at h;split at h
 ·cases h
 ·rename_i h0
  split at h
  ·cases h
  ·rename_i h4
   cases hs:iw uj 0 e (List.replicate e.length 0) with
   | inl c=>rw [hs] at h;exact absurd h (VG _ _ _ _ hs)
   | inr b =>
    rw [hs] at h;exact ⟨by omega,by omega,fun i hi=>by have:=OA e 0 _ b hs i hi;simpa using this,b,hs,h⟩
structure JQ (i:Nat) (n:ag):Prop where
 kind:bZ n.Kind 0 9=true
 ops:SA i n=true
 cl:clean n=true
theorem Y1 {i:Nat} {n:ag} (h:QR i n=0):JQ i n:=by
 unfold QR at h;split at h
 ·cases h
 ·rename_i h1
  split at h
  ·rename_i h2
   simp only [aS] at h2;exact ⟨by simpa using h1,h2.1,h2.2⟩
  ·cases h
theorem JQ.A {i:Nat} {n:ag} (h:JQ i n) (hk:n.Kind=7∨bY n.Kind=true):0≤n.A∧n.A < i:=by
 have h2:=h.ops;unfold SA fH at h2;rcases hk with q | q
 ·simp [q,bY] at h2;have:=pJ.1 h2;omega
 ·simp [q] at h2;have:=pJ.1 h2.1;omega
theorem JQ.B {i:Nat} {n:ag} (h:JQ i n) (hk:bY n.Kind=true):0≤n.B∧n.B < i:=by
 have h2:=h.ops;unfold SA fH at h2;simp [hk] at h2;have:=pJ.1 h2.2;omega
theorem Na {n:ag} (hk:bZ n.Kind 0 9=true) (h0:n.Kind≠0) (h1:n.Kind≠1) (h7:n.Kind≠7) (h8:n.Kind≠8) (h9:n.Kind≠9):bY n.Kind=true:=by
 have:=pJ.1 hk;unfold bY;simp;omega
def DL:aA:=aA.mk [] [] false
def sU (l:List ah) (v:Int) (q:List az):aA×Int :=
 match at_ l v with
 | none=>(DL,6)
 | some a=>((pV a.Bounds q).1,if (pV a.Bounds q).2=0 then (if (pV a.Bounds q).1.Offsets.length≤60 then 0 else 8) else (pV a.Bounds q).2)
theorem Ei {α:Type} {xs:List α} {k:Int}:at_ xs k=none↔¬ bZ k 0 ((xs.length:Int) - 1)=true:=by
 rw [pJ];unfold at_;by_cases h:0≤k
 ·rw [if_pos h,List.getElem?_eq_none_iff];omega
 ·rw [if_neg h];simp;omega
theorem Rk {l:List ah} {v:Int} {q:List az} (hl:l.length < 1000) (hq:∀ s,s∈q→s.List.length < 16777216):pR l v q=some (sU l v q):=by
 unfold pR sU;rw [uF (by omega) (by omega)];cases ha:at_ l v with
 | none=>rw [if_pos (Ei.1 ha)];rfl
 | some a =>
  have:bZ v 0 ((l.length:Int) - 1)=true:=by
   have h1:=mt Ei.2 (by rw [ha];simp:¬ at_ l v=none);simpa using h1
  rw [if_neg (by simp [this])];simp only [ae,OD a.Bounds q hq,rE,aaL];by_cases h1:(pV a.Bounds q).1.Offsets.length≤60
  ·have:decide (((pV a.Bounds q).1.Offsets.length:Int)≤60)=true:=by simp;omega
   simp only [this,h1,aG]
  ·have:decide (((pV a.Bounds q).1.Offsets.length:Int)≤60)=false:=by simp;omega
   simp only [this,h1,aj,aF]
def kS (l:List ah) (i:Nat) (out:List (List Int)) (n:ag):Sum Int (List (List Int)) :=
 if n.Kind=0 then (if bZ n.Value (-2147483648) 2147483647=true then .inr (out++[[]]) else .inl 2)
 else if n.Kind=1 then (if (sU l n.Var n.Subscripts).2=0 then .inr (out++[(sU l n.Var n.Subscripts).1.Extents]) else .inl (sU l n.Var n.Subscripts).2)
 else if n.Kind=7 then .inr (out++[out.getD n.A.toNat []])
 else if out.getD n.A.toNat []≠[]∧out.getD n.B.toNat []≠[]∧out.getD n.A.toNat []≠out.getD n.B.toNat [] then .inl 10
 else .inr (out++[if out.getD n.A.toNat []=[] then out.getD n.B.toNat [] else out.getD n.A.toNat []])
def shE (l:List ah) (e:List ag):Sum Int (List (List Int)):=iw (kS l) 0 e []
def odd (n:ag):Bool:=(n.Kind==8) || (n.Kind==9)
def yU (l:List ah) (e:List ag):Int :=
 if Ie e≠0 then Ie e else if e.any odd=true then 15 else match shE l e with | .inl c=>c | .inr _=>0
def QW (l:List ah) (e:List ag):List (List Int):=match shE l e with | .inl _=>[] | .inr out=>out
theorem E8 {l:List ah} {i:Nat} {out out':List (List Int)} {n:ag} (h:kS l i out n = .inr out'):out'.length=out.length+1:=by
 unfold kS at h
 repeat' split at h
 all_goals first | (cases h;simp) | (cases h;done)
theorem VM {l:List ah} {i:Nat} {out:List (List Int)} {n:ag} {c:Int} (h:kS l i out n = .inl c):c≠0:=by
 unfold kS at h
 repeat' split at h
 all_goals first | (cases h;first | assumption | simp) | (cases h;done)
def Small (e:List ag):Prop:=e.length < 1000∧∀ n,n∈e→∀ s,s∈n.Subscripts→s.List.length < 16777216
theorem Uw {a b:List Int} (ha:a.length < 16777216):slices_Equal_int a b=some (a==b):=by
 unfold slices_Equal_int;by_cases h:a.length=b.length
 ·rw [if_neg (by omega)];rw [kP (step:=slices_Equal_int.s1 a b) a (fun i (_:Unit)=>i) (fun (r:Bool)=>Sum.inr r) (fun _=>Sum.inl ()) (fun i u x=>if x=b.getD i 0 then .inr u else .inl false) (fun _ _=>True) rfl ?_ ?_ trivial (by omega)]
  ·have key:∀ (xs ys:List Int) (i:Nat),b.drop i=ys→xs.length=ys.length→iw (ρ:=Bool) (fun i (u:Unit) x=>if x=b.getD i 0 then .inr u else .inl false) i xs ()=if xs=ys then .inr () else .inl false:=by
    intro xs
    induction xs with
    | nil=>intro ys i _ hy;cases ys with | nil=>rfl | cons _ _=>simp at hy
    | cons x xs ih =>
     intro ys i hd hy;cases ys with
     | nil=>simp at hy
     | cons y ys =>
      have hlt:i < b.length:=by have:=congrArg List.length hd;simp at this;omega
      rw [kG hlt] at hd;injection hd with h1 h2
      simp only [iw];have e1:b.getD i 0=y:=by rw [aO,au hlt];exact h1
      rw [e1];by_cases hx:x=y
      ·simp only [hx,aG];rw [ih ys (i+1) h2 (by simpa using hy)];simp
      ·simp [hx]
   rw [key a b 0 (by simp) h];by_cases e:a=b
   ·simp [e]
   ·have:(a==b)=false:=by simpa using e
    simp [e,this]
  ·intro i hi u _;refine ⟨?_,fun _ _=>trivial⟩;simp only [slices_Equal_int.s1,iZ hi,aG,jo hi,jo (show i < b.length by omega),ae];have e1:b.getD i 0=b[i]:=by rw [aO,au (by omega)];rfl
   rw [e1];by_cases hx:a[i]=b[i]
   ·simp only [hx,dh,aj,aG];rw [wn (by omega)]
   ·simp [hx]
  ·intro u _;simp only [slices_Equal_int.s1,dB,aj]
 ·rw [if_pos (by omega)];have:(a==b)=false:=by simp;intro q;exact h (by rw [q])
  rw [this]
end Go.Sh
set_option linter.all false
namespace Go.Sh
open Go.Lx
theorem Y3 (e:List ag) (he:e.length < 1000):dM e=some (e.any odd):=by
 unfold dM aW;obtain ⟨k,hk⟩:=wu (step:=aW.s1 e) e odd (fun i=>Sum.inr i) (Sum.inl ()) (s:=0) rfl (fun i hi=>by
  simp only [aW.s1,iZ hi,aG,jo hi,ae,rq];by_cases o:odd e[i]=true
  ·have:((e[i].Kind==8) || (e[i].Kind==9))=true:=o;simp only [this,o,aG]
  ·have:((e[i].Kind==8) || (e[i].Kind==9))=false:=gV o;simp only [this,o,aj,aF];rw [wn (by omega)]) (by simp only [aW.s1,dB,aj]) (by omega)
 rw [hk];by_cases h:e.any odd=true
 ·simp only [h,aG,ae];simp
 ·have h':e.any odd=false:=gV h;simp only [h',aF,aj,ae];rfl
theorem Vw (e:List ag) (he:e.length < 1000):fZ (iT.s1 e) 0=some (if e.any odd=true then .inr ([],15) else .inl ()):=by
 obtain ⟨k,hk⟩:=wu (step:=iT.s1 e) e odd (fun i=>Sum.inr (([]:List (List Int)),(15:Int))) (Sum.inl ()) (s:=0) rfl (fun i hi=>by
  simp only [iT.s1,iZ hi,aG,jo hi,ae];unfold odd;by_cases h8:e[i].Kind=8
  ·simp [h8]
  ·by_cases h9:e[i].Kind=9
   ·simp [h9]
   ·simp only [h8,h9,aj];have e8:(e[i].Kind==8)=false:=by simpa using h8
    have e9:(e[i].Kind==9)=false:=by simpa using h9
    simp only [e8,e9,Bool.or_false,aF,aj];rw [wn (by omega)]) (by simp only [iT.s1,dB,aj]) (by omega)
 rw [hk]
structure Nod (i:Nat) (n:ag):Prop where
 ok:JQ i n
 k8:n.Kind≠8
 k9:n.Kind≠9
theorem Kv {e:List ag} (F:GI e) (ho:e.any odd=false) (i:Nat) (hi:i < e.length):Nod i e[i]:=by
 have:=List.any_eq_false.1 ho e[i] (dH hi);unfold odd at this;simp at this;exact ⟨Y1 (F.node i hi),this.1,this.2⟩
theorem XG {l:List ah} {n:ag} {o:List (List Int)} {j:Int} (hl:l.length < 1000) (hq:∀ s,s∈n.Subscripts→s.List.length < 16777216) (hlen:o.length < 1000) :
  (if ¬ ((fD n.Var 0 (w ((l.length:Int) - 1)))=true) then (some (.inr (.inr (([]:List (List Int)),6))):Option (Sum (Int×List (List Int)) (Sum (List (List Int)) ((List (List Int))×Int))))
    else
     (at_ l n.Var).bind fun x19 =>
     (eG x19.Bounds n.Subscripts).bind fun x20 =>
     if ¬ x20.2=0 then
      some (.inr (.inr (([]:List (List Int)),x20.2)))
     else
      if (x20.1.Offsets.length:Int) > 60 then
       some (.inr (.inr (([]:List (List Int)),8)))
      else
       (app o ([x20.1.Extents]:List (List Int))).bind fun x23 =>
       some (.inl (j,x23)))=some (if (sU l n.Var n.Subscripts).2=0 then .inl (j,o++[(sU l n.Var n.Subscripts).1.Extents]) else .inr (.inr ([],(sU l n.Var n.Subscripts).2))):=by
 rw [Iz,uF (by omega) (by omega)];unfold sU;cases ha:at_ l n.Var with
 | none=>rw [if_pos (Ei.1 ha)];rfl
 | some a =>
  have:bZ n.Var 0 ((l.length:Int) - 1)=true:=by
   have h1:=mt Ei.2 (by rw [ha];simp:¬ at_ l n.Var=none);simpa using h1
  rw [if_neg (by simp [this])];simp only [ae,wC a.Bounds n.Subscripts hq];by_cases h2:(pV a.Bounds n.Subscripts).2=0
  ·simp only [h2,dh,aj,aG];by_cases h3:(pV a.Bounds n.Subscripts).1.Offsets.length≤60
   ·rw [if_neg (by omega),jE (by omega)];simp [h3]
   ·rw [if_pos (by omega)];simp [h3]
  ·simp [h2]
theorem tX {b:List (List Int)} (k:Nat) (h:∀ x,x∈b→x.length≤7):(b.getD k []).length≤7:=by
 rw [aO];cases hk:b[k]? with
 | none=>simp
 | some x=>exact h x (bz hk)
theorem AU {l:List ah} {v:Int} {q:List az} (h:(sU l v q).2=0):∃ a,at_ l v=some a∧Sct a.Bounds (sU l v q).1∧(sU l v q).1.Offsets.length≤60∧sU l v q=pV a.Bounds q:=by
 unfold sU at h ⊢;cases ha:at_ l v with
 | none=>rw [ha] at h;cases h
 | some a =>
  rw [ha] at h;simp only at h ⊢;by_cases h2:(pV a.Bounds q).2=0
  ·simp only [h2,aG] at h ⊢;by_cases h3:(pV a.Bounds q).1.Offsets.length≤60
   ·exact ⟨a,rfl,Td h2,h3,by simp [h3,← h2]⟩
   ·simp [h3] at h
  ·simp [h2] at h
theorem FW {l:List ah} {i:Nat} {b b':List (List Int)} {n:ag} (h:kS l i b n = .inr b') (hb:∀ x,x∈b→x.length≤7):∀ x,x∈b'→x.length≤7:=by
 have key:∀ z:List Int,z.length≤7→∀ x,x∈b++[z]→x.length≤7:=by
  intro z hz x hx;simp only [aP,eY] at hx;rcases hx with hx | hx
  ·exact hb x hx
  ·rw [hx];exact hz
 unfold kS at h;split at h
 ·split at h
  ·cases h;exact key _ (by simp)
  ·cases h
 ·split at h
  ·split at h
   ·rename_i h2
    cases h;obtain ⟨a,_,hs,_⟩:=AU h2;exact key _ hs.dims
   ·cases h
  ·split at h
   ·cases h;exact key _ (tX _ hb)
   ·split at h
    ·cases h
    ·cases h;refine key _ ?_;split
     ·exact tX _ hb
     ·exact tX _ hb
theorem XC {l:List ah} {e:List ag} (hl:l.length < 1000) (hs:Small e) (F:GI e) (ho:e.any odd=false) :
  fZ (iT.s2 l e) (0,[])=some (match shE l e with | .inl c => .inr ([],c) | .inr out => .inl out):=by
 unfold shE;rw [kP (step:=iT.s2 l e) e (fun i b=>(i,b)) (fun (c:Int)=>Sum.inr (([]:List (List Int)),c)) (fun b=>Sum.inl b) (kS l) (fun i b=>b.length=i∧∀ x,x∈b→x.length≤7) (a:=[]) rfl ?_ ?_ ⟨rfl,by simp⟩ (by have:=hs.1;omega)]
 ·cases iw (kS l) 0 e []<;>rfl
 ·intro i hi b ⟨hb,h7s⟩;have hN:=Kv F ho i hi;have hlt:=hs.1;refine ⟨?_,fun b' h=>⟨by rw [E8 h,hb],FW h h7s⟩⟩;simp only [iT.s2,iZ hi,aG,jo hi,ae];have hq:=hs.2 e[i] (dH hi);generalize e[i]=n at *
  unfold kS;by_cases h0:n.Kind=0
  ·simp only [h0,aG];rw [show lg n.Value=bZ n.Value (-2147483648) 2147483647 from Iz _ _ _];by_cases hv:bZ n.Value (-2147483648) 2147483647=true
   ·simp only [hv,dh,aj,aG];rw [jE (by omega),wn (by omega)];rfl
   ·simp [hv]
  ·by_cases h1:n.Kind=1
   ·simp only [h0,h1,aG,aj,Int.reduceEq];rw [XG hl hq (by omega),wn (by omega)];by_cases h2:(sU l n.Var n.Subscripts).2=0<;>simp [h2]
   ·by_cases h7:n.Kind=7
    ·simp only [h0,h1,h7,aG,aj,Int.reduceEq];have hA:=hN.ok.A (.inl h7);rw [at_in (d:=[]) hA.1 (by omega)];simp only [ae];rw [jE (by omega),wn (by omega)];rfl
    ·simp only [h0,h1,h7,aj];have hb2:=Na hN.ok.kind h0 h1 h7 hN.k8 hN.k9;have hA:=hN.ok.A (.inr hb2);have hB:=hN.ok.B hb2;rw [at_in (d:=[]) hA.1 (by omega),at_in (d:=[]) hB.1 (by omega)];simp only [ae];have hxs:=tX n.A.toNat h7s;have hys:=tX n.B.toNat h7s;generalize b.getD n.A.toNat []=x at *
     generalize b.getD n.B.toNat []=y at *
     have la:∀ z:List Int,z.length≤7→((app b [z]).bind fun x35=>(some (.inl ((w ((i:Int)+1)),x35)):Option (Sum (Int×List (List Int)) (Sum (List (List Int)) ((List (List Int))×Int)))))=some (.inl (((i+1:Nat):Int),b++[z])):=by
      intro z _;rw [jE (by omega),wn (by omega)];rfl
     simp only [la x hxs,la y hys];cases x with
     | nil=>simp
     | cons x0 xr =>
      cases y with
      | nil=>simp;omega
      | cons y0 yr =>
       have e1:(decide (((x0::xr).length:Int) > 0)&&decide (((y0::yr).length:Int) > 0))=true:=by simp
       rw [if_pos e1,PM (by omega) (by omega)];have e2:¬ (((x0::xr).length:Int)=0):=by simp;omega
       by_cases he:x0::xr=y0::yr
       ·simp [he]
       ·have:(x0::xr==y0::yr)=false:=by simpa using he
        simp only [ae,this];simp [he]
 ·intro b hb;simp only [iT.s2,dB,aj]
theorem Gt {l:List ah} {e:List ag} {out:List (List Int)} (h:shE l e = .inr out):out.length=e.length∧∀ x,x∈out→x.length≤7:=by
 have key:∀ (xs:List ag) (i:Nat) (b b':List (List Int)),iw (kS l) i xs b = .inr b'→(∀ x,x∈b→x.length≤7)→b'.length=b.length+xs.length∧∀ x,x∈b'→x.length≤7:=by
  intro xs
  induction xs with
  | nil=>intro i b b' h hb;cases h;exact ⟨rfl,hb⟩
  | cons x xs ih =>
   intro i b b' h hb;simp only [iw] at h;cases hf:kS l i b x with
   | inl c=>rw [hf] at h;cases h
   | inr b1 =>
    rw [hf] at h;have:=ih (i+1) b1 b' h (FW hf hb);rw [E8 hf] at this;exact ⟨by rw [this.1];simp;omega,this.2⟩
 have:=key e 0 [] out h (by simp);exact ⟨by simpa using this.1,this.2⟩
theorem VL {l:List ah} {e:List ag} {c:Int} (h:shE l e = .inl c):c≠0:=by
 have key:∀ (xs:List ag) (i:Nat) (b:List (List Int)) (c:Int),iw (kS l) i xs b = .inl c→c≠0:=by
  intro xs
  induction xs with
  | nil=>intro i b c h;cases h
  | cons x xs ih =>
   intro i b c h;simp only [iw] at h;cases hf:kS l i b x with
   | inl c'=>rw [hf] at h;cases h;exact VM hf
   | inr b1=>rw [hf] at h;exact ih _ _ _ h
 exact key _ _ _ _ h
theorem Oq {l:List ah} {e:List ag} (hl:l.length < 1000) (hs:Small e):iT l e=some (if yU l e=0 then QW l e else [],yU l e):=by
 unfold iT yU QW;rw [Md e hs.1];simp only [ae];by_cases hf:Ie e=0
 ·simp only [hf,dh,ne_eq,aj];rw [Vw e hs.1];by_cases ho:e.any odd=true
  ·simp [ho]
  ·have ho':e.any odd=false:=gV ho;simp only [ho',aF,aj,ae];rw [XC hl hs (PH hf) ho'];cases h:shE l e with
   | inl c=>simp [VL h]
   | inr out=>simp
 ·simp [hf]
def sec (l:List ah) (n:ag):aA:=if n.Kind=1 then (sU l n.Var n.Subscripts).1 else DL
structure KO (l:List ah) (e:List ag) (i:Nat) (b:List aA×List (List Int)) (out:List (List Int)):Prop where
 secs:b.1=(e.take i).map (sec l)++List.replicate (e.length - i) DL
 shs:b.2=out++List.replicate (e.length - i) []
 len:out.length=i
 small:∀ x,x∈out→x.length≤7
theorem Jg {α:Type} (a:List α) (x d:α) {n i:Nat} (ha:a.length=i) (hi:i < n):(a++List.replicate (n - i) d).set i x=(a++[x])++List.replicate (n - (i+1)) d:=by
 have:n - i=(n - (i+1))+1:=by omega
 rw [this,List.replicate_succ,List.set_append_right _ _ (by omega),ha];simp
theorem LC {α:Type} (a:List α) (d:α) {k n:Nat} (hk:k < a.length):(a++List.replicate n d).getD k d=a.getD k d:=by
 rw [aO,aO,bK hk]
theorem XN {α β:Type} (f:α→β) (e:List α) (i:Nat) (hi:i < e.length):(e.take (i+1)).map f=(e.take i).map f++[f e[i]]:=by
 rw [jI hi,og];rfl
theorem X3 {l:List ah} {e:List ag} (hl:l.length < 1000) (hs:Small e) {i:Nat} (hi:i < e.length) (hN:Nod i e[i]) {b:List aA×List (List Int)} {out:List (List Int)} (R:KO l e i b out) :
  ∃ c b2 b3,pO i e[i] l e b.1 b.2=some (c,b2,b3)∧(match kS l i out e[i] with | .inl t=>c=t∧c≠0 | .inr out'=>c=0∧KO l e (i+1) (b2,b3) out'):=by
 obtain ⟨b2,b3⟩:=b;obtain ⟨r1,r2,r3,r4⟩:=R;simp only at r1 r2;have hlt:=hs.1;have h3l:b3.length=e.length:=by rw [r2];simp;omega
 have h2l:b2.length=e.length:=by rw [r1];simp;omega
 have hq:=hs.2 e[i] (dH hi);have tm:=XN (sec l) e i hi;have mk:∀ (z:List Int),z.length≤7→e[i].Kind≠1→KO l e (i+1) (b2,b3.set i z) (out++[z]):=by
  intro z hz h1;refine ⟨?_,?_,by simp [r3],?_⟩
  ·simp only;rw [tm,r1];have:sec l e[i]=DL:=by unfold sec;rw [if_neg h1]
   rw [this];have:e.length - i=(e.length - (i+1))+1:=by omega
   rw [this,List.replicate_succ];simp
  ·simp only;rw [r2,Jg out z [] r3 hi]
  ·intro x hx;simp only [aP,eY] at hx;rcases hx with hx | hx
   ·exact r4 x hx
   ·rw [hx];exact hz
 unfold pO kS;by_cases h0:e[i].Kind=0
 ·simp only [h0,aG,rE,ae];by_cases hv:bZ e[i].Value (-2147483648) 2147483647=true
  ·simp only [hv,aG];refine ⟨_,_,_,rfl,rfl,?_⟩;have:=mk [] (by simp) (by omega);rw [r2,Jg out [] [] r3 hi] at this;rw [r2];have e1:e.length - i=(e.length - (i+1))+1:=by omega
   have e2:out++List.replicate (e.length - i) []=(out++[([]:List Int)])++List.replicate (e.length - (i+1)) []:=by rw [e1,List.replicate_succ];simp
   rw [e2];exact this
  ·simp only [hv,aj];exact ⟨_,_,_,rfl,rfl,by simp⟩
 ·by_cases h1:e[i].Kind=1
  ·simp only [h0,h1,aG,aj,Int.reduceEq,Rk hl hq,ae];rw [jo (by omega),jo (by omega)];simp only [ae,jD];by_cases h2:(sU l e[i].Var e[i].Subscripts).2=0
   ·obtain ⟨a,_,hsc,_⟩:=AU h2;simp only [h2,aG];refine ⟨_,_,_,rfl,rfl,?_,?_,by simp [r3],?_⟩
    ·simp only;rw [tm,r1,Jg _ _ DL (by simp;omega) hi];have:sec l e[i]=(sU l e[i].Var e[i].Subscripts).1:=by unfold sec;rw [if_pos h1]
     rw [this]
    ·simp only;rw [r2,Jg out _ [] r3 hi]
    ·intro x hx;simp only [aP,eY] at hx;rcases hx with hx | hx
     ·exact r4 x hx
     ·rw [hx];exact hsc.dims
   ·simp only [h2,aj];exact ⟨_,_,_,rfl,rfl,h2⟩
  ·by_cases h7:e[i].Kind=7
   ·have hA:=hN.ok.A (.inl h7);simp only [h0,h1,h7,aG,aj,Int.reduceEq];rw [at_in (d:=[]) hA.1 (by omega),jo (by omega)];simp only [ae,jD];refine ⟨_,_,_,rfl,rfl,?_⟩;have e1:b3.getD e[i].A.toNat []=out.getD e[i].A.toNat []:=by rw [r2];exact LC out [] (by omega)
    rw [e1];exact mk _ (tX _ r4) h1
   ·have hb2:=Na hN.ok.kind h0 h1 h7 hN.k8 hN.k9;have hA:=hN.ok.A (.inr hb2);have hB:=hN.ok.B hb2;simp only [h0,h1,h7,aj];rw [at_in (d:=[]) hA.1 (by omega),at_in (d:=[]) hB.1 (by omega),jo (by omega)];simp only [ae,jD];have e1:b3.getD e[i].A.toNat []=out.getD e[i].A.toNat []:=by rw [r2];exact LC out [] (by omega)
    have e2:b3.getD e[i].B.toNat []=out.getD e[i].B.toNat []:=by rw [r2];exact LC out [] (by omega)
    rw [e1,e2];have hxs:=tX e[i].A.toNat r4;have hys:=tX e[i].B.toNat r4;generalize out.getD e[i].A.toNat []=x at *
    generalize out.getD e[i].B.toNat []=y at *
    unfold xu;cases x with
    | nil=>simp [rE];exact ⟨_,_,_,⟨rfl,rfl,rfl⟩,rfl,mk _ hys h1⟩
    | cons x0 xr =>
     rw [if_neg (by simp;omega)];cases y with
     | nil=>simp [rE];exact ⟨_,_,_,⟨rfl,rfl,rfl⟩,rfl,mk _ hxs h1⟩
     | cons y0 yr =>
      rw [if_neg (by simp;omega),Uw (by omega)];by_cases he:x0::xr=y0::yr
      ·simp [he,rE];rw [← he];exact ⟨_,_,_,⟨rfl,rfl,rfl⟩,rfl,mk _ hxs h1⟩
      ·have:(x0::xr==y0::yr)=false:=by simpa using he
       simp only [ae,this,rE];simp [he]
def c2F (l:List ah) (e:List ag) (i:Nat) (b:List aA×List (List Int)) (n:ag):Sum (Int×Int×List aA×List (List Int)) (List aA×List (List Int)) :=
 match pO i n l e b.1 b.2 with
 | some (c,b2,b3)=>if c=0 then .inr (b2,b3) else .inl ((i:Int),c,b2,b3)
 | none => .inr b
def vF (l:List ah) (e:List ag):dW:=dW.mk e (e.map (sec l)) (QW l e)
theorem Vq {l:List ah} {e:List ag} (hl:l.length < 1000) (hs:Small e):∃ x,vC l e=some (x,yU l e)∧(yU l e=0→x=some (vF l e)):=by
 unfold vC yU;rw [Y3 e hs.1,Su e hs.1];simp only [ae,rE,aaL];have hlt:=hs.1;by_cases hf:Ie e=0
 ·simp only [hf,aG,ne_eq,dh,aj];by_cases ho:e.any odd=true
  ·simp only [ho,nJ,aF,aj,aG];exact ⟨none,by simp,by simp⟩
  ·have ho':e.any odd=false:=gV ho;have F:=PH hf;simp only [ho',mf,aG,dh,aj,aF,FK (show e.length≤16777216 by omega),ae];have step:∀ i (hi:i < e.length) b c,KO l e i b c→TI (fun (r:Int×Int×List aA×List (List Int))=>r.2.1) (KO l e (i+1)) (c2F l e i b e[i]) (kS l i c e[i]):=by
    intro i hi b c hR;obtain ⟨k,b2,b3,h1,h2⟩:=X3 hl hs hi (Kv F ho' i hi) hR;unfold c2F;rw [h1];cases hsh:kS l i c e[i] with
    | inl t=>rw [hsh] at h2;simp only [h2.2,aj];exact h2.1.symm
    | inr out'=>rw [hsh] at h2;simp only [h2.1,aG];exact h2.2
   have R0:KO l e 0 (List.replicate e.length DL,List.replicate e.length []) []:=⟨by simp,by simp,rfl,by simp⟩
   have sim:=Oz (f:=c2F l e) (g:=kS l) (fun r=>r.2.1) (KO l e) e step e 0 _ [] rfl (by omega) R0;have hloop:fZ (bF.s1 e l e) (0,List.replicate e.length DL,List.replicate e.length [])=some (match iw (c2F l e) 0 e (List.replicate e.length DL,List.replicate e.length []) with | .inl r => .inr r | .inr b => .inl b):=by
    rw [kP (step:=bF.s1 e l e) e (fun i b=>(i,b)) (fun r=>Sum.inr r) (fun b=>Sum.inl b) (c2F l e) (fun i b=>∃ c,KO l e i b c) (a:=(List.replicate e.length DL,List.replicate e.length [])) rfl ?_ ?_ ⟨_,R0⟩ (by omega)]
    ·cases iw (c2F l e) 0 e (List.replicate e.length DL,List.replicate e.length [])<;>rfl
    ·rintro i hi b ⟨c,hR⟩
     have hst:=step i hi b c hR;obtain ⟨k,b2,b3,h1,h2⟩:=X3 hl hs hi (Kv F ho' i hi) hR;refine ⟨?_,?_⟩
     ·simp only [bF.s1,iZ hi,aG,jo hi,ae];unfold c2F;rw [h1];simp only [ae];by_cases hk:k=0
      ·simp only [hk,dh,aj,aG];rw [wn (by omega)]
      ·simp only [hk,aU,aG,aj]
     ·intro b' hb';rw [hb'] at hst;cases hsh:kS l i c e[i] with
      | inl t=>rw [hsh] at hst;exact hst.elim
      | inr out'=>rw [hsh] at hst;exact ⟨out',hst⟩
    ·intro b hb;simp only [bF.s1,dB,aj]
   unfold bF;rw [show (aA.mk [] [] false)=DL from rfl,hloop];simp only [ae];unfold shE;cases hsc:iw (c2F l e) 0 e (List.replicate e.length DL,List.replicate e.length []) with
   | inl r =>
    rw [hsc] at sim;cases hsh:iw (kS l) 0 e [] with
    | inl t =>
     rw [hsh] at sim;have ht:t=r.2.1:=sim;have:=VL hsh;exact ⟨_,by rw [ht];rfl,fun h=>absurd h this⟩
    | inr out=>rw [hsh] at sim;exact sim.elim
   | inr b =>
    rw [hsc] at sim;cases hsh:iw (kS l) 0 e [] with
    | inl t=>rw [hsh] at sim;exact sim.elim
    | inr out =>
     rw [hsh] at sim;have hR:KO l e e.length b out:=sim;refine ⟨_,rfl,fun _=>?_⟩;have h1:=hR.secs;have h2:=hR.shs;simp at h1 h2;have ho:QW l e=out:=by unfold QW shE;rw [hsh]
     simp only [vF,ho,h1,h2]
 ·simp only [hf,aj,aU,aG,ne_eq];exact ⟨none,rfl,fun h=>h.elim⟩
end Go.Sh
set_option linter.all false
namespace Go.Sh
open Go.Lx
abbrev wr (x:Int):Int:=IntKind.i32.wrap x
def Bv (x:Int):Prop := -2147483648≤x∧x≤2147483647
theorem VZ (x:Int):wr x=if 2147483648≤x % 4294967296 then x % 4294967296 - 4294967296 else x % 4294967296:=by
 simp only [wr,IntKind.wrap,IntKind.bits,IntKind.signed];simp
theorem aaX (x:Int):Bv (wr x):=by
 rw [VZ];unfold Bv;have:=Int.emod_nonneg x (b:=4294967296) (by omega);have:=Int.emod_lt_of_pos x (b:=4294967296) (by omega);split<;>omega
theorem aal {x:Int} (h:Bv x):wr x=x:=by
 rw [VZ];unfold Bv at h;split<;>omega
theorem Y0 {a n:Int} (hn:1≤n) (hb:n≤8589934592):CV a n=some (a % n):=by
 unfold CV rem;rw [if_neg (by omega)];simp only [ae];have e:=Int.tmod_eq_emod (a:=a) (b:=n);have m1:=Int.emod_nonneg a (b:=n) (by omega);have m2:=Int.emod_lt_of_pos a (b:=n) (by omega);unfold nD;by_cases h:a.tmod n < 0
 ·simp only [h,decide_true,aG,Int.mul_one];rw [uF (n:=n) (by omega) (by omega)];by_cases hd:0≤a∨n ∣ a
  ·rw [if_pos hd] at e;omega
  ·rw [if_neg hd] at e;rw [uF (by omega) (by omega)];exact congrArg some (by omega)
 ·simp only [h,decide_false,aF,aj,Int.mul_zero];have w0:w 0=0:=rfl;rw [w0,Int.add_zero];by_cases hd:0≤a∨n ∣ a
  ·rw [if_pos hd] at e;rw [uF (by omega) (by omega)];exact congrArg some (by omega)
  ·rw [if_neg hd] at e;omega
theorem ET {n:Int} (h0 : -4611686018427387905≤n) (h1:n≤4611686018427387905):uT n=some (wr n):=by
 unfold uT;rw [uF (by omega) (by omega),Y0 (by omega) (by omega)];simp only [ae];rw [uF (by omega) (by omega),VZ]
 congr 1
 split<;>omega
theorem Z4 {a b:Int} (ha:Bv a) (hb:Bv b) : -4611686018427387904≤a * b∧a * b≤4611686018427387904:=by
 unfold Bv at ha hb;have h1:a.natAbs≤2147483648:=by omega
 have h2:b.natAbs≤2147483648:=by omega
 have h3:(a * b).natAbs≤2147483648 * 2147483648:=by rw [Int.natAbs_mul];exact Nat.mul_le_mul h1 h2
 omega
def opV (k a b:Int):Int:=lZ k a b
theorem XP (b:Bool):Bv (nT b):=by unfold nT Bv;split<;>omega
theorem Z9 (k a b:Int):Bv (opV k a b):=by
 unfold opV lZ
 repeat' split
 all_goals first | exact aaX _ | exact XP _
theorem Ky {k a b:Int} (ha:Bv a) (hb:Bv b):rJ k a b=some (opV k a b):=by
 have hm:=Z4 ha hb;unfold rJ opV lZ;unfold Bv at ha hb;have tb:∀ c:Bool,nD c=nT c:=fun c=>rfl
 split
 ·rw [uF (by omega) (by omega),ET (by omega) (by omega)];rfl
 ·split
  ·rw [uF (by omega) (by omega),ET (by omega) (by omega)];rfl
  ·split
   ·rw [uF (by omega) (by omega),ET (by omega) (by omega)];rfl
   ·simp only [tb];split
    ·rfl
    ·split<;>rfl
theorem Vg (a b c:Int):opV 7 a b=opV 7 a c:=by simp [opV,lZ]
theorem KF {l:List ah} {i:Nat} {b b':List (List Int)} {n:ag} (h:kS l i b n = .inr b'):∃ z,b'=b++[z]:=by
 unfold kS at h
 repeat' split at h
 all_goals first | (cases h;exact ⟨_,rfl⟩) | (cases h;done)
theorem Yo {l:List ah}:∀ (xs:List ag) (i:Nat) (b b':List (List Int)),iw (kS l) i xs b = .inr b'→∃ t,b'=b++t
 | [],i,b,b',h=>by cases h;exact ⟨[],by simp⟩
 | x::xs,i,b,b',h=>by
  simp only [iw] at h;cases hf:kS l i b x with
  | inl c=>rw [hf] at h;cases h
  | inr b1 =>
   rw [hf] at h;obtain ⟨t,rfl⟩:=Yo xs (i+1) b1 b' h;obtain ⟨z,rfl⟩:=KF hf;exact ⟨z::t,by simp⟩
theorem Yn {l:List ah}:∀ (xs:List ag) (i:Nat) (b b':List (List Int)),iw (kS l) i xs b = .inr b'→b.length=i→∀ k (hk:k < xs.length),kS l (i+k) (b'.take (i+k)) xs[k] = .inr (b'.take (i+k+1))
 | [],i,b,b',h,hb,k,hk=>by simp at hk
 | x::xs,i,b,b',h,hb,k,hk=>by
  have h0:=h;simp only [iw] at h;cases hf:kS l i b x with
  | inl c=>rw [hf] at h;cases h
  | inr b1 =>
   rw [hf] at h;have hl:=E8 hf;cases k with
   | zero =>
    obtain ⟨t,rfl⟩:=Yo xs (i+1) b1 b' h;obtain ⟨z,rfl⟩:=KF hf;simp only [oL,List.getElem_cons_zero];have e1:((b++[z])++t).take i=b:=by rw [List.append_assoc,List.take_append_of_le_length (by omega),gK (by omega)]
    have e2:((b++[z])++t).take (i+1)=b++[z]:=by rw [List.take_append_of_le_length (by simp;omega),gK (by simp;omega)]
    rw [e1,e2];exact hf
   | succ k =>
    have:=Yn xs (i+1) b1 b' h (by omega) k (by simpa using hk);rw [show i+(k+1)=i+1+k by omega];simpa using this
theorem Zc {l:List ah} {e:List ag} {out:List (List Int)} (h:shE l e = .inr out) (i:Nat) (hi:i < e.length):kS l i (out.take i) e[i] = .inr (out.take (i+1)):=by
 have:=Yn e 0 [] out h rfl i hi;simpa using this
theorem Jm {b:List (List Int)} {i k:Nat} (hk:k < i):(b.take i).getD k []=b.getD k []:=by
 rw [aO,aO,bT,if_pos hk]
theorem LK {b:List (List Int)} {i:Nat} (hi:i < b.length) {z:List Int} (h:b.take (i+1)=b.take i++[z]):b.getD i []=z:=by
 rw [jI hi] at h;have:=List.append_cancel_left h;rw [aO,au hi];simpa using this
theorem Xu {l:List ah} {e:List ag} {out:List (List Int)} (h:shE l e = .inr out) (F:GI e) (ho:e.any odd=false) {i:Nat} (hi:i < e.length) {j:Int} (hj:j∈fH e[i]) :
  0≤j∧j < i∧(out.getD j.toNat []=[]∨out.getD j.toNat []=out.getD i []):=by
 have hN:=Kv F ho i hi;have hl:=(Gt h).1;have hst:=Zc h i hi;unfold fH at hj;unfold kS at hst;by_cases hb:bY e[i].Kind=true
 ·rw [if_pos hb] at hj;have hA:=hN.ok.A (.inr hb);have hB:=hN.ok.B hb;have hk:e[i].Kind≠0∧e[i].Kind≠1∧e[i].Kind≠7:=by unfold bY at hb;simp at hb;omega
  rw [if_neg hk.1,if_neg hk.2.1,if_neg hk.2.2,Jm (by omega),Jm (by omega)] at hst;split at hst
  ·cases hst
  ·rename_i hc
   have hlast:=LK (by omega) (Sum.inr.inj hst).symm;rw [hlast];simp only [fJ,List.mem_nil_iff,or_false] at hj;rcases hj with rfl | rfl
   ·refine ⟨hA.1,hA.2,?_⟩;split
    ·rename_i q;exact .inl q
    ·exact .inr rfl
   ·refine ⟨hB.1,hB.2,?_⟩;split
    ·exact .inr rfl
    ·rename_i q
     by_cases q2:out.getD e[i].B.toNat []=[]
     ·exact .inl q2
     ·right;by_cases q3:out.getD e[i].A.toNat []=out.getD e[i].B.toNat []
      ·exact q3.symm
      ·exact absurd ⟨q,q2,q3⟩ hc
 ·rw [if_neg hb] at hj;split at hj
  ·rename_i h7
   have hA:=hN.ok.A (.inl h7);rw [if_neg (by omega),if_neg (by omega),if_pos h7,Jm (by omega)] at hst;have hlast:=LK (by omega) (Sum.inr.inj hst).symm;simp only [fJ,List.mem_nil_iff,or_false] at hj;subst hj;exact ⟨hA.1,hA.2, .inr hlast.symm⟩
  ·simp at hj
theorem RI {b:List Int} {n:ag} {j:Nat} (h:∀ k,k∈fH n→k.toNat≠j):(Ua b n).getD j 0=b.getD j 0:=by
 have key:∀ (ks:List Int) (b:List Int),(∀ k,k∈ks→k.toNat≠j)→(ks.foldl bump b).getD j 0=b.getD j 0:=by
  intro ks
  induction ks with
  | nil=>intro b _;rfl
  | cons k ks ih =>
   intro b hk;rw [dY,ih _ (fun x hx=>hk x (.tail _ hx))];have:=hk k (.head _);unfold bump;simp only [aO,ku this]
 exact key _ b h
theorem OB:∀ (xs:List ag) (i:Nat) (b b':List Int) (j:Nat),iw uj i xs b = .inr b'→(∀ n,n∈xs→∀ k,k∈fH n→k.toNat≠j)→b'.getD j 0=b.getD j 0
 | [],i,b,b',j,h,_=>by cases h;rfl
 | x::xs,i,b,b',j,h,hk=>by
  simp only [iw] at h;cases hf:uj i b x with
  | inl c=>rw [hf] at h;cases h
  | inr b1 =>
   rw [hf] at h;rw [OB xs (i+1) b1 b' j h (fun n hn=>hk n (.tail _ hn))];unfold uj at hf;split at hf
   ·cases hf;exact RI (hk x (.head _))
   ·cases hf
theorem Yr (N:Nat):∀ (xs:List Int) (i:Nat),yj N i xs=0→∀ k (hk:k < xs.length),i+k+1≠N→xs[k]=1
 | [],i,_,k,hk,_=>by simp at hk
 | x::xs,i,h,k,hk,hne=>by
  simp only [yj] at h;split at h
  ·rename_i hc
   cases k with
   | zero =>
    simp only [List.getElem_cons_zero];rcases hc with hc | hc
    ·omega
    ·exact hc.2
   | succ k =>
    have:=Yr N xs (i+1) h k (by simpa using hk) (by omega);simpa using this
  ·cases h
theorem used {e:List ag} (F:GI e) (j:Nat) (hj:j+1 < e.length):∃ i,∃ hi:i < e.length,∃ k,k∈fH e[i]∧k.toNat=j:=by
 obtain ⟨b,h1,h2⟩:=F.use;have hl:=Gu _ _ _ _ h1;simp only [mJ] at hl;have h3:=Yr e.length b 0 h2 j (by omega) (by omega);refine iG fun hn=>?_
 have h4:=OB e 0 _ b j h1 (fun n hn2 k hk q=>by
  obtain ⟨i,hi,rfl⟩:=List.mem_iff_getElem.1 hn2;exact hn ⟨i,hi,k,hk,q⟩)
 rw [aO,au (by omega)] at h4;simp [h3,aO,List.getElem?_replicate] at h4;split at h4<;>simp at h4
theorem MR {l:List ah} {e:List ag} {out:List (List Int)} (h:shE l e = .inr out) (F:GI e) (ho:e.any odd=false):∀ (d j:Nat),j+d+1=e.length→out.getD j []=[]∨out.getD j []=out.getD (e.length - 1) []
 | 0,j,hj=>by right;congr 1;omega
 | d+1,j,hj=>by
  obtain ⟨i,hi,k,hk,hkj⟩:=used F j (by omega);obtain ⟨k0,k1,k2⟩:=Xu h F ho hi hk;rw [hkj] at k2;have hd:∃ d',d'≤d∧i+d'+1=e.length:=⟨e.length - 1 - i,by omega,by omega⟩
  obtain ⟨d',hd1,hd2⟩:=hd;rcases k2 with k2 | k2
  ·exact .inl k2
  ·rw [k2];exact MR h F ho d' i hd2
termination_by d=>d
end Go.Sh
set_option linter.all false
namespace Go.Sh
open Go.Lx
def pick (s:aA) (k:Int):Int:=if s.Extents=[] then s.Offsets.getD 0 0 else s.Offsets.getD k.toNat 0
def aah (l:List ah) (n:ag) (k:Int):Int :=
 match at_ l n.Var with
 | none=>0
 | some a=>a.Elements.getD (pick (sU l n.Var n.Subscripts).1 k).toNat 0
def OQ (l:List ah) (k:Int) (out:List Int) (n:ag):Int :=
 if n.Kind=0 then n.Value else if n.Kind=1 then aah l n k else opV n.Kind (out.getD n.A.toNat 0) (out.getD n.B.toNat 0)
def vals (l:List ah) (k:Int) (e:List ag):List Int:=e.foldl (fun out n=>out++[OQ l k out n]) []
def value (l:List ah) (e:List ag) (k:Int):Int:=(vals l k e).getD (e.length - 1) 0
def wZ (l:List ah) (e:List ag):List Int:=(QW l e).getD (e.length - 1) []
def Ed (l:List ah):Prop:=l.length < 1000∧∀ a,a∈l→Yz a
structure Ee (l:List ah) (e:List ag) (k:Int):Prop where
 st:Ed l
 sm:Small e
 pl:yU l e=0
 k0:0≤k
 k1:wZ l e=[]∨k < P (wZ l e)
theorem Ag {l:List ah} {e:List ag} (h:yU l e=0):GI e∧e.any odd=false∧shE l e = .inr (QW l e):=by
 unfold yU at h;by_cases hf:Ie e=0
 ·simp only [hf,ne_eq,dh,aj] at h;by_cases ho:e.any odd=true
  ·simp [ho] at h
  ·have ho':e.any odd=false:=gV ho;simp only [ho',aF,aj] at h;refine ⟨PH hf,ho',?_⟩;unfold QW;cases hs:shE l e with
   | inl c=>rw [hs] at h;exact absurd h (VL hs)
   | inr out=>rfl
 ·simp [hf] at h
theorem isInt {x:Int} (h:eU x=true):Bv x:=by
 unfold eU bu at h;simp at h;exact h
theorem IX {l:List ah} {e:List ag} {k:Int} (H:Ee l e k) {i:Nat} (hi:i < e.length) (h1:e[i].Kind=1) :
  ∃ a,at_ l e[i].Var=some a∧(∀ q,q=(sU l e[i].Var e[i].Subscripts).1→rf q k=some (pick q k))∧0≤pick (sU l e[i].Var e[i].Subscripts).1 k∧pick (sU l e[i].Var e[i].Subscripts).1 k < a.Elements.length ∧
   Bv (aah l e[i] k)∧sU l e[i].Var e[i].Subscripts=pV a.Bounds e[i].Subscripts:=by
 obtain ⟨F,ho,hsh⟩:=Ag H.pl;have hst:=Zc hsh i hi;have hl:=(Gt hsh).1;unfold kS at hst;rw [if_neg (by omega),if_pos h1] at hst;split at hst
 ·rename_i h2
  have hlast:=LK (by omega) (Sum.inr.inj hst).symm;obtain ⟨a,ha,sc,_,hse⟩:=AU h2;have hva:Yz a:=by
   have:a∈l:=by
    unfold at_ at ha;split at ha
    ·exact bz ha
    ·cases ha
   exact H.st.2 a this
  have hsz:pick (sU l e[i].Var e[i].Subscripts).1 k∈(sU l e[i].Var e[i].Subscripts).1.Offsets∧rf (sU l e[i].Var e[i].Subscripts).1 k=some (pick (sU l e[i].Var e[i].Subscripts).1 k):=by
   have hlen:=sc.len;generalize (sU l e[i].Var e[i].Subscripts).1=s at *
   unfold pick rf;have hn:((s.Extents.length:Int)=0)=(s.Extents=[]):=by cases s.Extents<;>simp<;>omega
   simp only [hn];by_cases hx:s.Extents=[]
   ·rw [hx] at hlen;simp [P] at hlen;simp only [hx,aG];have h0:0 < s.Offsets.length:=by omega
    refine ⟨?_,?_⟩
    ·rw [aO,au h0];exact dH h0
    ·have:=at_in (xs:=s.Offsets) (k:=0) (d:=0) (by omega) (by omega);rw [this];rfl
   ·simp only [hx,aj];have hS:s.Extents=wZ l e:=by
     have:=MR hsh F ho (e.length - 1 - i) i (by omega);rw [hlast] at this;rcases this with q | q
     ·exact absurd q hx
     ·exact q
    have hk:k < s.Offsets.length:=by
     rcases H.k1 with q | q
     ·rw [← hS] at q;exact absurd q hx
     ·rw [← hS] at q;omega
    have hk0:=H.k0;refine ⟨?_,?_⟩
    ·rw [aO,au (by omega)];exact dH _
    ·rw [at_in (d:=0) hk0 hk];rfl
  have hr:=sc.range _ hsz.1;have hle:=hva.len;refine ⟨a,ha,fun q hq=>by rw [hq];exact hsz.2,hr.1,by omega,?_,hse⟩;unfold aah;rw [ha];simp only;rw [aO,au (by omega)];exact isInt (hva.int _ (dH _))
 ·cases hst
theorem abk {l:List ah} {e:List ag} {k:Int} (H:Ee l e k) {i:Nat} (hi:i < e.length) (h0:e[i].Kind=0):Bv e[i].Value:=by
 obtain ⟨F,ho,hsh⟩:=Ag H.pl;have hst:=Zc hsh i hi;unfold kS at hst;rw [if_pos h0] at hst;split at hst
 ·rename_i q;have:=pJ.1 q;exact this
 ·cases hst
theorem MJ {l:List ah} {e:List ag} {k:Int} (H:Ee l e k) {i:Nat} (hi:i < e.length) (b:List Int):Bv (OQ l k b e[i]):=by
 unfold OQ;split
 ·rename_i h0;exact abk H hi h0
 ·split
  ·rename_i h1;obtain ⟨a,_,_,_,_,h,_⟩:=IX H hi h1;exact h
  ·exact Z9 _ _ _
theorem getD_in {b:List Int} (k:Nat) (h:∀ x,x∈b→Bv x):Bv (b.getD k 0):=by
 rw [aO];cases hk:b[k]? with
 | none=>simp [Bv]
 | some x=>exact h x (bz hk)
theorem UO {b:List Int} {z:Int} (h:∀ x,x∈b→Bv x) (hz:Bv z):∀ x,x∈b++[z]→Bv x:=by
 intro x hx;simp only [aP,eY] at hx;rcases hx with hx | hx
 ·exact h x hx
 ·rw [hx];exact hz
theorem Ru (l:List ah) (k:Int) (e:List ag):(vals l k e).length=e.length:=by
 have key:∀ (xs:List ag) (b:List Int),(xs.foldl (fun out n=>out++[OQ l k out n]) b).length=b.length+xs.length:=by
  intro xs
  induction xs with
  | nil=>intro b;rfl
  | cons x xs ih=>intro b;rw [dY,ih];simp;omega
 have:=key e [];simpa [vals] using this
theorem Zf {l:List ah} {e:List ag} {k:Int} (H:Ee l e k):∀ x,x∈vals l k e→Bv x:=by
 have key:∀ (xs:List ag) (i:Nat) (b:List Int),e.drop i=xs→(∀ x,x∈b→Bv x)→∀ x,x∈xs.foldl (fun out n=>out++[OQ l k out n]) b→Bv x:=by
  intro xs
  induction xs with
  | nil=>intro i b _ hb;exact hb
  | cons x xs ih =>
   intro i b hd hb;have hlt:i < e.length:=by have:=congrArg List.length hd;simp at this;omega
   rw [kG hlt] at hd;injection hd with h1 h2
   rw [dY];refine ih (i+1) _ h2 (UO hb ?_);rw [← h1];exact MJ H hlt b
 exact key e 0 [] rfl (by simp)
theorem RY {l:List ah} {e:List ag} {k:Int} (H:Ee l e k):lh l e k=some (value l e k):=by
 obtain ⟨F,ho,hsh⟩:=Ag H.pl;have hlt:=H.sm.1;unfold lh;rw [lL (step:=lh.s1 l e k) e (fun i b=>(i,b)) (fun b=>b) (fun b n=>b++[OQ l k b n]) (fun i b=>b.length=i∧∀ x,x∈b→Bv x) (a:=[]) rfl ?_ ?_ ⟨rfl,by simp⟩ (by omega)]
 ·simp only [ae];have hl:=Ru l k e;have hp:=F.pos
  show ((at_ (vals l k e) (w (((vals l k e).length:Int) - 1))).bind fun x20=>some x20)=_
  rw [uF (by omega) (by omega),at_in (d:=0) (by omega) (by omega)];simp only [ae,value]
  congr 2
  omega
 ·rintro i hi b ⟨hb,hin⟩
  have hN:=Kv F ho i hi;refine ⟨?_,by simp [hb],UO hin (MJ H hi b)⟩;simp only [lh.s1,iZ hi,aG,jo hi,ae];have la:∀ z:Int,((app b [z]).bind fun x5=>(some (.inl ((w ((i:Int)+1)),x5)):Option (Sum (Int×List Int) (List Int))))=some (.inl (((i+1:Nat):Int),b++[z])):=by
   intro z;rw [jE (by omega),wn (by omega)];rfl
  by_cases h0:e[i].Kind=0
  ·simp only [h0,aG,la,OQ]
  ·by_cases h1:e[i].Kind=1
   ·obtain ⟨a,ha,hof,g0,g1,_,hse⟩:=IX H hi h1;have hq:=H.sm.2 e[i] (dH hi);have hcell:ug l e[i] k=some (pick (sU l e[i].Var e[i].Subscripts).1 k):=by
     have:=hof _ rfl;unfold ug;rw [ha];simp only [ae,wC a.Bounds e[i].Subscripts hq];rw [← hse];exact this
    simp only [h0,h1,aG,aj,Int.reduceEq,ha,ae,hcell];rw [at_in (d:=0) g0 g1];simp only [ae,la];simp only [OQ,h1,aah,ha,aG,aj,Int.reduceEq]
   ·by_cases h7:e[i].Kind=7
    ·have hA:=hN.ok.A (.inl h7);simp only [h0,h1,h7,aG,aj,Int.reduceEq];rw [at_in (d:=0) hA.1 (by omega)];simp only [ae];rw [Ky (getD_in _ hin) (by simp [Bv])];simp only [ae,la];simp only [OQ,h7,aG,aj,Int.reduceEq];rw [Vg _ 0 (b.getD e[i].B.toNat 0)]
    ·have hb2:=Na hN.ok.kind h0 h1 h7 hN.k8 hN.k9;have hA:=hN.ok.A (.inr hb2);have hB:=hN.ok.B hb2;simp only [h0,h1,h7,aj];rw [at_in (d:=0) hA.1 (by omega),at_in (d:=0) hB.1 (by omega)];simp only [ae];rw [Ky (getD_in _ hin) (getD_in _ hin)];simp only [ae,la];simp only [OQ,h0,h1,aj]
 ·rintro b ⟨hb,hin⟩
  simp only [lh.s1,dB,aj]
theorem ZM {n:ag} (h:clean n=true) (h7:n.Kind=7):n.B=0:=by
 unfold clean at h;simp [h7,bY] at h;exact h.1.1.2
theorem Oj {l:List ah} {e:List ag} {k:Int} (H:Ee l e k):iQ (some (vF l e)) l k=some (value l e k):=by
 obtain ⟨F,ho,hsh⟩:=Ag H.pl;have hlt:=H.sm.1;unfold iQ;simp only [ae,vF];rw [FK (by omega)];simp only [ae];rw [lL (step:=iQ.s1 l k (dW.mk e (e.map (sec l)) (QW l e))) e (fun i b=>(i,b++List.replicate (e.length - b.length) 0)) (fun b=>b++List.replicate (e.length - b.length) 0) (fun b n=>b++[OQ l k b n]) (fun i b=>b.length=i∧∀ x,x∈b→Bv x) (a:=[]) (by simp) ?_ ?_ ⟨rfl,by simp⟩ (by omega)]
 ·have hl:=Ru l k e;have hp:=F.pos
  show ((some (vals l k e++List.replicate (e.length - (vals l k e).length) 0)).bind fun z17=>(at_ z17 (w ((z17.length:Int) - 1))).bind fun x18=>some (w x18))=_
  rw [hl,Nat.sub_self,List.replicate_zero,jh];simp only [ae];rw [uF (by omega) (by omega),at_in (d:=0) (by omega) (by omega)];simp only [ae,value];have e1:(((vals l k e).length:Int) - 1).toNat=e.length - 1:=by omega
  rw [e1];have hv:=getD_in (e.length - 1) (Zf H);unfold Bv at hv;rw [uF (by omega) (by omega)]
 ·rintro i hi b ⟨hb,hin⟩
  have hN:=Kv F ho i hi;refine ⟨?_,by simp [hb],UO hin (MJ H hi b)⟩;have hbl:(b++List.replicate (e.length - b.length) (0:Int)).length=e.length:=by simp;omega
  have hset:∀ z:Int,(b++List.replicate (e.length - b.length) (0:Int)).set i z=(b++[z])++List.replicate (e.length - (b++[z]).length) 0:=by
   intro z;rw [hb,Jg b z 0 hb hi];simp [hb]
  have hgetD:∀ j:Int,0≤j→j < i→(b++List.replicate (e.length - b.length) (0:Int)).getD j.toNat 0=b.getD j.toNat 0:=by
   intro j h0 h1;rw [aO,aO,bK (by omega)]
  simp only [iQ.s1,iZ hi,aG,jo hi,ae,jD,hset];rw [jo (show i < (b++List.replicate (e.length - b.length) (0:Int)).length by omega)];simp only [ae];rw [wn (by omega)];by_cases h0:e[i].Kind=0
  ·have:=aal (abk H hi h0);simp only [wr] at this;simp only [h0,aG,OQ,this]
  ·by_cases h1:e[i].Kind=1
   ·obtain ⟨a,ha,hof,g0,g1,hin2,hse⟩:=IX H hi h1;simp only [h0,h1,aG,aj,Int.reduceEq,ha,ae];rw [jo (show i < (e.map (sec l)).length by simp;exact hi)];have hsec:(e.map (sec l))[i]'(by simp;exact hi)=(sU l e[i].Var e[i].Subscripts).1:=by simp [sec,h1]
    simp only [ae,hsec,hof _ rfl];rw [at_in (d:=0) g0 g1];simp only [ae];have hv:OQ l k b e[i]=a.Elements.getD (pick (sU l e[i].Var e[i].Subscripts).1 k).toNat 0:=by simp only [OQ,h1,aah,ha,aG,aj,Int.reduceEq]
    have hw:=MJ H hi b;rw [hv] at hw ⊢;have:=aal hw;simp only [wr] at this;rw [this]
   ·have hB0:0≤e[i].B∧e[i].B < e.length∧(e[i].Kind≠7→e[i].B < i):=by
     by_cases h7:e[i].Kind=7
     ·have:=ZM hN.ok.cl h7;have:=F.pos;omega
     ·have hb2:=Na hN.ok.kind h0 h1 h7 hN.k8 hN.k9;have:=hN.ok.B hb2;omega
    have hA:0≤e[i].A∧e[i].A < i:=by
     by_cases h7:e[i].Kind=7
     ·exact hN.ok.A (.inl h7)
     ·exact hN.ok.A (.inr (Na hN.ok.kind h0 h1 h7 hN.k8 hN.k9))
    simp only [h0,h1,aj];rw [at_in (d:=0) hA.1 (by omega),at_in (d:=0) hB0.1 (by omega)];simp only [ae];rw [hgetD _ hA.1 hA.2];have hv:OQ l k b e[i]=opV e[i].Kind (b.getD e[i].A.toNat 0) (b.getD e[i].B.toNat 0):=by simp only [OQ,h0,h1,aj]
    rw [hv];by_cases h7:e[i].Kind=7
    ·rw [h7];rw [show lZ 7 (b.getD e[i].A.toNat 0) ((b++List.replicate (e.length - b.length) (0:Int)).getD e[i].B.toNat 0)=opV 7 (b.getD e[i].A.toNat 0) (b.getD e[i].B.toNat 0) from Vg _ _ _]
    ·rw [hgetD _ hB0.1 (hB0.2.2 h7)];rfl
 ·rintro b ⟨hb,hin⟩
  simp only [iQ.s1,dB,aj]
end Go.Sh
set_option linter.all false
namespace Go.Sh
open Go.Lx
theorem xX {α:Type} (p:α→Bool):∀ xs:List α,xs.findSome? (fun a=>if p a=true then (none:Option Bool) else some false)=if xs.all p=true then none else some false
 | []=>rfl
 | x::xs=>by
  rw [List.findSome?_cons,mg];by_cases h:p x=true
  ·simp only [h,aG,iK];exact xX p xs
  ·simp [h]
def ZR (a:ah):Bool:=decide (a.Bounds.length≤9)&&decide (a.Elements.length≤40)
def few (l:List ah):Bool:=decide (l.length≤8)&&l.all ZR
theorem ZT (l:List ah):qX l=some (few l):=by
 unfold qX few;by_cases h:l.length≤8
 ·rw [if_neg (by omega)];rw [qw (step:=qX.s1 l) l (fun a=>if ZR a=true then (none:Option Bool) else some false) (fun c=>Sum.inr c) (Sum.inl ()) rfl ?_ ?_ (by omega),xX]
  ·simp only [h,decide_true,iK];cases l.all ZR<;>rfl
  ·intro i hi;simp only [qX.s1,iZ hi,aG,jo hi,ae,ZR];by_cases h1:l[i].Bounds.length≤9
   ·rw [if_neg (by omega)];by_cases h2:l[i].Elements.length≤40
    ·rw [if_neg (by omega),wn (by omega)];simp [h1,h2]
    ·rw [if_pos (by omega)];simp [h2]
   ·rw [if_pos (by omega)];simp [h1]
  ·simp only [qX.s1,dB,aj]
 ·rw [if_pos (by omega)];simp [h]
def OH (s:az):Bool:=decide (s.List.length≤20)
def short (q:List az):Bool:=decide (q.length≤9)&&q.all OH
theorem Rn (q:List az):mV q=some (short q):=by
 unfold mV short;by_cases h:q.length≤9
 ·rw [if_neg (by omega)];rw [qw (step:=mV.s1 q) q (fun a=>if OH a=true then (none:Option Bool) else some false) (fun c=>Sum.inr c) (Sum.inl ()) rfl ?_ ?_ (by omega),xX]
  ·simp only [h,decide_true,iK];cases q.all OH<;>rfl
  ·intro i hi;simp only [mV.s1,iZ hi,aG,jo hi,ae,OH];by_cases h1:q[i].List.length≤20
   ·rw [if_neg (by omega),wn (by omega)];simp [h1]
   ·rw [if_pos (by omega)];simp [h1]
  ·simp only [mV.s1,dB,aj]
 ·rw [if_pos (by omega)];simp [h]
def NE (s:bG):Bool:=decide (s.Coefs.length≤9)
def FD (q:List bG):Bool:=decide (q.length≤9)&&q.all NE
theorem WN (q:List bG):nS q=some (FD q):=by
 unfold nS FD;by_cases h:q.length≤9
 ·rw [if_neg (by omega)];rw [qw (step:=nS.s1 q) q (fun a=>if NE a=true then (none:Option Bool) else some false) (fun c=>Sum.inr c) (Sum.inl ()) rfl ?_ ?_ (by omega),xX]
  ·simp only [h,decide_true,iK];cases q.all NE<;>rfl
  ·intro i hi;simp only [nS.s1,iZ hi,aG,jo hi,ae,NE];by_cases h1:q[i].Coefs.length≤9
   ·rw [if_neg (by omega),wn (by omega)];simp [h1]
   ·rw [if_pos (by omega)];simp [h1]
  ·simp only [nS.s1,dB,aj]
 ·rw [if_pos (by omega)];simp [h]
def OI (n:ag):Bool:=short n.Subscripts&&FD n.Forms
def small (e:List ag):Bool:=decide (e.length≤42)&&(!(decide (20 < e.length)&&decide (e.length≤40))&&e.all OI)
theorem XJ (e:List ag):lM e=some (small e):=by
 unfold lM small;by_cases h:((decide (20 < e.length)&&decide (e.length≤40)) || decide (42 < e.length))=true
 ·have:((decide ((e.length:Int) > 20)&&decide ((e.length:Int)≤40)) || decide ((e.length:Int) > 42))=true:=by simp at h ⊢;omega
  rw [if_pos this]
  congr 1
  symm;simp at h ⊢;omega
 ·have:¬ ((decide ((e.length:Int) > 20)&&decide ((e.length:Int)≤40)) || decide ((e.length:Int) > 42))=true:=by simp at h ⊢;omega
  rw [if_neg this];have h42:e.length≤42:=by simp at h;omega
  have hm:(decide (20 < e.length)&&decide (e.length≤40))=false:=by simp at h ⊢;omega
  rw [qw (step:=lM.s1 e) e (fun a=>if OI a=true then (none:Option Bool) else some false) (fun c=>Sum.inr c) (Sum.inl ()) rfl ?_ ?_ (by omega),xX]
  ·simp only [h42,hm,decide_true,iK,mf];cases e.all OI<;>rfl
  ·intro i hi;simp only [lM.s1,iZ hi,aG,jo hi,ae,Rn,WN,OI];by_cases h1:short e[i].Subscripts=true
   ·by_cases h2:FD e[i].Forms=true
    ·simp only [h1,h2,dh,aj,Bool.and_self,aG];rw [wn (by omega)]
    ·simp [h1,h2]
   ·simp [h1]
  ·simp only [lM.s1,dB,aj]
def xe (s:aC):Bool:=short s.Subscripts&&(small s.Value&&(small s.Mask&&small s.Else))
theorem TW (s:aC):wK s=some (xe s):=by
 unfold wK xe;simp only [Rn,XJ,ae];cases short s.Subscripts<;>cases small s.Value<;>cases small s.Mask<;>simp
theorem Gx {q:List az} (h:short q=true):q.length≤9∧∀ s,s∈q→s.List.length < 16777216:=by
 unfold short OH at h;simp at h;exact ⟨h.1,fun s hs=>by have:=h.2 s hs;omega⟩
theorem WO {q:List bG} (h:FD q=true):q.length≤9∧∀ s,s∈q→s.Coefs.length≤9:=by
 unfold FD NE at h;simp at h;exact h
theorem Gy {e:List ag} (h:small e=true):e.length≤42∧(∀ n,n∈e→short n.Subscripts=true∧FD n.Forms=true)∧Small e:=by
 unfold small OI at h;simp at h;refine ⟨h.1,h.2.2,by omega,fun n hn s hs=>?_⟩;exact (Gx (h.2.2 n hn).1).2 s hs
theorem H5 {l:List ah} (h:few l=true):l.length≤8∧∀ a,a∈l→a.Bounds.length≤9∧a.Elements.length≤40:=by
 unfold few ZR at h;simp at h;exact h
theorem Np {l:List ah} (h:few l=true):jg l=some l:=by
 obtain ⟨h1,h2⟩:=H5 h;unfold jg;rw [wz (step:=jg.s1 l) l (fun a=>a) (fun i b=>(i,b)) (fun b=>b) rfl ?_ ?_ (by omega)]
 ·simp
 ·intro i hi b hb;have:=h2 l[i] (dH hi);simp only [jg.s1,iZ hi,aG,jo hi,ae];rw [SX (by omega) (by omega)];simp only [ae];rw [jE (by omega),wn (by omega)];rfl
 ·intro b;simp only [jg.s1,dB,aj]
theorem Nl {q:List bG} (h:FD q=true):jJ q=some q:=by
 obtain ⟨h1,h2⟩:=WO h;unfold jJ;rw [wz (step:=jJ.s1 q) q (fun a=>a) (fun i b=>(i,b)) (fun b=>b) rfl ?_ ?_ (by omega)]
 ·simp
 ·intro i hi b hb;have:=h2 q[i] (dH hi);simp only [jJ.s1,iZ hi,aG,jo hi,ae];rw [yx (by omega)];simp only [ae];rw [jE (by omega),wn (by omega)];rfl
 ·intro b;simp only [jJ.s1,dB,aj]
theorem BL {e:List ag} (h:small e=true):jC e=some e:=by
 obtain ⟨h1,h2,_⟩:=Gy h;unfold jC;rw [wz (step:=jC.s1 e) e (fun a=>a) (fun i b=>(i,b)) (fun b=>b) rfl ?_ ?_ (by omega)]
 ·simp
 ·intro i hi b hb;obtain ⟨k1,k2⟩:=h2 e[i] (dH hi);have hs:=Gx k1;simp only [jC.s1,iZ hi,aG,jo hi,ae];rw [xR (by omega) hs.2,Nl k2];simp only [ae];rw [jE (by omega),wn (by omega)];rfl
 ·intro b;simp only [jC.s1,dB,aj]
theorem O9 {s:aC} (h:xe s=true):oP s=some s:=by
 unfold xe at h;simp only [aS] at h;have hs:=Gx h.1;unfold oP;rw [xR (by omega) hs.2,BL h.2.1,BL h.2.2.1,BL h.2.2.2];rfl
def stE (l:List ah):Int:=if 6 < l.length then 8 else match l.findSome? (fun a=>if (chk a).2=0 then none else some (chk a).2) with | some c=>c | none=>0
theorem Q8:∀ (l:List ah) (i:Nat),iw (fun _ (u:Unit) (a:ah)=>if (chk a).2=0 then Sum.inr u else Sum.inl (chk a).2) i l ()=(match l.findSome? (fun a=>if (chk a).2=0 then none else some (chk a).2) with | some r => .inl r | none => .inr ())
 | [],i=>rfl
 | x::xs,i=>by
  simp only [iw,List.findSome?_cons];by_cases h:(chk x).2=0
  ·simp only [h,aG];exact Q8 xs (i+1)
  ·simp only [h,aj]
theorem Qk {l:List ah} (h:few l=true):sD l=some (stE l):=by
 obtain ⟨h1,h2⟩:=H5 h;unfold sD stE;by_cases h6:6 < l.length
 ·rw [if_pos (by omega),if_pos h6]
 ·rw [if_neg (by omega),if_neg h6];have hfind:∃ k,bP l=some (k,match l.findSome? (fun a=>if (chk a).2=0 then none else some (chk a).2) with | some c=>c | none=>0):=by
   unfold bP;rw [kP (step:=bP.s1 l) l (fun i (_:Unit)=>i) (fun (r:Int×Int)=>Sum.inr r) (fun _=>Sum.inl ()) (fun i u a=>if (chk a).2=0 then .inr u else .inl ((i:Int),(chk a).2)) (fun _ _=>True) (a:=()) rfl ?_ ?_ trivial (by omega)]
   ·have h3:=Aq (f:=fun i (u:Unit) (a:ah)=>if (chk a).2=0 then Sum.inr u else Sum.inl ((i:Int),(chk a).2)) (g:=fun _ (u:Unit) (a:ah)=>if (chk a).2=0 then Sum.inr u else Sum.inl (chk a).2) (fun r=>r.2) (fun _=>True) l.length (fun i u a _ _=>by
     by_cases h:(chk a).2=0<;>simp [h]) l 0 () (by simp) trivial
    rw [Q8] at h3;cases hs:iw (fun i (u:Unit) (a:ah)=>if (chk a).2=0 then Sum.inr u else Sum.inl ((i:Int),(chk a).2)) 0 l () with
    | inl r =>
     rw [hs] at h3;simp only at h3;cases hf:l.findSome? (fun a=>if (chk a).2=0 then none else some (chk a).2) with
     | some c=>rw [hf] at h3;cases h3;exact ⟨r.1,rfl⟩
     | none=>rw [hf] at h3;cases h3
    | inr u =>
     rw [hs] at h3;simp only at h3;cases hf:l.findSome? (fun a=>if (chk a).2=0 then none else some (chk a).2) with
     | some c=>rw [hf] at h3;cases h3
     | none=>exact ⟨0,rfl⟩
   ·intro i hi u _;have:=h2 l[i] (dH hi);refine ⟨?_,fun _ _=>trivial⟩;simp only [bP.s1,iZ hi,aG,jo hi,ae,rG];rw [La (by omega)];simp only [ae];by_cases hc:(chk l[i]).2=0
    ·simp only [hc,dh,aj,aG];rw [wn (by omega)]
    ·simp only [hc,aU,aG,aj]
   ·intro u _;simp only [bP.s1,dB,aj]
  obtain ⟨k,hk⟩:=hfind;rw [hk];rfl
theorem JM {l:List ah} (h:few l=true):kE l=some (stE l):=by
 obtain ⟨h1,h2⟩:=H5 h;unfold kE stE;by_cases h6:6 < l.length
 ·rw [if_pos (by omega),if_pos h6]
 ·rw [if_neg (by omega),if_neg h6];rw [qw (step:=kE.s1 l) l (fun a=>if (chk a).2=0 then none else some (chk a).2) (fun c=>Sum.inr c) (Sum.inl ()) rfl ?_ ?_ (by omega)]
  ·cases l.findSome? (fun a=>if (chk a).2=0 then none else some (chk a).2)<;>rfl
  ·intro i hi;have:=h2 l[i] (dH hi);simp only [kE.s1,iZ hi,aG,jo hi,ae];rw [Vu (by omega)];simp only [ae];by_cases hc:(chk l[i]).2=0
   ·simp only [hc,dh,aj,aG];rw [wn (by omega)]
   ·simp only [hc,aU,aG,aj]
  ·simp only [kE.s1,dB,aj]
theorem aaS {l:List ah} (h:stE l=0):Ed l:=by
 unfold stE at h;split at h
 ·cases h
 ·rename_i h6
  refine ⟨by omega,fun a ha=>Ue ?_⟩;cases hf:l.findSome? (fun a=>if (chk a).2=0 then none else some (chk a).2) with
  | some c =>
   rw [hf] at h;obtain ⟨b,_,hb⟩:=List.exists_of_findSome?_eq_some hf;simp only at h;split at hb
   ·cases hb
   ·cases hb;rename_i q;exact absurd h q
  | none =>
   have:=List.findSome?_eq_none_iff.1 hf a ha;simpa using this
end Go.Sh
set_option linter.all false
namespace Go.Sh
open Go.Lx
theorem YB:yK=some true:=by decide +kernel
structure Shp (x:List Int):Prop where
 dims:x.length≤7
 ext:∀ e,e∈x→0≤e∧e≤512
 p0:0≤P x
 p1:P x≤60
theorem Shp.nil:Shp []:=⟨by simp,by simp,by simp [P],by simp [P]⟩
theorem Gq {b:List (List Int)} (k:Nat) (h:∀ x,x∈b→Shp x):Shp (b.getD k []):=by
 rw [aO];cases hk:b[k]? with
 | none=>exact Shp.nil
 | some x=>exact h x (bz hk)
theorem Tn {l:List ah} {i:Nat} {b b':List (List Int)} {n:ag} (h:kS l i b n = .inr b') (hb:∀ x,x∈b→Shp x):∀ x,x∈b'→Shp x:=by
 have key:∀ z:List Int,Shp z→∀ x,x∈b++[z]→Shp x:=by
  intro z hz x hx;simp only [aP,eY] at hx;rcases hx with hx | hx
  ·exact hb x hx
  ·rw [hx];exact hz
 unfold kS at h;split at h
 ·split at h
  ·cases h;exact key _ Shp.nil
  ·cases h
 ·split at h
  ·split at h
   ·rename_i h2
    cases h;obtain ⟨a,_,hs,h60,_⟩:=AU h2;have:=hs.len;exact key _ ⟨hs.dims,hs.ext,by omega,by omega⟩
   ·cases h
  ·split at h
   ·cases h;exact key _ (Gq _ hb)
   ·split at h
    ·cases h
    ·cases h;refine key _ ?_;split
     ·exact Gq _ hb
     ·exact Gq _ hb
theorem Y4 {l:List ah} {e:List ag} {out:List (List Int)} (h:shE l e = .inr out):∀ x,x∈out→Shp x:=by
 have key:∀ (xs:List ag) (i:Nat) (b b':List (List Int)),iw (kS l) i xs b = .inr b'→(∀ x,x∈b→Shp x)→∀ x,x∈b'→Shp x:=by
  intro xs
  induction xs with
  | nil=>intro i b b' h hb;cases h;exact hb
  | cons x xs ih =>
   intro i b b' h hb;simp only [iw] at h;cases hf:kS l i b x with
   | inl c=>rw [hf] at h;cases h
   | inr b1=>rw [hf] at h;exact ih (i+1) b1 b' h (Tn hf hb)
 exact key e 0 [] out h (by simp)
theorem Q7 {l:List ah} {e:List ag} (h:yU l e=0):Shp (wZ l e):=Gq _ (Y4 (Ag h).2.2)
theorem XH {l:List ah} {e:List ag} (hs:Small e) (h:yU l e=0):qy (some (vF l e))=some (wZ l e):=by
 obtain ⟨F,_,hsh⟩:=Ag h;have hl:=(Gt hsh).1;have hp:=F.pos;have:=hs.1;unfold qy;simp only [ae,vF];rw [uF (by omega) (by omega),at_in (d:=[]) (by omega) (by omega)];simp only [ae,wZ]
 congr 2
 omega
end Go.Sh
set_option linter.all false
namespace Go.Sh
open Go.Lx
theorem XZ {α β:Type} (f:α→β) (l:List α) (k:Int):at_ (l.map f) k=(at_ l k).map f:=by
 unfold at_;split
 ·simp
 ·rfl
def bds (l:List ah):List (List ax):=l.map (·.Bounds)
theorem ZH {l m:List ah} (h:bds l=bds m) (k:Int):(at_ l k).map (·.Bounds)=(at_ m k).map (·.Bounds):=by
 rw [← XZ,← XZ];exact congrArg (fun x=>at_ x k) h
theorem XF {l m:List ah} (h:bds l=bds m) (v:Int) (q:List az):sU l v q=sU m v q:=by
 have:=ZH h v;unfold sU;cases ha:at_ l v with
 | none =>
  rw [ha] at this;cases hb:at_ m v with
  | none=>rfl
  | some b=>rw [hb] at this;cases this
 | some a =>
  rw [ha] at this;cases hb:at_ m v with
  | none=>rw [hb] at this;cases this
  | some b=>rw [hb] at this;simp only [jA,Option.some.injEq] at this;simp only [this]
theorem Tm {l m:List ah} (h:bds l=bds m):kS l=kS m:=by
 funext i b n
 unfold kS;rw [XF h]
theorem VK {l m:List ah} (h:bds l=bds m) (e:List ag):shE l e=shE m e:=by unfold shE;rw [Tm h]
theorem Vp {l m:List ah} (h:bds l=bds m) (e:List ag):yU l e=yU m e:=by unfold yU;rw [VK h]
theorem Xw {l m:List ah} (h:bds l=bds m) (e:List ag):QW l e=QW m e:=by unfold QW;rw [VK h]
theorem VB {l m:List ah} (h:bds l=bds m) (e:List ag):wZ l e=wZ m e:=by unfold wZ;rw [Xw h]
theorem Ee.bds {l m:List ah} {e:List ag} {k:Int} (H:Ee l e k) (h:bds l=bds m) (hm:Ed m):Ee m e k :=
 ⟨hm,H.sm,by rw [← Vp h];exact H.pl,H.k0,by rw [← VB h];exact H.k1⟩
def Ea (l:List ah) (e:List ag) (x:List Int):Int:=if yU l e=0 then (if wZ l e=[]∨wZ l e=x then 0 else 10) else yU l e
theorem Ep {l:List ah} {e:List ag} (x:List Int) (hl:l.length < 1000) (hs:Small e):∃ y,ql l e x=some (y,Ea l e x)∧(Ea l e x=0→y=some (vF l e)):=by
 obtain ⟨y,h1,h2⟩:=Vq (e:=e) hl hs;unfold ql Ea;rw [h1];simp only [ae];by_cases hp:yU l e=0
 ·have hy:=h2 hp;have hd:=(Q7 hp).dims;simp only [hp,dh,aj,aG,hy,XH hs hp,ae];by_cases h0:wZ l e=[]
  ·simp only [h0,jy,Int.natCast_zero,aG,rE,ae,true_or];exact ⟨_,rfl,fun _=>rfl⟩
  ·have:¬ ((wZ l e).length:Int)=0:=by
    intro q;exact h0 (List.length_eq_zero_iff.1 (by omega))
   simp only [this,aj,Uw (show (wZ l e).length < 16777216 by omega),ae,rE,h0,false_or,jX];exact ⟨_,rfl,fun _=>rfl⟩
 ·simp only [hp,aU,aG,aj];exact ⟨none,rfl,fun h=>h.elim⟩
theorem ES {l:List ah} {e:List ag} {x:List Int} (hx:x.length < 16777216) (hl:l.length < 1000) (hs:Small e):uU l e x=some (Ea l e x):=by
 unfold uU Ea;rw [Oq hl hs];simp only [ae];by_cases hp:yU l e=0
 ·have hd:=(Q7 hp).dims;obtain ⟨F,_,hsh⟩:=Ag hp;have hol:=(Gt hsh).1;have hpos:=F.pos;have hlt:=hs.1;simp only [hp,dh,aj,aG];rw [uF (by omega) (by omega),at_in (d:=[]) (by omega) (by omega)];have hr:(QW l e).getD (((QW l e).length:Int) - 1).toNat []=wZ l e:=by unfold wZ;congr 1;omega
  simp only [ae,hr];by_cases h0:wZ l e=[]
  ·simp [h0]
  ·have:((wZ l e).length:Int) > 0:=by
    have:=mt List.length_eq_zero_iff.1 h0;omega
   simp only [this,aG,PM (show (wZ l e).length < 16777216 by omega) hx,ae,h0,false_or,jX];by_cases h1:wZ l e=x<;>simp [h1]
 ·simp only [hp,aU,aG,aj]
theorem Yb {l:List ah} {e:List ag} {x:List Int} (h:Ea l e x=0):yU l e=0∧(wZ l e=[]∨wZ l e=x):=by
 unfold Ea at h;split at h
 ·rename_i q
  split at h
  ·rename_i r;exact ⟨q,r⟩
  ·cases h
 ·rename_i q;exact absurd h q
def sS (l:List ah) (s:aC):aA:=(sU l s.Var s.Subscripts).1
def opE (l:List ah) (s:aC):Int :=
 if stE l=0 then
  if (sU l s.Var s.Subscripts).2=0 then
   if (sS l s).ManyOne=true then 23
   else if Ea l s.Value (sS l s).Extents=0 then
    if s.Mask≠[]∧Ea l s.Mask (sS l s).Extents≠0 then Ea l s.Mask (sS l s).Extents
    else if s.Else=[] then 0
    else if s.Mask=[] then 3
    else Ea l s.Else (sS l s).Extents
   else Ea l s.Value (sS l s).Extents
  else (sU l s.Var s.Subscripts).2
 else stE l
def mkA (l:List ah) (s:aC):aX :=
 aX.mk l s.Var (sS l s).Offsets (some (vF l s.Value)) (if s.Mask=[] then none else some (vF l s.Mask)) (if s.Else=[] then none else some (vF l s.Else))
theorem EF {α:Type} {xs:List α}:((xs.length:Int) > 0)=(xs≠[]):=by cases xs<;>simp
theorem Xd {α:Type} {xs:List α}:((xs.length:Int)=0)=(xs=[]):=by cases xs<;>simp<;>omega
theorem KY {s:aC} (h:xe s=true):(∀ q,q∈s.Subscripts→q.List.length < 16777216)∧Small s.Value∧Small s.Mask∧Small s.Else:=by
 unfold xe at h;simp only [aS] at h;exact ⟨(Gx h.1).2,(Gy h.2.1).2.2,(Gy h.2.2.1).2.2,(Gy h.2.2.2).2.2⟩
theorem PU {l:List ah} {s:aC} (hf:few l=true) (hb:xe s=true):∃ y,lD l s=some (y,opE l s)∧(opE l s=0→y=some (mkA l s)):=by
 have hl:l.length < 1000:=by have:=(H5 hf).1;omega
 obtain ⟨hq,hv,hm,he⟩:=KY hb;unfold lD opE;rw [Qk hf];simp only [ae];by_cases h0:stE l=0
 ·simp only [h0,dh,aj,aG,Rk hl hq,ae,rE,aaL];by_cases h1:(sU l s.Var s.Subscripts).2=0
  ·simp only [h1,aG];by_cases h2:(sS l s).ManyOne=true
   ·have:(sU l s.Var s.Subscripts).1.ManyOne=true:=h2;simp only [this,h2,nJ,aF,aj,aG];exact ⟨none,rfl,by simp⟩
   ·have h2':(sU l s.Var s.Subscripts).1.ManyOne=false:=by simpa [sS] using h2
    simp only [h2',h2,mf,aG,dh,aj];obtain ⟨y,y1,y2⟩:=Ep (sU l s.Var s.Subscripts).1.Extents hl hv;rw [y1];simp only [ae];rw [show (sU l s.Var s.Subscripts).1=sS l s from rfl] at *
    by_cases h3:Ea l s.Value (sS l s).Extents=0
    ·have hy:=y2 h3;simp only [h3,dh,aj,aG,EF];have key:∀ (a:Option dW),a=(if s.Mask=[] then none else some (vF l s.Mask))→∃ z,lD.j1 l s (sU l s.Var s.Subscripts) (y,Ea l s.Value (sS l s).Extents) a=some (z,if s.Else=[] then 0 else if s.Mask=[] then 3 else Ea l s.Else (sS l s).Extents)∧((if s.Else=[] then 0 else if s.Mask=[] then 3 else Ea l s.Else (sS l s).Extents)=0→z=some (mkA l s)):=by
      intro a ha;unfold lD.j1;simp only [EF];by_cases h5:s.Else=[]
      ·simp only [h5,ne_eq,dh,aj,aG];refine ⟨_,rfl,fun _=>?_⟩;unfold mkA;rw [hy,ha];simp only [h5,aG];rfl
      ·simp only [h5,ne_eq,aU,aG,aj];by_cases h6:s.Mask=[]
       ·simp only [ha,h6,aG,Option.isNone_none];exact ⟨none,rfl,by simp⟩
       ·simp only [ha,h6,aj,Option.isNone_some,aF];obtain ⟨u,u1,u2⟩:=Ep (sU l s.Var s.Subscripts).1.Extents hl he;rw [u1];simp only [ae];rw [show (sU l s.Var s.Subscripts).1=sS l s from rfl] at *
        by_cases h7:Ea l s.Else (sS l s).Extents=0
        ·simp only [h7,dh,aj];refine ⟨_,rfl,fun _=>?_⟩;unfold mkA;rw [hy,u2 h7];simp only [h5,h6,aj]
        ·simp only [h7,aU,aG];exact ⟨none,rfl,fun h=>h.elim⟩
     by_cases h4:s.Mask=[]
     ·simp only [h4,ne_eq,dh,aj,false_and] at key ⊢;rw [h3] at key;exact key none rfl
     ·simp only [h4,ne_eq,aU,aG,true_and] at key ⊢;obtain ⟨u,u1,u2⟩:=Ep (sS l s).Extents hl hm;rw [u1];simp only [ae];by_cases h7:Ea l s.Mask (sS l s).Extents=0
      ·simp only [h7,dh,aj];rw [h3] at key;exact key u (u2 h7)
      ·simp only [h7,aU,aG,aF,aj];exact ⟨none,rfl,fun h=>h.elim⟩
    ·simp only [h3,aU,aG,aj,aF];exact ⟨none,rfl,fun h=>h.elim⟩
  ·simp only [h1,aj,aU,aG];exact ⟨none,rfl,fun h=>h.elim⟩
 ·simp only [h0,aU,aG,aj];exact ⟨none,rfl,fun h=>h.elim⟩
theorem Y9 {l:List ah} {v:Int} {q:List az} {a:ah} (ha:at_ l v=some a):(sU l v q).2=if (pV a.Bounds q).2=0 then (if (pV a.Bounds q).1.Offsets.length≤60 then 0 else 8) else (pV a.Bounds q).2:=by
 unfold sU;rw [ha]
theorem FU {l:List ah} {s:aC} (hf:few l=true) (hb:xe s=true):lT l s=some (if opE l s=0 then sS l s else DL,opE l s):=by
 have hl:l.length < 1000:=by have:=(H5 hf).1;omega
 obtain ⟨hq,hv,hm,he⟩:=KY hb;unfold lT opE;rw [JM hf];simp only [ae];by_cases h0:stE l=0
 ·simp only [h0,dh,aj,aG];rw [uF (by omega) (by omega),Iz];cases ha:at_ l s.Var with
  | none =>
   have h6:(sU l s.Var s.Subscripts).2=6:=by unfold sU;rw [ha]
   rw [if_pos (Ei.1 ha),h6];rfl
  | some a =>
   have hin:bZ s.Var 0 ((l.length:Int) - 1)=true:=by
    have h1:=mt Ei.2 (by rw [ha];simp:¬ at_ l s.Var=none);simpa using h1
   have hs1:(sU l s.Var s.Subscripts).1=(pV a.Bounds s.Subscripts).1:=by unfold sU;rw [ha]
   have hs2:=Y9 (q:=s.Subscripts) ha;simp only [hin,dh,aj,ae,wC a.Bounds s.Subscripts hq];by_cases h1:(pV a.Bounds s.Subscripts).2=0
   ·simp only [h1,aG] at hs2;simp only [h1,dh,aj];by_cases h60:(pV a.Bounds s.Subscripts).1.Offsets.length≤60
    ·simp only [h60,aG] at hs2;have hsct:=(AU hs2)
     obtain ⟨_,_,sc,_,_⟩:=hsct;have hd:=sc.dims;rw [if_neg (by omega)];unfold sS;rw [← hs1];simp only [hs2,aG];by_cases h2:(sU l s.Var s.Subscripts).1.ManyOne=true
     ·simp only [h2,aG];rfl
     ·simp only [h2,aj,aF,ES (show (sU l s.Var s.Subscripts).1.Extents.length < 16777216 by omega) hl hv,ae];by_cases h3:Ea l s.Value (sU l s.Var s.Subscripts).1.Extents=0
      ·simp only [h3,dh,aj,aG,EF];have key:lT.j1 l s (pV a.Bounds s.Subscripts) ()=some (if (if s.Else=[] then 0 else if s.Mask=[] then 3 else Ea l s.Else (sU l s.Var s.Subscripts).1.Extents)=0 then (sU l s.Var s.Subscripts).1 else DL,if s.Else=[] then 0 else if s.Mask=[] then 3 else Ea l s.Else (sU l s.Var s.Subscripts).1.Extents):=by
        unfold lT.j1;simp only [EF,Xd,← hs1];by_cases h5:s.Else=[]
        ·simp only [h5,ne_eq,dh,aj,aG]
        ·simp only [h5,ne_eq,aU,aG,aj];by_cases h6:s.Mask=[]
         ·simp only [h6,aG];rfl
         ·simp only [h6,aj,ES (show (sU l s.Var s.Subscripts).1.Extents.length < 16777216 by omega) hl he,ae];by_cases h7:Ea l s.Else (sU l s.Var s.Subscripts).1.Extents=0
          ·simp only [h7,dh,aj,aG]
          ·simp only [h7,aU,aG,aj];rfl
       by_cases h4:s.Mask=[]
       ·simp only [h4,ne_eq,dh,aj,false_and,aG] at key ⊢;exact key
       ·simp only [h4,ne_eq,aU,aG,true_and,aj,ES (show (sU l s.Var s.Subscripts).1.Extents.length < 16777216 by omega) hl hm,ae] at key ⊢;by_cases h7:Ea l s.Mask (sU l s.Var s.Subscripts).1.Extents=0
        ·simp only [h7,dh,aj];exact key
        ·simp only [h7,aU,aG,aj];rfl
      ·simp only [h3,aU,aG,aj];rfl
    ·simp only [h60,aj] at hs2;rw [if_pos (by omega),hs2];rfl
   ·simp only [h1,aj] at hs2;simp only [h1,aU,aG,hs2,aj];rfl
 ·simp only [h0,aU,aG,aj];rfl
end Go.Sh
set_option linter.all false
namespace Go.Sh
open Go.Lx
structure Asg (l:List ah) (s:aC):Prop where
 st:Ed l
 arr:∃ a,at_ l s.Var=some a∧Sct a.Bounds (sS l s)
 n60:(sS l s).Offsets.length≤60
 many:(sS l s).ManyOne=false
 va:Small s.Value∧Ea l s.Value (sS l s).Extents=0
 ma:Small s.Mask∧(s.Mask≠[]→Ea l s.Mask (sS l s).Extents=0)
 el:Small s.Else∧(s.Else≠[]→s.Mask≠[]∧Ea l s.Else (sS l s).Extents=0)
theorem asg {l:List ah} {s:aC} (hb:xe s=true) (h:opE l s=0):Asg l s:=by
 obtain ⟨hq,hv,hm,he⟩:=KY hb;unfold opE at h;split at h
 ·rename_i h0
  split at h
  ·rename_i h1
   split at h
   ·cases h
   ·rename_i h2
    split at h
    ·rename_i h3
     split at h
     ·rename_i h4;exact absurd h h4.2
     ·rename_i h4
      obtain ⟨a,ha,sc,h60,_⟩:=AU h1;refine ⟨aaS h0,⟨a,ha,sc⟩,h60,by simpa using h2,⟨hv,h3⟩,⟨hm,fun q=>?_⟩,he,fun q=>?_⟩
      ·exact iG fun r=>h4 ⟨q,r⟩
      ·rw [if_neg q] at h;split at h
       ·cases h
       ·rename_i r;exact ⟨r,h⟩
    ·rename_i h3;exact absurd h h3
  ·rename_i h1;exact absurd h h1
 ·rename_i h0;exact absurd h h0
def nC (l:List ah) (s:aC):Nat:=(sS l s).Offsets.length
theorem Ls {l:List ah} {s:aC} (A:Asg l s) {e:List ag} (hs:Small e) (h:Ea l e (sS l s).Extents=0) {k:Int} (h0:0≤k) (h1:k < nC l s):Ee l e k:=by
 obtain ⟨p1,p2⟩:=Yb h;obtain ⟨a,_,sc⟩:=A.arr;have:=sc.len;unfold nC at h1;refine ⟨A.st,hs,p1,h0,?_⟩;rcases p2 with q | q
 ·exact .inl q
 ·right;rw [q];omega
def chs (l:List ah) (s:aC) (k:Int):List ag:=if s.Mask≠[]∧value l s.Mask k=0 then s.Else else s.Value
theorem YP {l:List ah} {e:List ag} {x:List Int} (h:Ea l e x=0):e≠[]:=by
 intro q;have:=(Ag (Yb h).1).1.pos;rw [q] at this;simp at this
theorem X5 {l:List ah} {s:aC} (A:Asg l s) {k:Int} (h0:0≤k) (h1:k < nC l s) (hc:chs l s k≠[]):Ee l (chs l s k) k:=by
 unfold chs at hc ⊢;split at hc
 ·rename_i q
  rw [if_pos q];exact Ls A A.el.1 (A.el.2 hc).2 h0 h1
 ·rename_i q
  rw [if_neg q];exact Ls A A.va.1 A.va.2 h0 h1
theorem Nh {l:List ah} {s:aC} (A:Asg l s) {k:Int} (h0:0≤k) (h1:k < nC l s):iR (some (mkA l s)) k=some (if chs l s k=[] then none else some (vF l (chs l s k))):=by
 have hv:=YP A.va.2;unfold iR;simp only [ae,mkA];by_cases h4:s.Mask=[]
 ·have:chs l s k=s.Value:=by unfold chs;rw [if_neg (fun q=>q.1 h4)]
  rw [this];simp only [h4,aG,Option.isNone_none,hv,aj]
 ·simp only [h4,aj,Option.isNone_some,aF];rw [Oj (Ls A A.ma.1 (A.ma.2 h4) h0 h1)];simp only [ae];by_cases h5:value l s.Mask k=0
  ·have:chs l s k=s.Else:=by unfold chs;rw [if_pos ⟨h4,h5⟩]
   rw [this];simp only [h5,dh,aj]
  ·have:chs l s k=s.Value:=by unfold chs;rw [if_neg (fun q=>h5 q.2)]
   rw [this];simp only [h5,aU,aG,hv,aj]
theorem Om {l:List ah} {s:aC} (A:Asg l s):mF l s (nC l s:Int)=some ((List.range (nC l s)).map fun k:Nat=>chs l s (k:Int)):=by
 have h60:=A.n60;unfold mF;rw [wz (step:=mF.s1 l s (nC l s:Int)) (List.range (nC l s)) (fun k:Nat=>chs l s (k:Int)) (fun i b=>(i,b)) (fun b=>b) rfl ?_ ?_ (by simp [nC];omega)]
 ·rfl
 ·intro i hi b hb;simp only [jW] at hi;have hlt:((i:Int) < (nC l s:Int))=True:=rP (by omega);have hn:nC l s≤60:=h60;simp only [mF.s1,hlt,aG,EF,List.getElem_range];by_cases h4:s.Mask=[]
  ·have:chs l s i=s.Value:=by unfold chs;rw [if_neg (fun q=>q.1 h4)]
   simp only [h4,ne_eq,dh,aj,this];rw [jE (by omega),wn (by omega)];rfl
  ·simp only [h4,ne_eq,aU,aG];rw [RY (Ls A A.ma.1 (A.ma.2 h4) (by omega) (by omega))];simp only [ae];by_cases h5:value l s.Mask i=0
   ·have:chs l s i=s.Else:=by unfold chs;rw [if_pos ⟨h4,h5⟩]
    simp only [h5,aG,this];rw [jE (by omega),wn (by omega)];rfl
   ·have:chs l s i=s.Value:=by unfold chs;rw [if_neg (fun q=>h5 q.2)]
    simp only [h5,aj,this];rw [jE (by omega),wn (by omega)];rfl
 ·intro b;simp only [jW,mF.s1,Int.lt_irrefl,aj]
def cellAt (l:List ah) (s:aC) (k:Int):Int:=(sS l s).Offsets.getD k.toNat 0
def JO (m:List ah) (v:Int) (c x:Int):List ah :=
 match at_ m v with
 | none=>m
 | some a=>m.set v.toNat { a with Elements:=a.Elements.set c.toNat x }
structure Like (l m:List ah):Prop where
 b:bds l=bds m
 st:Ed m
theorem Like.refl {l:List ah} (h:Ed l):Like l l:=⟨rfl,h⟩
theorem at_mem {α:Type} {l:List α} {v:Int} {a:α} (h:at_ l v=some a):0≤v∧v.toNat < l.length∧l[v.toNat]?=some a:=by
 unfold at_ at h;split at h
 ·rename_i h0;exact ⟨h0,(ay.1 h).1,h⟩
 ·cases h
theorem Like.set {l m:List ah} (L:Like l m) {v c x:Int} (hx:Bv x):Like l (JO m v c x):=by
 unfold JO;cases ha:at_ m v with
 | none=>exact L
 | some a =>
  obtain ⟨h0,h1,h2⟩:=at_mem ha;simp only;refine ⟨?_,?_,?_⟩
  ·rw [L.b];unfold bds;rw [List.map_set];symm;apply lV ;intro i;rw [jV];split
   ·rename_i q
    subst q;simp only [iq,h1,aG,bn,h2,jA]
   ·rfl
  ·simpa using L.st.1
  ·intro b hb;rcases List.mem_or_eq_of_mem_set hb with q | q
   ·exact L.st.2 b q
   ·have hv:=L.st.2 a (bz h2);subst q;refine ⟨hv.b,by simpa using hv.len,fun y hy=>?_⟩;rcases List.mem_or_eq_of_mem_set hy with r | r
    ·exact hv.int y r
    ·subst r;unfold Bv at hx;unfold eU bu;simp;omega
theorem Ud {l:List ah} {s:aC} (A:Asg l s) {k:Int} (h0:0≤k) (h1:k < nC l s):cellAt l s k∈(sS l s).Offsets∧at_ (sS l s).Offsets k=some (cellAt l s k):=by
 unfold nC at h1;unfold cellAt;refine ⟨?_,at_in h0 h1⟩;rw [aO,au (by omega)];exact dH _
def uf (n:Nat):List Int:=(List.range n).map fun k:Nat=>(k:Int)
theorem at_range {α:Type} (f:Nat→α) {n:Nat} {k:Int} (h0:0≤k) (h1:k < n):at_ ((List.range n).map f) k=some (f k.toNat):=by
 unfold at_;rw [if_pos h0,bn,List.getElem?_range (by omega)];rfl
theorem Xx (n:Nat):∀ k,k∈uf n→0≤k∧k < n:=by
 intro k hk;unfold uf at hk;obtain ⟨i,hi,rfl⟩:=gU.1 hk;simp only [kT] at hi;omega
end Go.Sh
set_option linter.all false
namespace Go.Sh
open Go.Lx
def PY (l:List ah) (k v c:Int) (n:ag):Bool:=(n.Kind==1)&&((n.Var==v)&&(pick (sU l n.Var n.Subscripts).1 k==c))
def L8 (l:List ah) (e:List ag) (k v c:Int):Bool:=e.any (PY l k v c)
theorem YE {l:List ah} {e:List ag} {k:Int} (H:Ee l e k) {i:Nat} (hi:i < e.length) (h1:e[i].Kind=1):ug l e[i] k=some (pick (sU l e[i].Var e[i].Subscripts).1 k):=by
 obtain ⟨a,ha,hof,g0,g1,_,hse⟩:=IX H hi h1;have hq:=H.sm.2 e[i] (dH hi);have:=hof _ rfl;unfold ug;rw [ha];simp only [ae,wC a.Bounds e[i].Subscripts hq];rw [← hse];exact this
theorem P7 {l:List ah} {e:List ag} {k:Int} (H:Ee l e k) (v c:Int):nX l e k v c=some (L8 l e k v c):=by
 have hlt:=H.sm.1;unfold nX;obtain ⟨j,hj⟩:=wu (step:=nX.s1 l e k v c) e (PY l k v c) (fun _=>Sum.inr true) (Sum.inl ()) (s:=0) rfl (fun i hi=>by
  simp only [nX.s1,iZ hi,aG,jo hi,ae,PY];by_cases h1:e[i].Kind=1
  ·simp only [h1,aG,YE H hi h1,ae,kK,iK];by_cases h2:e[i].Var=v
   ·simp only [h2,aG,kK,iK,jX];split
    ·rfl
    ·rw [wn (by omega)]
   ·have:(e[i].Var==v)=false:=by simpa using h2
    simp only [h2,aj,this,jQ,aF];rw [wn (by omega)]
  ·have:(e[i].Kind==1)=false:=by simpa using h1
   simp only [h1,aj,this,jQ,aF];rw [wn (by omega)]) (by simp only [nX.s1,dB,aj]) (by omega)
 rw [hj];unfold L8;by_cases h:e.any (PY l k v c)=true
 ·simp [h]
 ·simp [h]
theorem XB {l:List ah} {s:aC} (A:Asg l s) {k:Int} (h0:0≤k) (h1:k < nC l s) (c:Int):gG (some (mkA l s)) k c=some (L8 l (chs l s k) k s.Var c):=by
 unfold gG;rw [Nh A h0 h1];simp only [ae];by_cases h5:chs l s k=[]
 ·simp only [h5,aG,Option.isNone_none];rfl
 ·have H:=X5 A h0 h1 h5;have hlt:=H.sm.1;simp only [h5,aj,Option.isNone_some,aF,ae];generalize chs l s k=e at *
  obtain ⟨j,hj⟩:=wu (step:=gG.s1 (some (mkA l s)) k c (vF l e)) e (PY l k s.Var c) (fun _=>Sum.inr true) (Sum.inl ()) (s:=0) rfl (fun i hi=>by
   have hlt':((i:Int) < ((vF l e).e.length:Int))=True:=iZ hi;have hat:at_ (vF l e).e i=some e[i]:=jo hi;simp only [gG.s1,hlt',aG,hat,ae,PY];by_cases h1:e[i].Kind=1
   ·obtain ⟨a,ha,hof,_⟩:=IX H hi h1;have hsec:at_ (vF l e).sections i=some (sU l e[i].Var e[i].Subscripts).1:=by
     show at_ (e.map (sec l)) i=_
     rw [jo (by simpa using hi)];simp [sec,h1]
    have hv:(mkA l s).at_=s.Var:=rfl;simp only [h1,aG,hsec,ae,hof _ rfl,kK,iK,hv];by_cases h2:e[i].Var=s.Var
    ·simp only [h2,aG,kK,iK,jX];split
     ·rfl
     ·rw [wn (by omega)]
    ·have:(e[i].Var==s.Var)=false:=by simpa using h2
     simp only [h2,aj,this,jQ,aF];rw [wn (by omega)]
   ·have:(e[i].Kind==1)=false:=by simpa using h1
    simp only [h1,aj,this,jQ,aF];rw [wn (by omega)]) (by
    have:¬ ((e.length:Int) < ((vF l e).e.length:Int)):=by show ¬ ((e.length:Int) < (e.length:Int));omega
    simp only [gG.s1,this,aj]) (by omega)
  rw [hj];unfold L8;by_cases h:e.any (PY l k s.Var c)=true
  ·simp [h]
  ·simp [h]
def conf (l:List ah) (s:aC) (w r:Nat):Bool :=
 decide (w≠r)&&(!(chs l s (w:Int)).isEmpty&&(!(chs l s (r:Int)).isEmpty&&L8 l (chs l s (r:Int)) (r:Int) s.Var (cellAt l s (w:Int))))
def uJ (l:List ah) (s:aC) (w r:Nat):List ai:=if conf l s w r=true then [ai.mk (w:Int) (r:Int)] else []
def wY (l:List ah) (s:aC):List ai:=(List.range (nC l s)).flatMap fun w=>(List.range (nC l s)).flatMap (uJ l s w)
theorem foldl_flat {α β:Type} (g:α→List β):∀ (xs:List α) (acc:List β),xs.foldl (fun b x=>b++g x) acc=acc++xs.flatMap g
 | [],acc=>by simp
 | x::xs,acc=>by rw [dY,foldl_flat g xs];simp
theorem DC {τ β:Type} {step:Int×List β→Option (Sum (Int×List β) τ)} (n:Nat) (g:Nat→List β) (m:Nat) (fin:List β→τ) {acc:List β} (hn:n < 1000)
  (hg:∀ i,i < n→(g i).length≤m)
  (h:∀ i,i < n→∀ b:List β,b.length≤acc.length+i * m→step ((i:Int),b)=some (.inl (((i+1:Nat):Int),b++g i)))
  (hend:∀ b,step ((n:Int),b)=some (.inr (fin b))):fZ step (0,acc)=some (fin (acc++(List.range n).flatMap g)):=by
 have hl:(List.range n).length=n:=jW;rw [lL (step:=step) (List.range n) (fun i b=>(i,b)) fin (fun b x=>b++g x) (fun i b=>b.length≤acc.length+i * m) (a:=acc) rfl ?_ ?_ (by simp) (by omega),foldl_flat]
 ·intro i hi b hb;rw [hl] at hi;have e:(List.range n)[i]=i:=by simp
  rw [e];refine ⟨h i hi b hb,?_⟩;have:=hg i hi;rw [iy,Nat.succ_mul];omega
 ·intro b _;rw [hl];exact hend b
theorem Hg (l:List ah) (s:aC) (w r:Nat):(uJ l s w r).length≤1:=by unfold uJ;split<;>simp
theorem Lt {α β:Type} (g:α→List β) (m:Nat):∀ (xs:List α),(∀ x,x∈xs→(g x).length≤m)→(xs.flatMap g).length≤xs.length * m
 | [],_=>by simp
 | x::xs,h=>by
  rw [List.flatMap_cons,iy,dU,Nat.succ_mul];have:=Lt g m xs (fun y hy=>h y (.tail _ hy));have:=h x (.head _);omega
theorem Qc (l:List ah) (s:aC) (w:Nat):((List.range (nC l s)).flatMap (uJ l s w)).length≤nC l s:=by
 have:=Lt (uJ l s w) 1 (List.range (nC l s)) (fun r _=>Hg l s w r);simpa using this
theorem zM {l:List ah} {s:aC} (A:Asg l s):(wY l s).length≤3600:=by
 have hn:nC l s≤60:=A.n60;have:=Lt (fun w=>(List.range (nC l s)).flatMap (uJ l s w)) (nC l s) (List.range (nC l s)) (fun w _=>Qc l s w);simp only [jW] at this;have h2:nC l s * nC l s≤60 * 60:=Nat.mul_le_mul hn hn;unfold wY;omega
theorem XD {l:List ah} {s:aC} {w:Nat} (h:chs l s (w:Int)=[]):(List.range (nC l s)).flatMap (uJ l s w)=[]:=by
 have:∀ r,uJ l s w r=[]:=fun r=>by unfold uJ conf;rw [h];simp
 have h2:uJ l s w=fun _=>[]:=funext this
 rw [h2];generalize List.range (nC l s)=xs
 induction xs with
 | nil=>rfl
 | cons x xs ih=>rw [List.flatMap_cons,ih];rfl
theorem Fv {l:List ah} {s:aC} (A:Asg l s):bW (some (mkA l s))=some (wY l s):=by
 have hn:nC l s≤60:=A.n60;have hcl:((mkA l s).cells.length:Int)=(nC l s:Int):=rfl;unfold bW;simp only [ae];rw [DC (step:=bW.s1 (some (mkA l s)) (mkA l s)) (nC l s) (fun w=>(List.range (nC l s)).flatMap (uJ l s w)) (nC l s) (fun b=>b) (by omega) (fun w _=>Qc l s w) ?_ ?_]
 ·rfl
 ·intro i hi b hb;have hb2:b.length≤3600:=by
   have:i * nC l s≤60 * 60:=Nat.mul_le_mul (by omega) hn;simp only [jy] at hb;omega
  have hlt:((i:Int) < ((mkA l s).cells.length:Int))=True:=rP (by rw [hcl];omega);have hc:at_ (mkA l s).cells i=some (cellAt l s i):=(Ud A (show (0:Int)≤i by omega) (by omega)).2;simp only [bW.s1,hlt,aG,hc,ae,Nh A (show (0:Int)≤i by omega) (by omega)];by_cases h5:chs l s i=[]
  ·simp only [h5,aG,Option.isNone_none];rw [wn (by omega),XD h5,jh]
  ·simp only [h5,aj,Option.isNone_some,aF];rw [DC (step:=bW.s2 (some (mkA l s)) (mkA l s) ((i:Int),b) (cellAt l s i)) (nC l s) (uJ l s i) 1 (fun b=>b) (by omega) (fun r _=>Hg l s i r) ?_ ?_]
   ·simp only [ae];rw [wn (by omega)]
   ·intro j hj b' hb';have hlt2:((j:Int) < ((mkA l s).cells.length:Int))=True:=rP (by rw [hcl];omega);simp only [bW.s2,hlt2,aG];have e5:(chs l s i).isEmpty=false:=by simpa using h5
    by_cases hij:(j:Int)=i
    ·have:conf l s i j=false:=by unfold conf;simp;omega
     simp only [hij,dh,aj,uJ,this,aF];rw [wn (by omega),jh]
     congr 3
     omega
    ·simp only [hij,aU,aG,XB A (show (0:Int)≤j by omega) (show (j:Int) < nC l s by omega),ae];have hne:decide (i≠j)=true:=by simp;omega
     have hcf:conf l s i j=L8 l (chs l s j) j s.Var (cellAt l s i):=by
      unfold conf;rw [hne,e5];by_cases h6:chs l s j=[]
      ·rw [h6];rfl
      ·have e6:(chs l s j).isEmpty=false:=by simpa using h6
       rw [e6];rfl
     by_cases hr:L8 l (chs l s j) j s.Var (cellAt l s i)=true
     ·simp only [hr,aG,uJ,hcf];rw [jE (by omega),wn (by omega)];rfl
     ·simp only [hr,aj,uJ,hcf,aF];rw [wn (by omega),jh]
   ·intro b';have:¬ ((nC l s:Int) < ((mkA l s).cells.length:Int)):=by rw [hcl];omega
    simp only [bW.s2,this,aj]
 ·intro b;have:¬ ((nC l s:Int) < ((mkA l s).cells.length:Int)):=by rw [hcl];omega
  simp only [bW.s1,this,aj]
theorem I8 {l:List ah} {s:aC} (hf:few l=true) (hb:xe s=true) (h:opE l s=0):ig l s=some (wY l s):=by
 have A:=asg hb h;have hn:nC l s≤60:=A.n60;unfold ig;rw [FU hf hb];simp only [h,aG,ae];rw [show ((sS l s).Offsets.length:Int)=(nC l s:Int) from rfl,Om A];simp only [ae];have hxl:(((List.range (nC l s)).map fun k:Nat=>chs l s (k:Int)).length:Int)=(nC l s:Int):=by simp
 have hat:∀ i:Nat,i < nC l s→at_ ((List.range (nC l s)).map fun k:Nat=>chs l s (k:Int)) (i:Int)=some (chs l s i):=fun i hi=>by
  rw [at_range _ (by omega) (by omega)];simp
 generalize (List.range (nC l s)).map (fun k:Nat=>chs l s (k:Int))=X at *
 rw [DC (step:=ig.s1 l s (sS l s,0) X) (nC l s) (fun w=>(List.range (nC l s)).flatMap (uJ l s w)) (nC l s) (fun b=>b) (by omega) (fun w _=>Qc l s w) ?_ ?_]
 ·rfl
 ·intro i hi b hb;have hb2:b.length≤3600:=by
   have:i * nC l s≤60 * 60:=Nat.mul_le_mul (by omega) hn;simp only [jy] at hb;omega
  have hlt:((i:Int) < (X.length:Int))=True:=rP (by rw [hxl];omega);simp only [ig.s1,hlt,aG];rw [DC (step:=ig.s2 l s (sS l s,0) X ((i:Int),b)) (nC l s) (uJ l s i) 1 (fun b=>b) (by omega) (fun r _=>Hg l s i r) ?_ ?_]
  ·simp only [ae];rw [wn (by omega)]
  ·intro j hj b' hb';have hlt2:((j:Int) < (X.length:Int))=True:=rP (by rw [hxl];omega);simp only [ig.s2,hlt2,aG];by_cases hij:(i:Int)=j
   ·have:conf l s i j=false:=by unfold conf;simp;omega
    simp only [hij,dh,aj,uJ,this,aF];rw [wn (by omega),jh]
   ·have hne:decide (i≠j)=true:=by simp;omega
    simp only [hij,aU,aG,hat i hi,hat j hj,ae,EF];by_cases h5:chs l s i=[]
    ·have:conf l s i j=false:=by unfold conf;rw [h5];simp
     simp only [h5,ne_eq,dh,aj,uJ,this,aF];rw [wn (by omega),jh]
    ·by_cases h6:chs l s j=[]
     ·have:conf l s i j=false:=by unfold conf;rw [h6];simp
      simp only [h5,h6,ne_eq,dh,aU,aG,aj,uJ,this,aF];rw [wn (by omega),jh]
     ·have hc:=(Ud A (show (0:Int)≤i by omega) (show (i:Int) < nC l s by omega)).2;simp only [h5,h6,ne_eq,aU,aG,hc,ae,P7 (X5 A (show (0:Int)≤j by omega) (show (j:Int) < nC l s by omega) h6)];have e5:(chs l s i).isEmpty=false:=by simpa using h5
      have e6:(chs l s j).isEmpty=false:=by simpa using h6
      have hcf:conf l s i j=L8 l (chs l s j) j s.Var (cellAt l s i):=by unfold conf;rw [hne,e5,e6];rfl
      by_cases hr:L8 l (chs l s j) j s.Var (cellAt l s i)=true
      ·simp only [hr,aG,uJ,hcf];rw [jE (by omega),wn (by omega)];rfl
      ·simp only [hr,aj,uJ,hcf,aF];rw [wn (by omega),jh]
  ·intro b';have:¬ ((nC l s:Int) < (X.length:Int)):=by rw [hxl];omega
   simp only [ig.s2,this,aj]
 ·intro b;have:¬ ((nC l s:Int) < (X.length:Int)):=by rw [hxl];omega
  simp only [ig.s1,this,aj]
theorem Ui {l:List ah} {s:aC} {c:ai}:c∈wY l s↔∃ w r:Nat,w < nC l s∧r < nC l s∧conf l s w r=true∧c=ai.mk (w:Int) (r:Int):=by
 unfold wY;simp only [List.mem_flatMap,kT];constructor
 ·rintro ⟨w,hw,r,hr,hc⟩
  unfold uJ at hc;split at hc
  ·rename_i q;simp only [eY] at hc;exact ⟨w,r,hw,hr,q,hc⟩
  ·cases hc
 ·rintro ⟨w,r,hw,hr,q,rfl⟩
  exact ⟨w,hw,r,hr,by unfold uJ;rw [if_pos q];exact eY.2 rfl⟩
end Go.Sh
set_option linter.all false
namespace Go.Sh
open Go.Lx
theorem oG (n:Nat):(uf n).length=n:=by simp [uf]
theorem Oi (n:Nat):(uf n).Nodup:=by
 unfold uf List.Nodup;rw [List.pairwise_map];exact (List.pairwise_lt_range (n:=n)).imp (by intro a b h;omega)
theorem nN {n:Nat} {x:Int}:x∈uf n↔0≤x∧x < n:=by
 constructor
 ·exact Xx n x
 ·intro h;exact gU.2 ⟨x.toNat,kT.2 (by omega),by omega⟩
theorem yR:∀ {xs ys:List Int},xs.Nodup→(∀ x,x∈xs→x∈ys)→ys.length≤xs.length→ys.Perm xs
 | [],ys,_,_,h=>by
  have:ys=[]:=cZ (by simpa using h);subst this;exact .refl _
 | x::xs,ys,hn,hs,hl=>by
  rw [List.nodup_cons] at hn;have hx:=hs x (.head _);have p:=List.perm_cons_erase hx;refine p.trans (.cons x (yR hn.2 (fun z hz=>?_) ?_))
  ·have hne:z≠x:=fun e=>hn.1 (e ▸ hz)
   exact (List.mem_erase_of_ne hne).2 (hs z (.tail _ hz))
  ·have:=List.length_erase_of_mem hx;simp at hl;have:=List.length_pos_of_mem hx;omega
def idx (v:Int):List Int→Nat→Int
 | [],_ => -1
 | x::xs,i=>if v=x then (i:Int) else idx v xs (i+1)
theorem WW {o:List Int} {v:Int} (h:o.length < 1000):slices_Index_int o v=some (idx v o 0):=by
 unfold slices_Index_int;rw [kP (ρ:=Nat) (step:=slices_Index_int.s1 o v) o (fun i (_:Unit)=>i) (fun k=>Sum.inr (k:Int)) (fun _=>Sum.inl ()) (fun i _ x=>if v=x then .inl i else .inr ()) (fun _ _=>True) (a:=()) rfl ?_ ?_ trivial (by omega)]
 ·have key:∀ (xs:List Int) (i:Nat),(iw (ρ:=Nat) (fun i (_:Unit) x=>if v=x then .inl i else .inr ()) i xs () = .inr ()∧idx v xs i = -1)∨∃ k:Nat,iw (ρ:=Nat) (fun i (_:Unit) x=>if v=x then .inl i else .inr ()) i xs () = .inl k∧idx v xs i=(k:Int):=by
   intro xs
   induction xs with
   | nil=>intro i;exact .inl ⟨rfl,rfl⟩
   | cons x xs ih =>
    intro i;simp only [iw,idx];by_cases hx:v=x
    ·simp only [hx,aG];exact .inr ⟨i,rfl,rfl⟩
    ·simp only [hx,aj];exact ih (i+1)
  rcases key o 0 with ⟨h1,h2⟩ | ⟨k,h1,h2⟩
  ·rw [h1,h2];rfl
  ·rw [h1,h2];rfl
 ·intro i hi _ _;refine ⟨?_,fun _ _=>trivial⟩;simp only [slices_Index_int.s1,iZ hi,aG,jo hi,ae];by_cases hx:v=o[i]
  ·simp only [hx,aG]
  ·simp only [hx,aj];rw [wn (by omega)]
 ·intro _ _;simp only [slices_Index_int.s1,dB,aj]
def bef (c:ai):List Int→Bool
 | []=>false
 | x::xs=>if x=c.Reader then false else if x=c.Writer then true else bef c xs
theorem Ye {v:Int}:∀ {xs:List Int} (i:Nat),v∈xs→(i:Int)≤idx v xs i
 | [],i,h=>by cases h
 | x::xs,i,h=>by
  unfold idx;split
  ·omega
  ·rename_i hx
   rcases fJ.1 h with q | q
   ·exact absurd q hx
   ·have:=Ye (i+1) q;omega
def Y8 (c:List ai) (o:List Int):Bool:=!(c.any fun x=>bef x o)
end Go.Sh
set_option linter.all false
namespace Go.Sh
open Go.Lx
def aft (C:List ai) (r:Int):List Int:=(C.filter fun c=>c.Reader==r).map (·.Writer)
def xC (n:Nat) (C:List ai):List (List Int):=(List.range n).map fun r:Nat=>aft C (r:Int)
theorem yu (n:Nat) (C:List ai):(xC n C).length=n:=by simp [xC]
theorem KP {n:Nat} {C:List ai} {r:Int} (h0:0≤r) (h1:r < n):at_ (xC n C) r=some (aft C r):=by
 unfold xC;rw [at_range _ h0 h1]
 congr 2
 omega
theorem Wl (C:List ai) (c:ai) (r:Int):aft (C++[c]) r=if c.Reader=r then aft C r++[c.Writer] else aft C r:=by
 unfold aft;rw [List.filter_append,og];by_cases h:c.Reader=r
 ·rw [if_pos h];simp [h]
 ·rw [if_neg h];simp [h]
theorem Wi {n:Nat} {C:List ai} {c:ai} (h0:0≤c.Reader) (h1:c.Reader < n):(xC n C).set c.Reader.toNat (aft C c.Reader++[c.Writer])=xC n (C++[c]):=by
 apply lV;intro i;rw [jV];unfold xC;simp only [iq,jW,bn];by_cases hi:i < n
 ·rw [List.getElem?_range hi];simp only [jA,Wl];by_cases e:c.Reader.toNat=i
  ·rw [if_pos e,if_pos (by omega),if_pos (by omega)];rw [show c.Reader=(i:Int) by omega]
  ·rw [if_neg e,if_neg (by omega)]
 ·have:(List.range n)[i]?=none:=jk (by simpa using hi);rw [this];split
  ·rename_i e;rw [if_neg (by omega)];rfl
  ·rfl
def inC (n:Nat) (C:List ai):Prop:=∀ c,c∈C→(0≤c.Writer∧c.Writer < n)∧(0≤c.Reader∧c.Reader < n)∧c.Writer≠c.Reader
theorem CZ (l:List ah) (s:aC):inC (nC l s) (wY l s):=by
 intro c hc;obtain ⟨w,r,hw,hr,hcf,rfl⟩:=Ui.1 hc;simp only;refine ⟨by omega,by omega,fun e=>?_⟩;unfold conf at hcf;simp at hcf;omega
theorem GZ (C:List ai) (r:Int):(aft C r).length≤C.length:=by
 unfold aft;rw [iq];exact List.length_filter_le _ _
theorem Qs {l:List ah} {s:aC} (A:Asg l s):fQ (some (mkA l s))=some (xC (nC l s) (wY l s)):=by
 have hn:nC l s≤60:=A.n60;have hcl:=zM A;have hin:=CZ l s;unfold fQ;simp only [ae];rw [show ((mkA l s).cells.length:Int)=(nC l s:Int) from rfl,FK (by omega),Fv A];simp only [ae];generalize wY l s=C at *
 generalize nC l s=n at *
 obtain ⟨t,ht,rfl⟩:=rY (step:=fQ.s1 C) (fun x=>∃ i:Nat,i≤C.length∧x=((i:Int),xC n (C.take i))) (fun x=>C.length - x.1.toNat) (fun t=>t=xC n C) (fun x hx=>by
  obtain ⟨i,hi,rfl⟩:=hx;by_cases h:i < C.length
  ·left;have hc:=hin C[i] (dH h);have hal:=GZ (C.take i) C[i].Reader;rw [List.length_take] at hal;refine ⟨(((i+1:Nat):Int),xC n (C.take (i+1))),?_,⟨i+1,h,rfl⟩,by simp only [jD];omega⟩;simp only [fQ.s1,iZ h,aG,jo h,ae,KP hc.2.1.1 hc.2.1.2];rw [jE (by omega),wn (by omega)];simp only [ae];rw [Wi hc.2.1.1 hc.2.1.2,jI h]
  ·right;have:i=C.length:=by omega
   subst this;refine ⟨xC n C,?_,rfl⟩;simp only [fQ.s1,dB,aj,List.take_length]) (x:=(0,List.replicate n [])) ⟨0,by omega,by
    rw [List.take_zero]
    congr 1
    apply List.ext_getElem
    ·simp [xC]
    ·intro i h1 h2;simp [xC,aft]⟩ (by have:=um;simp;omega)
 rw [ht];rfl
theorem ND:∀ (ks:List Int) (b:List Int) (i:Nat),(∀ k,k∈ks→0≤k∧k < b.length)→i < b.length→0≤b.getD i 0→b.getD i 0+ks.length < 1000000→(ks.foldl bump b).getD i 0=b.getD i 0+ks.count (i:Int)
 | [],b,i,_,_,_,_=>by simp
 | k::ks,b,i,h,hi,h0,hb=>by
  simp only [dU] at hb;have hk:=h k (.head _);have hg:(bump b k).getD i 0=b.getD i 0+if k=(i:Int) then 1 else 0:=by
   unfold bump;rw [aO,jV];by_cases e:k.toNat=i
   ·rw [if_pos e,if_pos (by omega),if_pos (by omega),e];simp only [kJ];rw [uF (by omega) (by omega)]
   ·rw [if_neg e,if_neg (by omega),← aO];simp
  rw [dY,ND ks (bump b k) i (fun j hj=>by rw [CW];exact h j (.tail _ hj)) (by rw [CW];exact hi) (by rw [hg];split<;>omega) (by rw [hg];split<;>omega),hg,List.count_cons];by_cases e:k=(i:Int)
  ·simp [e];omega
  ·simp [e]
def dec (b:List Int) (k:Int):List Int:=b.set k.toNat (w (b.getD k.toNat 0 - 1))
theorem Ld (b:List Int) (k:Int):(dec b k).length=b.length:=by simp [dec]
theorem QL:∀ (ks:List Int) (b:List Int) (i:Nat),(∀ k,k∈ks→0≤k∧k < b.length)→i < b.length→b.getD i 0 < 1000000 → -1000000 < b.getD i 0 - ks.length→(ks.foldl dec b).getD i 0=b.getD i 0 - ks.count (i:Int)
 | [],b,i,_,_,_,_=>by simp
 | k::ks,b,i,h,hi,h0,hb=>by
  simp only [dU] at hb;have hk:=h k (.head _);have hg:(dec b k).getD i 0=b.getD i 0 - if k=(i:Int) then 1 else 0:=by
   unfold dec;rw [aO,jV];by_cases e:k.toNat=i
   ·rw [if_pos e,if_pos (by omega),if_pos (by omega),e];simp only [kJ];rw [uF (by omega) (by omega)]
   ·rw [if_neg e,if_neg (by omega),← aO];simp
  rw [dY,QL ks (dec b k) i (fun j hj=>by rw [Ld];exact h j (.tail _ hj)) (by rw [Ld];exact hi) (by rw [hg];split<;>omega) (by rw [hg];split<;>omega),hg,List.count_cons];by_cases e:k=(i:Int)
  ·simp [e];omega
  ·simp [e]
def X6 (C:List ai) (out:List Int) (i:Int):Nat:=(C.filter fun c=>(c.Writer==i)&&!(out.contains c.Reader)).length
def wtF (C:List ai) (out:List Int) (i:Int):Int:=if i∈out then -1 else (X6 C out i:Int)
def wt (n:Nat) (C:List ai) (out:List Int):List Int:=(List.range n).map fun i:Nat=>wtF C out (i:Int)
theorem Jp (n:Nat) (C:List ai) (out:List Int):(wt n C out).length=n:=by simp [wt]
theorem QF {a b:List Int} (hl:a.length=b.length) (h:∀ i,i < a.length→a.getD i 0=b.getD i 0):a=b:=by
 apply List.ext_getElem hl;intro i h1 h2;have:=h i h1;rw [aO,aO,au h1,au h2] at this;simpa using this
theorem Qn {n:Nat} {C:List ai} {out:List Int} {i:Nat} (h:i < n):(wt n C out).getD i 0=wtF C out (i:Int):=by
 rw [aO];unfold wt;rw [bn,List.getElem?_range h];rfl
theorem Wj (C:List ai) (c:ai) (r:Int):aft (c::C) r=if c.Reader=r then c.Writer::aft C r else aft C r:=by
 unfold aft;rw [ni];by_cases h:c.Reader=r
 ·simp [h]
 ·simp [h]
theorem Rl {x:Int}:∀ {L:List (List Int)} {r:Nat} {a:List Int},L[r]?=some a→(L.set r (x::a)).flatten.Perm (x::L.flatten)
 | [],r,a,h=>by simp at h
 | y::L,0,a,h=>by
  simp only [List.getElem?_cons_zero,Option.some.injEq] at h;subst h;simp
 | y::L,r+1,a,h=>by
  simp only [lq] at h;simp only [List.set_cons_succ,List.flatten_cons];exact ((Rl h).append_left y).trans List.perm_middle
theorem TL {n:Nat} {C:List ai} {c:ai} (h0:0≤c.Reader) (h1:c.Reader < n):xC n (c::C)=(xC n C).set c.Reader.toNat (c.Writer::aft C c.Reader):=by
 symm;apply lV;intro i;rw [jV];unfold xC;simp only [iq,jW,bn];by_cases hi:i < n
 ·rw [List.getElem?_range hi];simp only [jA,Wj];by_cases e:c.Reader.toNat=i
  ·rw [if_pos e,if_pos (by omega),if_pos (by omega)];rw [show c.Reader=(i:Int) by omega]
  ·rw [if_neg e,if_neg (by omega)]
 ·have:(List.range n)[i]?=none:=jk (by simpa using hi);rw [this];split
  ·rename_i e;rw [if_neg (by omega)];rfl
  ·rfl
theorem NC {n:Nat}:∀ {C:List ai},inC n C→(xC n C).flatten.Perm (C.map (·.Writer))
 | [],_=>by
  have:(xC n []).flatten=[]:=by
   unfold xC aft;simp
  rw [this];exact .refl _
 | c::C,h=>by
  have hc:=h c (.head _);rw [TL hc.2.1.1 hc.2.1.2];have hg:(xC n C)[c.Reader.toNat]?=some (aft C c.Reader):=(at_mem (KP hc.2.1.1 hc.2.1.2)).2.2;exact (Rl hg).trans (.cons _ (NC (fun x hx=>h x (.tail _ hx))))
theorem Ib (f:List Int→Int→List Int):∀ (L:List (List Int)) (b:List Int),L.foldl (fun b xs=>xs.foldl f b) b=L.flatten.foldl f b
 | [],b=>rfl
 | x::L,b=>by rw [dY,Ib f L,List.flatten_cons,List.foldl_append]
theorem Uk (C:List ai) (i:Int):(C.map (·.Writer)).count i=X6 C [] i:=by
 unfold X6;rw [List.count_eq_countP,List.countP_map,List.countP_eq_length_filter]
 congr 1
 apply List.filter_congr;intro c _;simp
theorem XR {n:Nat} {C:List ai} (hn:n≤60) (hC:C.length≤3600) (hin:inC n C):fZ (bQ.s1 (xC n C)) (0,List.replicate n 0)=some (wt n C []):=by
 have hal:=yu n C;have hp:=NC hin;have hmem:∀ k,k∈(xC n C).flatten→0≤k∧k < n:=by
  intro k hk;have:=hp.mem_iff.1 hk;obtain ⟨c,hc,rfl⟩:=gU.1 this;exact (hin c hc).1
 rw [lL (step:=bQ.s1 (xC n C)) (xC n C) (fun i b=>(i,b)) (fun b=>b) (fun b xs=>xs.foldl bump b) (fun _ b=>b.length=n) rfl ?_ ?_ (by simp) (by omega),Ib]
 ·congr 1
  have hl:((xC n C).flatten.foldl bump (List.replicate n 0)).length=n:=by rw [vg];simp
  refine QF (by rw [hl,Jp]) (fun i hi=>?_);rw [hl] at hi;have hr:(List.replicate n (0:Int)).getD i 0=0:=by
   rw [aO,List.getElem?_replicate];split<;>rfl
  have hfl:(xC n C).flatten.length=C.length:=by rw [hp.length_eq,iq]
  rw [ND _ _ i (by simpa using hmem) (by simpa using hi) (by rw [hr];omega) (by rw [hr,hfl];omega),hr,Qn hi,hp.count_eq,Uk];unfold wtF;simp
 ·intro i hi b hb;have hmi:∀ k,k∈(xC n C)[i]→0≤k∧k < n:=fun k hk=>hmem k (List.mem_flatten.2 ⟨_,dH hi,hk⟩)
  have hli:(xC n C)[i].length≤3600:=by
   have:(xC n C)[i]=aft C (i:Int):=by simp [xC]
   rw [this];exact Nat.le_trans (GZ C _) hC
  refine ⟨?_,by rw [vg];exact hb⟩;simp only [bQ.s1,iZ hi,aG,jo hi,ae];generalize (xC n C)[i]=xs at *
  rw [lL (step:=bQ.s2 xs) xs (fun i b=>(i,b)) (fun b=>b) bump (fun _ b=>b.length=n) rfl ?_ ?_ hb (by omega)]
  ·simp only [ae];rw [wn (by omega)]
  ·intro j hj b' hb';obtain ⟨k0,k1⟩:=hmi xs[j] (dH hj);refine ⟨?_,by rw [CW];exact hb'⟩;simp only [bQ.s2,iZ hj,aG,jo hj,ae];rw [at_in (d:=0) k0 (by omega)];simp only [ae];rw [wn (by omega)];rfl
  ·intro b' _;simp only [bQ.s2,dB,aj]
 ·intro b _;simp only [bQ.s1,dB,aj]
def free (C:List ai) (out:List Int) (i:Nat):Bool:=!(out.contains (i:Int))&&C.all fun c=>(c.Writer != (i:Int)) || out.contains c.Reader
def BO (p:Nat→Bool):Nat→Nat→Int
 | _,0 => -1
 | i,k+1=>if p i=true then (i:Int) else BO p (i+1) k
theorem UN (f:Nat→Int):∀ (k i j:Nat),idx 0 ((List.range' i k).map f) j=(if BO (fun i=>f i==0) i k < 0 then -1 else BO (fun i=>f i==0) i k - i+j)
 | 0,i,j=>by simp [idx,BO]
 | k+1,i,j=>by
  rw [List.range'_succ,gB,idx];unfold BO;by_cases h:f i=0
  ·have:(f i==0)=true:=by simpa using h
   simp only [h,kK,aG];rw [if_neg (by omega)];omega
  ·have:(f i==0)=false:=by simpa using h
   rw [if_neg (fun q=>h q.symm),this,UN f k (i+1) (j+1)];simp only [aF,aj];by_cases hA:BO (fun i=>f i==0) (i+1) k < 0
   ·simp only [hA,aG]
   ·simp only [hA,aj];omega
theorem UG (p:Nat→Bool):∀ (k i:Nat),BO p i k = -1∨((i:Int)≤BO p i k∧BO p i k < i+k∧p (BO p i k).toNat=true)
 | 0,i => .inl rfl
 | k+1,i=>by
  unfold BO;by_cases h:p i=true
  ·right;rw [if_pos h];exact ⟨by omega,by omega,by simpa using h⟩
  ·rw [if_neg h];rcases UG p k (i+1) with q | ⟨q1,q2,q3⟩
   ·exact .inl q
   ·exact .inr ⟨by omega,by omega,q3⟩
theorem NF {p q:Nat→Bool}:∀ (k i:Nat),(∀ j,j < i+k→p j=q j)→BO p i k=BO q i k
 | 0,i,_=>rfl
 | k+1,i,h=>by
  unfold BO;rw [h i (by omega),NF k (i+1) (fun j hj=>h j (by omega))]
theorem Zk (C:List ai) (out:List Int) (i:Nat):(wtF C out (i:Int)==0)=free C out i:=by
 unfold wtF free;by_cases h:(i:Int)∈out
 ·have:out.contains (i:Int)=true:=by simpa using h
  rw [if_pos h,this];rfl
 ·have:out.contains (i:Int)=false:=by simpa using h
  rw [if_neg h,this,Bool.eq_iff_iff];unfold X6;simp only [jX,mf,iK,aY,jK,bne_iff_ne];constructor
  ·intro q c hc;have q2:(C.filter fun c=>(c.Writer==(i:Int))&&!(out.contains c.Reader))=[]:=cZ (by omega);have:=(List.filter_eq_nil_iff.1 q2) c hc;simp at this;by_cases e:c.Writer=i
   ·right;simpa using this e
   ·exact .inl e
  ·intro q;have:(C.filter fun c=>(c.Writer==(i:Int))&&!(out.contains c.Reader))=[]:=by
    rw [List.filter_eq_nil_iff];intro c hc;rcases q c hc with r | r
    ·simp [r]
    ·simp at r;simp [r]
   rw [this];rfl
def nxt (n:Nat) (C:List ai) (out:List Int):Int:=BO (free C out) 0 n
theorem Y2 {n:Nat} {C:List ai} {out:List Int}:idx 0 (wt n C out) 0=nxt n C out:=by
 unfold wt nxt;rw [List.range_eq_range',UN (fun i:Nat=>wtF C out (i:Int)) n 0 0];rw [NF (q:=free C out) n 0 (fun j _=>Zk C out j)];rcases UG (free C out) n 0 with q | ⟨q,_⟩
 ·rw [q];rfl
 ·rw [if_neg (by omega)];omega
def FP (n:Nat) (C:List ai):Nat→List Int→Option (List Int)
 | 0,out=>some out
 | k+1,out=>if nxt n C out < 0 then none else FP n C k (out++[nxt n C out])
def closed (C:List ai) (out:List Int):Prop:=∀ c,c∈C→c.Writer∈out→c.Reader∈out
theorem DN {n:Nat} {C:List ai} {out:List Int} (h:¬ nxt n C out < 0):0≤nxt n C out∧nxt n C out < n∧nxt n C out∉out∧∀ c,c∈C→c.Writer=nxt n C out→c.Reader∈out:=by
 unfold nxt at *
 rcases UG (free C out) n 0 with q | ⟨q1,q2,q3⟩
 ·omega
 ·have e:(((BO (free C out) 0 n).toNat:Nat):Int)=BO (free C out) 0 n:=by omega
  generalize BO (free C out) 0 n=r at *
  unfold free at q3;simp only [aS,aY] at q3;rw [e] at q3;refine ⟨by omega,by omega,by simpa using q3.1,fun c hc hw=>?_⟩;have:=q3.2 c hc;simpa [hw] using this
theorem O7 {n:Nat} {C:List ai} {out:List Int} (hc:closed C out) (h:¬ nxt n C out < 0):closed C (out++[nxt n C out]):=by
 intro c hcC hw;obtain ⟨_,_,_,h4⟩:=DN h;rcases aP.1 hw with q | q
 ·exact aP.2 (.inl (hc c hcC q))
 ·exact aP.2 (.inl (h4 c hcC (by simpa using q)))
theorem Uj (C:List ai) (r i:Int):(aft C r).count i=(C.filter fun c=>(c.Writer==i)&&(c.Reader==r)).length:=by
 unfold aft;rw [List.count_eq_countP,List.countP_map,List.countP_filter,List.countP_eq_length_filter];rfl
theorem Ug {C:List ai} {out:List Int} {r:Int} (hr:r∉out) (i:Int):X6 C out i=X6 C (out++[r]) i+(aft C r).count i:=by
 rw [Uj];unfold X6
 induction C with
 | nil=>rfl
 | cons c C ih =>
  simp only [ni];by_cases hw:c.Writer=i
  ·by_cases h1:c.Reader=r
   ·have a1:out.contains r=false:=by simpa using hr
    have a2:(out++[r]).contains r=true:=by simp
    simp only [hw,a1,a2,h1,kK,mf,Bool.and_self,aG,nJ,Bool.and_false,aF,aj,dU];omega
   ·have a3:(c.Reader==r)=false:=by simpa using h1
    by_cases h2:c.Reader∈out
    ·have a1:out.contains c.Reader=true:=by simpa using h2
     have a2:(out++[r]).contains c.Reader=true:=by simp [h2]
     simp only [a1,a2,a3,nJ,Bool.and_false,aF,aj];exact ih
    ·have a1:out.contains c.Reader=false:=by simpa using h2
     have a2:(out++[r]).contains c.Reader=false:=by simp [h2,h1]
     simp only [hw,a1,a2,a3,kK,mf,Bool.and_self,aG,Bool.and_false,aF,aj,dU];omega
  ·have a0:(c.Writer==i)=false:=by simpa using hw
   simp only [a0,jQ,aF,aj];exact ih
theorem KQ {C:List ai} {r k:Int} (h:k∈aft C r):∃ c,c∈C∧c.Reader=r∧c.Writer=k:=by
 unfold aft at h;obtain ⟨c,hc,rfl⟩:=gU.1 h;simp only [oh,jX] at hc;exact ⟨c,hc.1,hc.2,rfl⟩
theorem yF:∀ (ks b:List Int),(ks.foldl dec b).length=b.length
 | [],b=>rfl
 | k::ks,b=>by rw [dY,yF ks,Ld]
theorem Zl {n:Nat} {C:List ai} {out:List Int} (hn:n≤60) (hC:C.length≤3600) (hin:inC n C) (hc:closed C out) (h:¬ nxt n C out < 0) :
  (aft C (nxt n C out)).foldl dec ((wt n C out).set (nxt n C out).toNat (-1))=wt n C (out++[nxt n C out]):=by
 obtain ⟨h0,h1,h2,h3⟩:=DN h;generalize nxt n C out=r at *
 have hl:((wt n C out).set r.toNat (-1)).length=n:=by rw [aT,Jp]
 have hal:=GZ C r;refine QF (by rw [yF,hl,Jp]) (fun i hi=>?_);rw [yF,hl] at hi;have hg:((wt n C out).set r.toNat (-1)).getD i 0=if r=(i:Int) then -1 else wtF C out (i:Int):=by
  rw [aO,jV];by_cases e:r.toNat=i
  ·rw [if_pos e,if_pos (by rw [Jp];omega),if_pos (by omega)];rfl
  ·rw [if_neg e,if_neg (by omega),← aO,Qn hi]
 have hcw:X6 C out (i:Int)≤3600:=Nat.le_trans (List.length_filter_le _ _) hC;have hb1 : -1≤wtF C out (i:Int)∧wtF C out (i:Int)≤3600:=by unfold wtF;split<;>omega
 rw [QL _ _ i (fun k hk=>by
  obtain ⟨c,hcC,_,rfl⟩:=KQ hk;rw [hl];exact (hin c hcC).1) (by rw [hl];exact hi) (by rw [hg];split<;>omega) (by rw [hg];split<;>omega),hg,Qn hi]
 have nomem:∀ (q:(i:Int)=r∨(i:Int)∈out),(aft C r).count (i:Int)=0:=by
  intro q;rw [List.count_eq_zero];intro hm;obtain ⟨c,hcC,hcr,hcw⟩:=KQ hm;rcases q with q | q
  ·exact (hin c hcC).2.2 (by rw [hcw,hcr,q])
  ·have:=hc c hcC (by rw [hcw];exact q);rw [hcr] at this;exact h2 this
 by_cases e:r=(i:Int)
 ·rw [if_pos e,nomem (.inl e.symm)];unfold wtF;rw [if_pos (by simp [e])];rfl
 ·rw [if_neg e];unfold wtF;by_cases e2:(i:Int)∈out
  ·rw [nomem (.inr e2),if_pos e2,if_pos (by simp [e2])];rfl
  ·rw [if_neg e2,if_neg (by simp [e2];omega),Ug h2 (i:Int)];omega
theorem VF {n:Nat} {C:List ai} (hn:n≤60) (hC:C.length≤3600) (hin:inC n C) :
  fZ (bQ.s3 (xC n C)) (0,wt n C [],[])=some (match FP n C n [] with | some r => .inl r | none => .inr ([],25)):=by
 have hal:=yu n C;obtain ⟨t,ht,rfl⟩:=rY (step:=bQ.s3 (xC n C)) (fun x=>∃ (i:Nat) (out:List Int),i≤n∧out.length=i∧closed C out∧x=((i:Int),wt n C out,out)∧FP n C (n - i) out=FP n C n []) (fun x=>n - x.1.toNat) (fun t=>t=(match FP n C n [] with | some r => .inl r | none => .inr ([],25))) (fun x hx=>by
  obtain ⟨i,out,hi,hl,hc,rfl,ho⟩:=hx;by_cases h:i < n
  ·have hlt:((i:Int) < ((xC n C).length:Int))=True:=rP (by rw [hal];omega);obtain ⟨k,hk⟩:∃ k,n - i=k+1:=⟨n - i - 1,by omega⟩
   rw [hk,FP] at ho;have hix:slices_Index_int (wt n C out) 0=some (nxt n C out):=by rw [WW (by rw [Jp];omega),Y2]
   by_cases hx:nxt n C out < 0
   ·right;rw [if_pos hx] at ho;refine ⟨_,?_,by rw [← ho]⟩;simp only [bQ.s3,hlt,aG,hix,ae,hx]
   ·left;rw [if_neg hx] at ho;obtain ⟨n0,n1,_,_⟩:=DN hx;refine ⟨(((i+1:Nat):Int),wt n C (out++[nxt n C out]),out++[nxt n C out]),?_,⟨i+1,_,h,by simp [hl],O7 hc hx,rfl,by rw [← ho];congr 1;omega⟩,by simp only [jD];omega⟩;simp only [bQ.s3,hlt,aG,hix,ae,hx,aj];rw [jE (by omega),at_in (d:=0) n0 (by rw [Jp];exact n1),KP n0 n1];simp only [ae];have hal2:=GZ C (nxt n C out);rw [lL (step:=bQ.s4 (aft C (nxt n C out))) (aft C (nxt n C out)) (fun i b=>(i,b)) (fun b=>b) dec (fun _ b=>b.length=n) rfl ?_ ?_ (by rw [aT,Jp]) (by omega),Zl hn hC hin hc hx]
    ·simp only [ae];rw [wn (by omega)]
    ·intro j hj b hb;obtain ⟨c,hcC,_,hcw⟩:=KQ (dH hj);have hw:=(hin c hcC).1;rw [hcw] at hw;refine ⟨?_,by rw [Ld];exact hb⟩;simp only [bQ.s4,iZ hj,aG,jo hj,ae];rw [at_in (d:=0) hw.1 (by omega)];simp only [ae];rw [wn (by omega)];rfl
    ·intro b _;simp only [bQ.s4,dB,aj]
  ·right;have hin2:i=n:=by omega
   subst hin2;rw [Nat.sub_self,FP] at ho;refine ⟨_,?_,by rw [← ho]⟩;have hlt:¬ ((out.length:Int) < ((xC out.length C).length:Int)):=by rw [yu];omega
   subst hl;simp only [bQ.s3,hlt,aj]) (x:=(0,wt n C [],[])) ⟨0,[],by omega,rfl,(fun c _ h=>by cases h),rfl,rfl⟩ (by have:=um;simp;omega)
 exact ht
theorem Ov {l:List ah} {s:aC} (hf:few l=true) (hb:xe s=true):bQ l s=some (if opE l s=0 then (match FP (nC l s) (wY l s) (nC l s) [] with | some r=>(r,0) | none=>([],25)) else ([],opE l s)):=by
 obtain ⟨y,y1,y2⟩:=PU hf hb;unfold bQ;rw [y1];simp only [ae];by_cases h:opE l s=0
 ·have A:=asg hb h;have hn:nC l s≤60:=A.n60;simp only [h,dh,aj,y2 h,aG,Qs A,ae,yu];rw [FK (by omega)];simp only [ae];rw [XR hn (zM A) (CZ l s)];simp only [ae];rw [VF hn (zM A) (CZ l s)];cases FP (nC l s) (wY l s) (nC l s) []<;>rfl
 ·simp only [h,aU,aG,aj]
end Go.Sh
set_option linter.all false
namespace Go.Sh
open Go.Lx
theorem TR {c:ai}:∀ {xs t:List Int},c.Reader∈xs→bef c (xs++t)=bef c xs
 | [],t,h=>by cases h
 | x::xs,t,h=>by
  rw [je,bef,bef];by_cases h1:x=c.Reader
  ·rw [if_pos h1,if_pos h1]
  ·rw [if_neg h1,if_neg h1];by_cases h2:x=c.Writer
   ·rw [if_pos h2,if_pos h2]
   ·rw [if_neg h2,if_neg h2];refine TR ?_;rcases fJ.1 h with q | q
    ·exact absurd q.symm h1
    ·exact q
theorem TS {c:ai} {i:Int} (hi:i≠c.Writer):∀ {xs:List Int},bef c (xs++[i])=bef c xs
 | []=>by
  rw [iU];simp only [bef,if_neg hi];split<;>rfl
 | x::xs=>by rw [je,bef,bef,TS hi]
theorem Vh {n:Nat} {C:List ai}:∀ (k:Nat) (out r:List Int),FP n C k out=some r→out.Nodup→(∀ x,x∈out→0≤x∧x < n)→(∀ c,c∈C→bef c out=false) →
  r.Nodup∧(∀ x,x∈r→0≤x∧x < n)∧r.length=out.length+k∧∀ c,c∈C→bef c r=false
 | 0,out,r,h,h1,h2,h3=>by
  rw [FP] at h;cases h;exact ⟨h1,h2,rfl,h3⟩
 | k+1,out,r,h,h1,h2,h3=>by
  rw [FP] at h;split at h
  ·cases h
  ·rename_i hx
   obtain ⟨n0,n1,n2,n3⟩:=DN hx;obtain ⟨r1,r2,r3,r4⟩:=Vh k _ r h (by
    rw [List.nodup_append];refine ⟨h1,by simp,fun a ha b hb=>?_⟩;simp only [eY] at hb;intro e;rw [e,hb] at ha;exact n2 ha) (fun x hx=>by
    rcases aP.1 hx with q | q
    ·exact h2 x q
    ·simp only [eY] at q;omega) (fun c hc=>by
    by_cases e:nxt n C out=c.Writer
    ·rw [TR (n3 c hc e.symm)];exact h3 c hc
    ·rw [TS e];exact h3 c hc)
   refine ⟨r1,r2,?_,r4⟩;rw [r3,iy,List.length_singleton];omega
theorem Oc {n:Nat} {C:List ai} {r:List Int} (h:FP n C n []=some r):r.Perm (uf n)∧Y8 C r=true:=by
 obtain ⟨r1,r2,r3,r4⟩:=Vh n [] r h (by simp) (by simp) (fun c _=>rfl);refine ⟨(yR r1 (fun x hx=>nN.2 (r2 x hx)) (by rw [oG,r3];simp)).symm,?_⟩;unfold Y8;have:C.any (fun x=>bef x r)=false:=by
  rw [List.any_eq_false];intro c hc;rw [r4 c hc];simp
 rw [this];rfl
theorem Uh {l:List ah} {s:aC} (hf:few l=true) (hb:xe s=true):nK l s=some (if opE l s=0 then wY l s else [],opE l s):=by
 obtain ⟨y,y1,y2⟩:=PU hf hb;unfold nK;rw [y1];simp only [ae];by_cases h:opE l s=0
 ·simp only [h,dh,aj,y2 h,aG,Fv (asg hb h),ae]
 ·simp only [h,aU,aG,aj]
end Go.Sh
set_option linter.all false
namespace Go.Sh
open Go.Lx
theorem Vf {n:Nat} {L:List Int} (h:L.Nodup) (hr:∀ z,z∈L→0≤z∧z < n):L.length≤n:=by
 by_cases q:L.length≤n
 ·exact q
 ·have:=yR (ys:=uf n) h (fun x hx=>nN.2 (hr x hx)) (by rw [oG];omega);have:=this.length_eq;rw [oG] at this;omega
section
variable (cm:Int→Int→Bool) (n:Nat) (b:Int)
def okF (far:Int→Nat) (k:Nat) (x y:Int):Bool:=cm x y&&((k==0&&y==b) || (decide (0 < k)&&(decide (b < y)&&far y==k)))
def rC:Nat→Int→Nat
 | 0,_=>0
 | k+1,x=>if rC k x≠0 then rC k x else if (decide (b≤x)&&(decide (x < n)&&(uf n).any (okF cm b (rC k) k x)))=true then k+1 else 0
def D (x:Int):Nat:=rC cm n b n x
variable {cm n b}
theorem En:∀ k x,rC cm n b k x≤k
 | 0,x=>aZ _
 | k+1,x=>by
  unfold rC;have:=En k x
  repeat' split
  all_goals omega
theorem HY {k x} (h:rC cm n b k x≠0):rC cm n b (k+1) x=rC cm n b k x:=by rw [rC,if_pos h]
theorem PD {k x} (h:rC cm n b k x≠0):∀ d,rC cm n b (k+d) x=rC cm n b k x
 | 0=>rfl
 | d+1=>by rw [← lw,HY (by rw [PD h d];exact h),PD h d]
theorem UB:∀ k x,rC cm n b k x≠0→rC cm n b (rC cm n b k x) x=rC cm n b k x∧rC cm n b (rC cm n b k x - 1) x=0
 | 0,x,h=>absurd rfl h
 | k+1,x,h=>by
  by_cases q:rC cm n b k x≠0
  ·rw [HY q];exact UB k x q
  ·have e:rC cm n b (k+1) x=k+1:=by
    have h':=h;rw [rC,if_neg q] at h' ⊢;split at h'
    ·rename_i r;rw [if_pos r]
    ·exact absurd rfl h'
   rw [e];exact ⟨e,aI.1 q⟩
theorem aax {x j} (h:D cm n b x=j) (hj:j≠0):rC cm n b j x=j∧rC cm n b (j - 1) x=0∧j≤n:=by
 unfold D at h;have:=UB (cm:=cm) (n:=n) (b:=b) n x (by rw [h];exact hj);rw [h] at this;exact ⟨this.1,this.2,by rw [← h];exact En n x⟩
theorem aam {x j k} (h:rC cm n b k x=j) (hj:j≠0) (hk:k≤n):D cm n b x=j:=by
 have:=PD (cm:=cm) (n:=n) (b:=b) (k:=k) (x:=x) (by rw [h];exact hj) (n - k);rw [show k+(n - k)=n by omega,h] at this;exact this
theorem QH {k x} (h:rC cm n b (k+1) x=k+1):b≤x∧x < n∧∃ y:Int,0≤y∧y < n∧okF cm b (rC cm n b k) k x y=true:=by
 have hle:=En (cm:=cm) (n:=n) (b:=b) k x;rw [rC] at h;split at h
 ·omega
 ·split at h
  ·rename_i q
   simp only [aS,fE,gY] at q;obtain ⟨q1,q2,y,hy,q3⟩:=q;have:=nN.1 hy;exact ⟨q1,q2,y,this.1,this.2,q3⟩
  ·omega
theorem Zy {x} (h:D cm n b x=1):cm x b=true:=by
 obtain ⟨h1,_⟩:=aax h (by omega);obtain ⟨_,_,y,_,_,hy⟩:=QH (k:=0) h1;unfold okF at hy;simp at hy;rw [← hy.2];exact hy.1
theorem Yu {x k} (h:D cm n b x=k+2):∃ y:Int,b < y∧y < n∧cm x y=true∧D cm n b y=k+1:=by
 obtain ⟨h1,_,h3⟩:=aax h (by omega);obtain ⟨_,_,y,y0,y1,hy⟩:=QH (k:=k+1) h1;unfold okF at hy;simp at hy;exact ⟨y,hy.2.1,y1,hy.1,aam hy.2.2 (by omega) (by omega)⟩
theorem chain (hb:0≤b):∀ j y,D cm n b y=j+1→b < y→y < n→∃ L:List Int,L.length=j+1∧L.Nodup∧∀ z,z∈L→b < z∧z < n∧D cm n b z≤j+1
 | 0,y,h,h1,h2=>⟨[y],rfl,by simp,fun z hz=>by simp only [eY] at hz;subst hz;exact ⟨h1,h2,by omega⟩⟩
 | j+1,y,h,h1,h2=>by
  obtain ⟨z,z1,z2,_,z4⟩:=Yu h;obtain ⟨L,l1,l2,l3⟩:=chain hb j z z4 z1 z2;refine ⟨y::L,by simp [l1],List.nodup_cons.2 ⟨fun q=>?_,l2⟩,fun x hx=>?_⟩
  ·have:=(l3 y q).2.2;omega
  ·rcases fJ.1 hx with q | q
   ·subst q;exact ⟨h1,h2,by omega⟩
   ·obtain ⟨a1,a2,a3⟩:=l3 x q;exact ⟨a1,a2,by omega⟩
theorem abm (hb:0≤b) (hbn:b < n) {y} (h1:b < y) (h2:y < n):D cm n b y < n:=by
 cases hj:D cm n b y with
 | zero=>omega
 | succ j =>
  obtain ⟨L,l1,l2,l3⟩:=chain hb j y hj h1 h2;have:=Vf (n:=n) (L:=b::L) (List.nodup_cons.2 ⟨fun q=>by have:=(l3 b q).1;omega,l2⟩) (fun z hz=>by
   rcases fJ.1 hz with q | q
   ·subst q;omega
   ·obtain ⟨a1,a2,_⟩:=l3 z q;omega)
  simp only [dU,l1] at this;omega
theorem aa6 (hb:0≤b) (hbn:b < n) {x} (h1:b≤x) (h2:x < n) (hc:cm x b=true):D cm n b x=1:=by
 refine aam (k:=1) ?_ (by omega) (by omega);rw [rC,rC,if_neg (by simp),if_pos];simp only [aS,fE,gY];exact ⟨h1,h2,b,nN.2 ⟨hb,hbn⟩,by unfold okF;simp [hc]⟩
theorem TC (hb:0≤b) (hbn:b < n) {x y} (h1:b≤x) (h2:x < n) (h3:b < y) (h4:y < n) (hc:cm x y=true) (hD:D cm n b y≠0):D cm n b x≠0∧D cm n b x≤D cm n b y+1:=by
 have hlt:=abm (cm:=cm) hb hbn h3 h4;obtain ⟨a1,_,_⟩:=aax (cm:=cm) (n:=n) (b:=b) (x:=y) rfl hD;generalize D cm n b y=j at *
 by_cases q:rC cm n b j x=0
 ·have:rC cm n b (j+1) x=j+1:=by
   rw [rC,if_neg (by simp [q]),if_pos];simp only [aS,fE,gY];refine ⟨h1,h2,y,nN.2 ⟨by omega,h4⟩,?_⟩;unfold okF;simp [hc,h3,a1];omega
  rw [aam this (by omega) (by omega)];omega
 ·have hle:=En (cm:=cm) (n:=n) (b:=b) j x;rw [aam (j:=rC cm n b j x) (k:=j) rfl q (by omega)];omega
def RW (cm:Int→Int→Bool) (n:Nat) (b:Int):Nat→Int→Prop
 | 0,y=>y=b
 | k+1,y=>b < y∧y < n∧∃ x,RW cm n b k x∧cm x y=true
theorem Yw (hb:0≤b) (hbn:b < n):∀ {k y},RW cm n b k y→b≤y∧y < n
 | 0,y,h=>by have:y=b:=h;omega
 | k+1,y,h=>by have h1:=h.1;have h2:=h.2.1;omega
theorem aaz (hb:0≤b) (hbn:b < n):∀ {k y},RW cm n b k y→D cm n b y≠0→D cm n b b≠0∧D cm n b b≤k+D cm n b y
 | 0,y,h,hD=>by have e:y=b:=h;subst e;exact ⟨hD,by omega⟩
 | k+1,y,h,hD=>by
  obtain ⟨h1,h2,x,hx,hc⟩:=h;have g:=Yw hb hbn hx;obtain ⟨d1,d2⟩:=TC hb hbn g.1 g.2 h1 h2 hc hD;obtain ⟨d3,d4⟩:=aaz hb hbn hx d1;exact ⟨d3,by omega⟩
def nx (cm:Int→Int→Bool) (n:Nat) (b:Int) (u:Int) (j:Nat):Int:=BO (fun y=>cm u (y:Int)&&D cm n b (y:Int)==j) (b.toNat+1) (n - b.toNat - 1)
theorem Ig (p:Nat→Bool):∀ (k i:Nat),(∃ j,i≤j∧j < i+k∧p j=true)→(i:Int)≤BO p i k∧BO p i k < i+k∧p (BO p i k).toNat=true∧∀ j:Nat,i≤j→(j:Int) < BO p i k→p j=false
 | 0,i,h=>by obtain ⟨j,h1,h2,_⟩:=h;omega
 | k+1,i,h=>by
  unfold BO;by_cases q:p i=true
  ·rw [if_pos q];exact ⟨by omega,by omega,by simpa using q,fun j j1 j2=>by omega⟩
  ·rw [if_neg q];obtain ⟨j,h1,h2,h3⟩:=h;have hj:j≠i:=fun e=>q (e ▸ h3)
   obtain ⟨a1,a2,a3,a4⟩:=Ig p k (i+1) ⟨j,by omega,by omega,h3⟩;refine ⟨by omega,by omega,a3,fun z z1 z2=>?_⟩;by_cases e:z=i
   ·subst e;exact gV q
   ·exact a4 z (by omega) z2
theorem Z7 (hb:0≤b) (hbn:b < n) {u k} (h:D cm n b u=k+2):b < nx cm n b u (k+1)∧nx cm n b u (k+1) < n∧cm u (nx cm n b u (k+1))=true∧D cm n b (nx cm n b u (k+1))=k+1 ∧
  ∀ y,b < y→y < nx cm n b u (k+1)→cm u y=true→D cm n b y≠k+1:=by
 obtain ⟨y,y1,y2,y3,y4⟩:=Yu h;obtain ⟨a1,a2,a3,a4⟩:=Ig (fun y=>cm u (y:Int)&&D cm n b (y:Int)==k+1) (n - b.toNat - 1) (b.toNat+1) ⟨y.toNat,by omega,by omega,by
  have e:((y.toNat:Nat):Int)=y:=by omega
  simp only [e,y3,y4];simp⟩
 have e:nx cm n b u (k+1)=BO (fun y=>cm u (y:Int)&&D cm n b (y:Int)==k+1) (b.toNat+1) (n - b.toNat - 1):=rfl;rw [← e] at a1 a2 a3 a4;generalize nx cm n b u (k+1)=v at *
 have ev:((v.toNat:Nat):Int)=v:=by omega
 rw [ev] at a3;simp only [aS,jX] at a3;refine ⟨by omega,by omega,a3.1,a3.2,fun z z1 z2 z3 z4=>?_⟩;have ez:((z.toNat:Nat):Int)=z:=by omega
 have:=a4 z.toNat (by omega) (by omega);rw [ez,z3,z4] at this;simp at this
def Ju (cm:Int→Int→Bool) (n:Nat) (b:Int) (d:Nat):Nat→List Int
 | 0=>[b]
 | k+1=>Ju cm n b d k++[nx cm n b ((Ju cm n b d k).getLastD b) (d - (k+1))]
theorem DT (d:Nat):∀ k,(Ju cm n b d k).length=k+1
 | 0=>rfl
 | k+1=>by rw [Ju,iy,DT d k];rfl
def qat (cm:Int→Int→Bool) (n:Nat) (b:Int) (d k:Nat):Int:=(Ju cm n b d k).getLastD b
theorem XA (d k:Nat):qat cm n b d (k+1)=nx cm n b (qat cm n b d k) (d - (k+1)):=by
 unfold qat;rw [Ju];simp
theorem Yh (hb:0≤b) (hbn:b < n) {d:Nat} (hd:D cm n b b=d) (h0:d≠0):∀ k,k+1≤d→D cm n b (qat cm n b d k)=d - k∧RW cm n b k (qat cm n b d k)
 | 0,h=>by exact ⟨hd,rfl⟩
 | k+1,h=>by
  obtain ⟨a1,a2⟩:=Yh hb hbn hd h0 k (by omega);rw [XA];obtain ⟨b1,b2,b3,b4,_⟩:=Z7 hb hbn (u:=qat cm n b d k) (k:=d - k - 2) (by rw [a1];omega);rw [show d - k - 2+1=d - (k+1) by omega] at b1 b2 b3 b4;exact ⟨b4,b1,b2,_,a2,b3⟩
def O4 (cm:Int→Int→Bool) (n:Nat) (b:Int):List Int:=if D cm n b b=0 then [] else Ju cm n b (D cm n b b) (D cm n b b - 1)
end
end Go.Sh
set_option linter.all false
namespace Go.Sh
open Go.Lx
def cmC (C:List ai) (x y:Int):Bool:=C.any fun c=>(c.Reader==x)&&(c.Writer==y)
theorem Ef {C:List ai} {x y:Int}:y∈aft C x↔cmC C x y=true:=by
 unfold aft cmC;simp only [gU,oh,jX,gY,aS];constructor
 ·rintro ⟨c,⟨h1,h2⟩,h3⟩;exact ⟨c,h1,h2,h3⟩
 ·rintro ⟨c,h1,h2,h3⟩;exact ⟨c,⟨h1,h2⟩,h3⟩
def sn (seen:List Bool) (y:Int):Bool:=seen.getD y.toNat false
def cf:List Bool→Nat
 | []=>0
 | x::xs=>(if x=true then 0 else 1)+cf xs
theorem Qx:∀ n,cf (List.replicate n false)=n
 | 0=>rfl
 | n+1=>by rw [List.replicate_succ,cf,Qx n];simp;omega
theorem X4:∀ (s:List Bool) (i:Nat),i < s.length→s.getD i false=false→cf (s.set i true)+1=cf s
 | [],i,h,_=>by simp at h
 | x::s,0,h,h1=>by
  simp only [List.getD_cons_zero] at h1;subst h1;simp [cf];omega
 | x::s,i+1,h,h1=>by
  simp only [List.getD_cons_succ] at h1;have:=X4 s i (by simpa using h) h1;rw [List.set_cons_succ,cf,cf];omega
theorem Yp {s:List Bool} {y z:Int} (h0:0≤y) (h1:y < s.length) (hz:0≤z):sn (s.set y.toNat true) z=if z=y then true else sn s z:=by
 unfold sn;rw [aO,jV];by_cases e:z=y
 ·subst e;rw [if_pos rfl,if_pos rfl,if_pos (by omega)];rfl
 ·rw [if_neg (by omega),if_neg e,← aO]
def PN (b:Int) (p:List Int) (_:Nat) (v:List Bool×List (List Int)) (y:Int):Sum Unit (List Bool×List (List Int)) :=
 if y=b then .inl () else if (decide (b < y)&&!(sn v.1 y))=true then .inr (v.1.set y.toNat true,v.2++[p++[y]]) else .inr v
theorem Q9 {b:Int} {p:List Int}:∀ (ys:List Int) (i:Nat) (v:List Bool×List (List Int)),b∈ys→iw (PN b p) i ys v = .inl ()
 | [],i,v,h=>by cases h
 | y::ys,i,v,h=>by
  simp only [iw];by_cases e:y=b
  ·have:PN b p i v y = .inl ():=by unfold PN;rw [if_pos e]
   rw [this]
  ·have h2:b∈ys:=by
    rcases fJ.1 h with q | q
    ·exact absurd q.symm e
    ·exact q
   have:∃ v',PN b p i v y = .inr v':=by
    unfold PN;rw [if_neg e];split<;>exact ⟨_,rfl⟩
   obtain ⟨v',hv⟩:=this;rw [hv];exact Q9 ys (i+1) v' h2
def EK (b:Int) (seen:List Bool) (ys:List Int):List Int:=ys.filter fun y=>decide (b < y)&&!(sn seen y)
theorem MF {n:Nat} {b:Int} {p:List Int} (hb:0≤b):∀ (ys:List Int) (i:Nat) (seen:List Bool) (Q:List (List Int)),ys.Nodup→(∀ y,y∈ys→0≤y∧y < n)→seen.length=n→b∉ys →
  ∃ seen',iw (PN b p) i ys (seen,Q) = .inr (seen',Q++(EK b seen ys).map fun y=>p++[y])∧seen'.length=n∧cf seen'+(EK b seen ys).length=cf seen ∧
   ∀ z:Int,0≤z→z < n→sn seen' z=(sn seen z || (decide (z∈ys)&&decide (b < z)))
 | [],i,seen,Q,_,_,hl,_=>⟨seen,by simp [iw,EK],hl,by simp [EK],fun z _ _=>by simp⟩
 | y::ys,i,seen,Q,hn,hr,hl,hbn=>by
  rw [List.nodup_cons] at hn;have hy:y≠b:=fun e=>hbn (e ▸ lu)
  have hb2:b∉ys:=fun q=>hbn (.tail _ q)
  have hry:=hr y (.head _);simp only [iw];by_cases c:(decide (b < y)&&!(sn seen y))=true
  ·have hk:PN b p i (seen,Q) y = .inr (seen.set y.toNat true,Q++[p++[y]]):=by unfold PN;rw [if_neg hy,if_pos c]
   rw [hk];simp only;simp only [aS,fE,jU] at c;obtain ⟨s',h1,h2,h3,h4⟩:=MF (n:=n) (p:=p) hb ys (i+1) (seen.set y.toNat true) (Q++[p++[y]]) hn.2 (fun z hz=>hr z (.tail _ hz)) (by simpa using hl) hb2;have hnew:EK b (seen.set y.toNat true) ys=EK b seen ys:=by
    unfold EK;apply List.filter_congr;intro z hz;have hne:z≠y:=fun e=>hn.1 (e ▸ hz)
    rw [Yp (by omega) (by omega) (hr z (.tail _ hz)).1,if_neg hne]
   have hnew2:EK b seen (y::ys)=y::EK b seen ys:=by
    unfold EK;rw [ni,if_pos];simp [c.1,c.2]
   rw [hnew] at h1 h3;refine ⟨s',?_,h2,?_,fun z z0 z1=>?_⟩
   ·rw [h1,hnew2,gB,List.append_assoc];rfl
   ·have:=X4 seen y.toNat (by omega) c.2;rw [hnew2,dU];omega
   ·rw [h4 z z0 z1,Yp (by omega) (by omega) z0];by_cases e:z=y
    ·subst e;simp [c.1]
    ·rw [if_neg e];simp [e]
  ·have hk:PN b p i (seen,Q) y = .inr (seen,Q):=by unfold PN;rw [if_neg hy,if_neg c]
   rw [hk];simp only;obtain ⟨s',h1,h2,h3,h4⟩:=MF (n:=n) (p:=p) hb ys (i+1) seen Q hn.2 (fun z hz=>hr z (.tail _ hz)) hl hb2;have hnew2:EK b seen (y::ys)=EK b seen ys:=by
    unfold EK;rw [ni,if_neg c]
   refine ⟨s',by rw [h1,hnew2],h2,by rw [hnew2];exact h3,fun z z0 z1=>?_⟩;rw [h4 z z0 z1];by_cases e:z=y
   ·subst e;simp only [aS,fE,jU,not_and] at c;by_cases q:b < z
    ·have:=c q;have e2:sn seen z=true:=by simpa using this
     simp [e2]
    ·simp [q]
   ·simp [e]
section
variable (cm:Int→Int→Bool) (n:Nat) (b:Int)
def good (d k:Nat) (p:List Int):Prop:=D cm n b (p.getLastD b)≠0∧k+D cm n b (p.getLastD b)=d
structure BI (d:Nat) (seen:List Bool) (Q:List (List Int)) (k:Nat) (cur next:List (List Int)):Prop where
 q:Q=cur++next
 len:seen.length=n
 qlen:Q.length+cf seen≤n+1
 plen:∀ p,p∈Q→p.length+cf seen≤n+1
 fcur:∀ p,p∈cur→p≠[]∧RW cm n b k (p.getLastD b)
 fnext:∀ p,p∈next→p≠[]∧RW cm n b (k+1) (p.getLastD b)
 fseen:∀ y,b < y→y < n→sn seen y=true→∃ j,j≤k+1∧RW cm n b j y
 way:d≠0→(k+1≤d∧(∃ pre post,cur=pre++Ju cm n b d k::post∧∀ p,p∈pre→¬ good cm n b d k p)∧(∀ p,p∈next→¬ good cm n b d (k+1) p)∧∀ y,b < y→y < n→sn seen y=true→D cm n b y≠0→k+1+D cm n b y≠d) ∨
  (k+2≤d∧(∃ pre post,next=pre++Ju cm n b d (k+1)::post∧∀ p,p∈pre→¬ good cm n b d (k+1) p)∧∀ y,b < y→y < n→sn seen y=true→D cm n b y≠0→k+2+D cm n b y≠d)
variable {cm n b}
theorem BI.norm {d:Nat} {seen:List Bool} {Q:List (List Int)} {k:Nat} {cur next:List (List Int)} (B:BI cm n b d seen Q k cur next):∃ k cur next,BI cm n b d seen Q k cur next∧(cur=[]→next=[]):=by
 cases cur with
 | cons p cur=>exact ⟨k,p::cur,next,B,fun h=>by cases h⟩
 | nil =>
  refine ⟨k+1,next,[],⟨by rw [B.q];simp,B.len,B.qlen,B.plen,B.fnext,by simp,fun y y1 y2 y3=>?_,fun hd=>?_⟩,fun _=>rfl⟩
  ·obtain ⟨j,j1,j2⟩:=B.fseen y y1 y2 y3;exact ⟨j,by omega,j2⟩
  ·rcases B.way hd with ⟨_,⟨pre,post,h,_⟩,_⟩ | ⟨h1,h2,h3⟩
   ·exact absurd h (by simp)
   ·exact .inl ⟨h1,h2,by simp,h3⟩
theorem Iw (p:List Int) (y b:Int):(p++[y]).getLastD b=y:=by simp
theorem BI.step {C:List ai} (hb:0≤b) (hbn:b < n) (hs:∀ r,(aft C r).Pairwise (· < ·)) {d:Nat} (hd:D (cmC C) n b b=d) {seen seen':List Bool} {p:List Int} {k:Nat} {cur next:List (List Int)}
  (B:BI (cmC C) n b d seen (p::(cur++next)) k (p::cur) next) (hl:seen'.length=n) (hr:∀ y,y∈aft C (p.getLastD b)→0≤y∧y < n)
  (hc:cf seen'+(EK b seen (aft C (p.getLastD b))).length=cf seen) (hb2:b∉aft C (p.getLastD b)) (hsn:∀ z:Int,0≤z→z < n→sn seen' z=(sn seen z || (decide (z∈aft C (p.getLastD b))&&decide (b < z)))) :
  BI (cmC C) n b d seen' (cur++(next++(EK b seen (aft C (p.getLastD b))).map fun y=>p++[y])) k cur (next++(EK b seen (aft C (p.getLastD b))).map fun y=>p++[y]):=by
 obtain ⟨hp0,hpR⟩:=B.fcur p lu;have hpl:=B.plen p lu;have hql:=B.qlen;simp only [dU,iy] at hql;have hge:=Yw hb hbn hpR;generalize hu:p.getLastD b=u at *
 have hkid:∀ y,y∈EK b seen (aft C u)→y∈aft C u∧b < y∧sn seen y=false:=by
  intro y hy;unfold EK at hy;simp only [oh,aS,fE,jU] at hy;exact ⟨hy.1,hy.2.1,hy.2.2⟩
 have hRW:∀ y,y∈aft C u→b < y→RW (cmC C) n b (k+1) y:=fun y h1 h2=>⟨h2,(hr y h1).2,u,hpR,Ef.1 h1⟩
 have hseen:∀ y,b < y→y < n→sn seen' y=true→sn seen y=true∨y∈aft C u:=by
  intro y y1 y2 y3;rw [hsn y (by omega) y2] at y3;simp only [jK,aS,fE] at y3;rcases y3 with q | q
  ·exact .inl q
  ·exact .inr q.1
 have hsR:∀ y,b < y→y < n→sn seen' y=true→∃ j,j≤k+1∧RW (cmC C) n b j y:=by
  intro y y1 y2 y3;rcases hseen y y1 y2 y3 with q | q
  ·exact B.fseen y y1 y2 q
  ·exact ⟨k+1,by omega,hRW y q y1⟩
 have hfar:∀ j y,RW (cmC C) n b j y→D (cmC C) n b y≠0→d≤j+D (cmC C) n b y:=by
  intro j y h1 h2;have:=(aaz hb hbn h1 h2).2;rw [hd] at this;exact this
 have hII:∀ y,b < y→y < n→sn seen' y=true→D (cmC C) n b y≠0→k+2+D (cmC C) n b y≠d:=by
  intro y y1 y2 y3 y4;obtain ⟨j,j1,j2⟩:=hsR y y1 y2 y3;have:=hfar j y j2 y4;omega
 refine ⟨rfl,hl,?_,?_,fun q hq=>B.fcur q (.tail _ hq),?_,hsR,fun h0=>?_⟩
 ·simp only [iy,iq];omega
 ·intro q hq;simp only [aP,gU] at hq;rcases hq with q1 | q1 | ⟨y,hy,rfl⟩
  ·have:=B.plen q (.tail _ (aP.2 (.inl q1)));omega
  ·have:=B.plen q (.tail _ (aP.2 (.inr q1)));omega
  ·have:=List.length_pos_of_mem hy;simp only [iy,List.length_singleton];omega
 ·intro q hq;simp only [aP,gU] at hq;rcases hq with q1 | ⟨y,hy,rfl⟩
  ·exact B.fnext q q1
  ·obtain ⟨y1,y2,_⟩:=hkid y hy;exact ⟨by simp,by rw [Iw];exact hRW y y1 y2⟩
 ·rcases B.way h0 with ⟨w1,⟨pre,post,w2,w3⟩,w4,w5⟩ | ⟨w1,⟨pre,post,w2,w3⟩,w4⟩
  ·cases pre with
   | nil =>
    right;simp only [iU,List.cons.injEq] at w2;obtain ⟨hp,hcur⟩:=w2;obtain ⟨a1,_⟩:=Yh (cm:=cmC C) hb hbn hd h0 k w1;have hqu:qat (cmC C) n b d k=u:=by unfold qat;rw [← hp,hu]
    rw [hqu] at a1;have hk2:k+2≤d:=by
     by_cases e:k+1=d
     ·exact absurd (Ef.2 (Zy (by rw [a1];omega))) hb2
     ·omega
    obtain ⟨b1,b2,b3,b4,b5⟩:=Z7 (cm:=cmC C) hb hbn (u:=u) (k:=d - k - 2) (by rw [a1];omega);have hnx:nx (cmC C) n b u (d - k - 2+1)=nx (cmC C) n b u (d - (k+1)):=by rw [show d - k - 2+1=d - (k+1) by omega]
    rw [hnx] at b1 b2 b3 b4 b5;have hq1:Ju (cmC C) n b d (k+1)=p++[nx (cmC C) n b u (d - (k+1))]:=by rw [Ju,← hp,hu]
    generalize nx (cmC C) n b u (d - (k+1))=v at *
    have hvn:v∈EK b seen (aft C u):=by
     unfold EK;simp only [oh,aS,fE,jU];refine ⟨Ef.2 b3,b1,gV fun q=>?_⟩;exact w5 v b1 b2 q (by omega) (by omega)
    have hsort:(EK b seen (aft C u)).Pairwise (· < ·):=(hs u).filter _;obtain ⟨F1,F2,hF⟩:=List.append_of_mem hvn;refine ⟨hk2,⟨next++F1.map (fun y=>p++[y]),F2.map (fun y=>p++[y]),by rw [hF,og,gB,hq1,List.append_assoc],fun q hq=>?_⟩,hII⟩;rcases aP.1 hq with q1 | q1
    ·exact w4 q q1
    ·obtain ⟨y,hy,rfl⟩:=gU.1 q1;obtain ⟨y1,y2,_⟩:=hkid y (by rw [hF];exact aP.2 (.inl hy));have hlt:y < v:=by
      rw [hF,List.pairwise_append] at hsort;exact hsort.2.2 y hy v lu
     rintro ⟨g1,g2⟩
     rw [Iw] at g1 g2;exact b5 y y2 hlt (Ef.1 y1) (by omega)
   | cons p0 pre =>
    left;simp only [je,List.cons.injEq] at w2;obtain ⟨hp,hcur⟩:=w2;subst hp;have hng:=w3 p lu;have hno:∀ y,y∈aft C u→b < y→D (cmC C) n b y≠0→k+1+D (cmC C) n b y≠d:=by
     intro y y1 y2 y3 y4;obtain ⟨d1,d2⟩:=TC (cm:=cmC C) hb hbn hge.1 hge.2 y2 (hr y y1).2 (Ef.1 y1) y3;have:=hfar k u hpR d1;exact hng ⟨by rw [hu];exact d1,by rw [hu];omega⟩
    refine ⟨w1,⟨pre,post,hcur,fun q hq=>w3 q (.tail _ hq)⟩,fun q hq=>?_,fun y y1 y2 y3 y4=>?_⟩
    ·rcases aP.1 hq with q1 | q1
     ·exact w4 q q1
     ·obtain ⟨y,hy,rfl⟩:=gU.1 q1;obtain ⟨y1,y2,_⟩:=hkid y hy
      rintro ⟨g1,g2⟩
      rw [Iw] at g1 g2;exact hno y y1 y2 g1 g2
    ·rcases hseen y y1 y2 y3 with q | q
     ·exact w5 y y1 y2 q y4
     ·exact hno y q y1 y4
  ·right;exact ⟨w1,⟨pre,post++(EK b seen (aft C u)).map (fun y=>p++[y]),by rw [w2];simp,w3⟩,hII⟩
end
theorem WC (xs:List Int) (h:xs.length≤16777216):slices_Clone_int xs=some xs:=by unfold slices_Clone_int;rw [OY h];rfl
theorem Uf {n:Nat} {C:List ai} (hn:n≤60) (hC:C.length≤3600) (hin:inC n C) (hs:∀ r,(aft C r).Pairwise (· < ·)) {b:Int} (hb:0≤b) (hbn:b < n):fP (xC n C) b=some (O4 (cmC C) n b):=by
 unfold fP;rw [yu,FK (by omega)];simp only [ae];have hr:∀ u y,y∈aft C u→0≤y∧y < n:=fun u y hy=>by
  obtain ⟨c,hc,_,rfl⟩:=KQ hy;exact (hin c hc).1
 generalize hd:D (cmC C) n b b=d;have B0:BI (cmC C) n b d (List.replicate n false) [[b]] 0 [[b]] []:=⟨rfl,by simp,by rw [Qx];simp;omega,fun p hp=>by
   simp only [eY] at hp;subst hp;rw [Qx];simp;omega,fun p hp=>by
   simp only [eY] at hp;subst hp;exact ⟨by simp,rfl⟩,by simp,fun y y1 y2 y3=>by
   unfold sn at y3;rw [aO,List.getElem?_replicate] at y3;split at y3<;>simp at y3,fun h0 => .inl ⟨by omega,⟨[],[],rfl,by simp⟩,by simp,fun y y1 y2 y3=>by
   unfold sn at y3;rw [aO,List.getElem?_replicate] at y3;split at y3<;>simp at y3⟩⟩
 obtain ⟨t,ht,rfl⟩:=rY (step:=fP.s1 (xC n C) b) (fun x=>∃ k cur next,BI (cmC C) n b d x.1 x.2 k cur next∧(cur=[]→next=[])) (fun x=>2 * cf x.1+x.2.length) (fun t=>t=if d=0 then .inl () else .inr (Ju (cmC C) n b d (d - 1))) (fun x hx=>by
  obtain ⟨seen,Q⟩:=x;obtain ⟨k,cur,next,B,hcn⟩:=hx;simp only at B;have hQ:=B.q;cases cur with
  | nil =>
   right;have hnx:=hcn rfl;subst hnx;simp only [jh] at hQ;subst hQ;by_cases h0:d=0
   ·refine ⟨.inl (),?_,by rw [if_pos h0]⟩;simp only [fP.s1,jy,Int.natCast_zero,gt_iff_lt,Int.lt_irrefl,aj]
   ·rcases B.way h0 with ⟨_,⟨pre,post,h,_⟩,_⟩ | ⟨_,⟨pre,post,h,_⟩,_⟩
    ·exact absurd h (by simp)
    ·exact absurd h (by simp)
  | cons p cur =>
   have hQ':Q=p::(cur++next):=by rw [hQ];rfl
   subst hQ';obtain ⟨hp0,hpR⟩:=B.fcur p lu;have hge:=Yw hb hbn hpR;have hql:=B.qlen;have hpl:=B.plen p lu;have hlen:=B.len;simp only [dU] at hql;have hpos:0 < p.length:=List.length_pos_iff.2 hp0;have hQ0:at_ (p::(cur++next)) 0=some p:=rfl;have hgt:(((p::(cur++next)).length:Int) > 0)=True:=rP (by simp;omega);have hlast:at_ p (w ((p.length:Int) - 1))=some (p.getLastD b):=by
    rw [uF (by omega) (by omega),at_in (d:=b) (by omega) (by omega)]
    congr 1
    rw [show ((p.length:Int) - 1).toNat=p.length - 1 by omega,aO,au (by omega),List.getLastD_eq_getLast?,List.getLast?_eq_getElem?,au (by omega)]
   have hnd:(aft C (p.getLastD b)).Nodup:=(hs _).imp (by intro a b h;omega);have hal:=GZ C (p.getLastD b);have hru:=hr (p.getLastD b);have hin2:fZ (fP.s2 b p (aft C (p.getLastD b))) (0,seen,p::(cur++next))=some (match iw (PN b p) 0 (aft C (p.getLastD b)) (seen,p::(cur++next)) with | .inl _ => .inr p | .inr v => .inl v):=by
    generalize hys:aft C (p.getLastD b)=ys at *
    rw [kP (step:=fP.s2 b p ys) ys (fun i v=>(i,v)) (fun _ => .inr p) (fun v => .inl v) (PN b p) (fun i v=>v.1.length=n∧v.2.length≤n+2+i) rfl ?_ ?_ ⟨hlen,by simp only [dU];omega⟩ (by omega)]
    ·cases iw (PN b p) 0 ys (seen,p::(cur++next))<;>rfl
    ·rintro i hi ⟨s,q⟩ ⟨h1,h2⟩
     simp only at h1 h2;have hyr:=hru ys[i] (dH hi);constructor
     ·simp only [fP.s2,iZ hi,aG,jo hi,ae,PN];by_cases e:ys[i]=b
      ·have:neL p=some p:=by unfold neL;rw [if_neg (by simpa using hp0)]
       simp only [e,aG,this,ae]
      ·simp only [e,aj];by_cases g:ys[i] > b
       ·have g':b < ys[i]:=g;simp only [g,aG];rw [at_in (d:=false) hyr.1 (by omega)];simp only [ae];unfold fP.j3;have hsn:s.getD ys[i].toNat false=sn s ys[i]:=rfl;rw [hsn];by_cases c:sn s ys[i]=true
        ·have:(decide (b < ys[i])&&!(sn s ys[i]))=false:=by rw [c];simp
         simp only [c,nJ,aF,aj,Bool.and_false];rw [wn (by omega)]
        ·have c':sn s ys[i]=false:=gV c;simp only [c',mf,aG,g',decide_true,Bool.and_self];rw [at_in (d:=false) hyr.1 (by omega),WC p (by omega)];simp only [ae];rw [jE (by omega)];simp only [ae];rw [jE (by omega)];simp only [ae];rw [wn (by omega)]
       ·have g':¬ b < ys[i]:=g;simp only [g,aj,g',decide_false,jQ,aF];unfold fP.j3;simp only [aF,aj];rw [wn (by omega)]
     ·intro v' hv;unfold PN at hv;split at hv
      ·cases hv
      ·split at hv
       ·cases hv;simp only [aT,iy,List.length_singleton];exact ⟨h1,by omega⟩
       ·cases hv;exact ⟨h1,by simp only;omega⟩
    ·intro v _;simp only [fP.s2,dB,aj]
   have hstep:fP.s1 (xC n C) b (seen,p::(cur++next))=(fZ (fP.s2 b p (aft C (p.getLastD b))) (0,seen,p::(cur++next))).bind fun z18=>match z18 with
     | .inl v19=>(cut v19.2 1 (v19.2.length:Int)).bind fun x20=>some (.inl (v19.1,x20))
     | .inr r21=>some (.inr (.inr r21)):=by
    simp only [fP.s1,hgt,aG,hQ0,ae,hlast,KP (show 0≤p.getLastD b by omega) hge.2];rfl
   rw [hstep,hin2];simp only [ae];by_cases hbm:b∈aft C (p.getLastD b)
   ·right;rw [Q9 _ _ _ hbm];refine ⟨_,rfl,?_⟩;have h1:=aa6 (cm:=cmC C) hb hbn hge.1 hge.2 (Ef.1 hbm);obtain ⟨d1,d2⟩:=aaz hb hbn hpR (by rw [h1];omega);rw [hd] at d1 d2;rw [if_neg d1];rw [h1] at d2;rcases B.way d1 with ⟨w1,⟨pre,post,w2,w3⟩,_⟩ | ⟨w1,_⟩
    ·have hk:k+1=d:=by omega
     cases pre with
     | nil =>
      simp only [iU,List.cons.injEq] at w2;rw [w2.1,show d - 1=k by omega]
     | cons p0 pre =>
      simp only [je,List.cons.injEq] at w2;exact absurd ⟨by rw [← w2.1,h1];omega,by rw [← w2.1,h1];omega⟩ (w3 p0 lu)
    ·omega
   ·left;obtain ⟨s',e1,e2,e3,e4⟩:=MF (n:=n) (p:=p) hb (aft C (p.getLastD b)) 0 seen (p::(cur++next)) hnd hru hlen hbm;rw [e1];simp only;have hcut:cut (p::(cur++next)++(EK b seen (aft C (p.getLastD b))).map fun y=>p++[y]) 1 ((p::(cur++next)++(EK b seen (aft C (p.getLastD b))).map fun y=>p++[y]).length:Int)=some (cur++(next++(EK b seen (aft C (p.getLastD b))).map fun y=>p++[y])):=by
     unfold cut;rw [if_pos (by simp;omega)];rw [show (((p::(cur++next)++(EK b seen (aft C (p.getLastD b))).map fun y=>p++[y]).length:Int)).toNat=(p::(cur++next)++(EK b seen (aft C (p.getLastD b))).map fun y=>p++[y]).length by omega,List.take_length];simp
    rw [hcut];simp only [ae];have B':=B.step hb hbn hs hd (seen':=s') e2 hru e3 hbm e4;refine ⟨_,rfl,B'.norm,?_⟩;simp only [dU,iy,iq];omega) (x:=(List.replicate n false,[[b]])) ⟨0,_,_,B0,fun h=>by cases h⟩ (by have:=um;simp only [Qx,List.length_singleton];omega)
 rw [ht];unfold O4;rw [hd];by_cases h0:d=0
 ·simp only [h0,aG,ae]
 ·simp only [h0,aj,ae]
end Go.Sh
set_option linter.all false
namespace Go.Sh
open Go.Lx
theorem QA {C:List ai} (hC:C.length≤3600) (x y:Int):mZ C x y=some (cmC C x y):=by
 unfold mZ;obtain ⟨j,hj⟩:=wu (step:=mZ.s1 C x y) C (fun c=>(c.Reader==x)&&(c.Writer==y)) (fun _=>Sum.inr true) (Sum.inl ()) (s:=0) rfl (fun i hi=>by
  simp only [mZ.s1,iZ hi,aG,jo hi,ae];by_cases h1:C[i].Reader=x
  ·by_cases h2:C[i].Writer=y
   ·simp [h1,h2]
   ·simp only [h1,h2,aG,aj,kK,iK,jX];rw [wn (by omega)]
  ·have:(C[i].Reader==x)=false:=by simpa using h1
   simp only [h1,aj,this,jQ,aF];rw [wn (by omega)]) (by simp only [mZ.s1,dB,aj]) (by omega)
 rw [hj];unfold cmC;by_cases h:C.any (fun c=>(c.Reader==x)&&(c.Writer==y))=true
 ·simp [h]
 ·simp [h]
def fL (n:Nat) (g:Int→Nat):List Int:=(List.range n).map fun z:Nat=>(g (z:Int):Int)
theorem Pn {n:Nat} {g:Int→Nat} {z:Int} (h0:0≤z) (h1:z < n):at_ (fL n g) z=some (g z:Int):=by
 unfold fL;rw [at_range _ h0 h1]
 congr 2
 rw [show ((z.toNat:Nat):Int)=z by omega]
theorem Dh {n:Nat} {g g':Int→Nat} (h:∀ z:Int,0≤z→z < n→g z=g' z):fL n g=fL n g':=by
 unfold fL;apply List.map_congr_left;intro z hz;rw [h z (by omega) (by simp only [kT] at hz;omega)]
theorem ZQ {n:Nat} {g:Int→Nat} {x:Int} {v:Nat} (h0:0≤x) (h1:x < n):(fL n g).set x.toNat (v:Int)=fL n (fun z=>if z=x then v else g z):=by
 apply List.ext_getElem
 ·simp [fL]
 ·intro i h2 h3;rw [List.getElem_set];simp only [fL,List.getElem_map,List.getElem_range];by_cases e:x.toNat=i
  ·rw [if_pos e,if_pos (by omega)]
  ·rw [if_neg e,if_neg (by omega)]
section
variable {C:List ai} {n:Nat} {b:Int}
theorem Lr {cm:Int→Int→Bool}:∀ k z,z < b→rC cm n b k z=0
 | 0,z,_=>rfl
 | k+1,z,h=>by
  have:=Lr (cm:=cm) k z h;rw [rC,if_neg (by simp [this]),if_neg];simp only [aS,fE];omega
def mid (cm:Int→Int→Bool) (n:Nat) (b:Int) (k:Nat) (x z:Int):Nat:=if z < x then rC cm n b (k+1) z else rC cm n b k z
theorem aaN {cm:Int→Int→Bool} {k:Nat} (hk:0 < k) (x y:Int):(mid cm n b k x y=k)↔(rC cm n b k y=k):=by
 unfold mid;split
 ·rw [rC];split
  ·exact Iff.rfl
  ·rename_i h
   have h':=aI.1 h;split
   ·omega
   ·omega
 ·exact Iff.rfl
theorem WX (hn:n≤60) (hC:C.length≤3600) (hb:0≤b) (hbn:b < n) {k:Nat} (hk:k < n) {x:Int} (hx0:b≤x) (hx1:x < n) (q1:List Int) (q2:List Int) :
  fZ (dE.s3 C n b (((k+1:Nat):Int),q1) (x,q2)) (b,fL n (mid (cmC C) n b k x))=some (fL n (mid (cmC C) n b k (x+1))):=by
 obtain ⟨t,ht,rfl⟩:=rY (step:=dE.s3 C n b (((k+1:Nat):Int),q1) (x,q2)) (fun s=>∃ (y:Int) (f:Bool),b≤y∧y≤n∧s=(y,fL n (fun z=>if z=x then (if f=true then k+1 else rC (cmC C) n b k x) else mid (cmC C) n b k x z)) ∧
   (f=true→rC (cmC C) n b k x=0∧∃ y':Int,0≤y'∧y' < n∧okF (cmC C) b (rC (cmC C) n b k) k x y'=true) ∧
   (f=false→rC (cmC C) n b k x=0→∀ y':Int,b≤y'→y' < y→okF (cmC C) b (rC (cmC C) n b k) k x y'=false)) (fun s=>((n:Int) - s.1).toNat) (fun t=>t=fL n (mid (cmC C) n b k (x+1))) (fun s hs=>by
  obtain ⟨y,f,hy0,hy1,rfl,hf1,hf2⟩:=hs;have hfin:(f=false→rC (cmC C) n b k x=0→y=n)→fL n (fun z=>if z=x then (if f=true then k+1 else rC (cmC C) n b k x) else mid (cmC C) n b k x z)=fL n (mid (cmC C) n b k (x+1)):=by
   intro hyn;apply Dh;intro z z0 z1;by_cases e:z=x
   ·subst e;have em:mid (cmC C) n b k (z+1) z=rC (cmC C) n b (k+1) z:=by unfold mid;rw [if_pos (by omega)]
    rw [if_pos rfl,em];cases f with
    | true =>
     obtain ⟨g1,y',g2,g3,g4⟩:=hf1 rfl;rw [if_pos rfl,rC,if_neg (by simp [g1]),if_pos];simp only [aS,fE,gY];exact ⟨hx0,hx1,y',nN.2 ⟨g2,g3⟩,g4⟩
    | false =>
     rw [if_neg (by simp)];by_cases g:rC (cmC C) n b k z=0
     ·have hyn':=hyn rfl g;rw [rC,if_neg (by simp [g]),if_neg,g];simp only [aS,fE,gY,not_and,not_exists];intro _ _ y' hy' hok;have hr:=nN.1 hy';by_cases hby:b≤y'
      ·rw [hf2 rfl g y' hby (by omega)] at hok;cases hok
      ·unfold okF at hok;simp at hok;omega
     ·rw [HY g]
   ·rw [if_neg e];unfold mid;by_cases h1:z < x
    ·rw [if_pos h1,if_pos (by omega)]
    ·rw [if_neg h1,if_neg (by omega)]
  by_cases h:y < n
  ·have hlt:(y < (n:Int))=True:=rP h;have hax:at_ (fL n (fun z=>if z=x then (if f=true then k+1 else rC (cmC C) n b k x) else mid (cmC C) n b k x z)) x=some (((if f=true then k+1 else rC (cmC C) n b k x:Nat)):Int):=by
    rw [Pn (by omega) hx1,if_pos rfl]
   by_cases hz:(((if f=true then k+1 else rC (cmC C) n b k x:Nat)):Int)=0
   ·have hff:f=false:=by cases f with | true=>simp at hz;omega | false=>rfl
    subst hff;have hz':rC (cmC C) n b k x=0:=by simp at hz;exact hz
    left;have go:∀ st,okF (cmC C) b (rC (cmC C) n b k) k x y=st→dE.s3 C n b (((k+1:Nat):Int),q1) (x,q2) (y,fL n (fun z=>if z=x then (if false=true then k+1 else rC (cmC C) n b k x) else mid (cmC C) n b k x z)) =
      some (.inl (y+1,fL n (fun z=>if z=x then (if st=true then k+1 else rC (cmC C) n b k x) else mid (cmC C) n b k x z))):=by
     intro st hst;simp only [dE.s3,hlt,aG,hax,ae,hz,QA hC];rw [uF (n:=y+1) (by omega) (by omega)];unfold okF at hst;by_cases hc:cmC C x y=true
     ·simp only [hc,aG,iK] at hst ⊢;have hset:(fL n (fun z=>if z=x then (if false=true then k+1 else rC (cmC C) n b k x) else mid (cmC C) n b k x z)).set x.toNat ((k+1:Nat):Int)=fL n (fun z=>if z=x then (if true=true then k+1 else rC (cmC C) n b k x) else mid (cmC C) n b k x z):=by
       rw [ZQ (by omega) hx1];apply Dh;intro z _ _;by_cases e:z=x
       ·simp [e]
       ·simp [e]
      by_cases hk0:k=0
      ·subst hk0;by_cases hyb:y=b
       ·have e1:((((0+1:Nat):Int)==1)&&(y==b))=true:=by simp [hyb]
        rw [if_pos e1,hset];simp [hyb] at hst;rw [← hst]
       ·have e1:¬ ((((0+1:Nat):Int)==1)&&(y==b))=true:=by simp [hyb]
        have e2:¬ (decide (((0+1:Nat):Int) > 1)&&decide (y > b))=true:=by simp
        have hst':st=false:=by rw [← hst];simp [hyb]
        rw [if_neg e1,if_neg e2,hst']
      ·have e1:¬ ((((k+1:Nat):Int)==1)&&(y==b))=true:=by simp;omega
       rw [if_neg e1];by_cases hyb:b < y
       ·have e2:(decide (((k+1:Nat):Int) > 1)&&decide (y > b))=true:=by simp;omega
        rw [if_pos e2,Pn (by omega) h];simp only [ae];rw [uF (n:=((k+1:Nat):Int) - 1) (by omega) (by omega)];have hcur:((if y=x then (if false=true then k+1 else rC (cmC C) n b k x) else mid (cmC C) n b k x y)=k)↔(rC (cmC C) n b k y=k):=by
         by_cases e:y=x
         ·subst e;simp
         ·rw [if_neg e];exact aaN (by omega) x y
        by_cases hg:rC (cmC C) n b k y=k
        ·have hst':st=true:=by rw [← hst];simp [hk0,hyb,hg];omega
         have hgi:=hcur.2 hg;rw [if_pos (by rw [hgi];omega),hset,hst']
        ·have hst':st=false:=by rw [← hst];simp [hk0,hyb,hg]
         have hgi:=mt hcur.1 hg;rw [if_neg (by omega),hst']
       ·have e2:¬ (decide (((k+1:Nat):Int) > 1)&&decide (y > b))=true:=by simp;omega
        have hst':st=false:=by rw [← hst];simp [hk0,hyb]
        rw [if_neg e2,hst']
     ·simp only [hc,aj,aF,jQ] at hst ⊢;rw [← hst];simp only [aF,aj]
    cases hst:okF (cmC C) b (rC (cmC C) n b k) k x y with
    | true=>exact ⟨_,go true hst,⟨y+1,true,by omega,by omega,rfl,fun _=>⟨hz',y,by omega,h,hst⟩,by simp⟩,by simp only;omega⟩
    | false=>exact ⟨_,go false hst,⟨y+1,false,by omega,by omega,rfl,by simp,fun _ g y' y1 y2=>by
      by_cases e:y'=y
      ·rw [e];exact hst
      ·exact hf2 rfl g y' y1 (by omega)⟩,by simp only;omega⟩
   ·right;refine ⟨_,?_,hfin (fun h1 h2=>by subst h1;simp [h2] at hz)⟩;simp only [dE.s3,hlt,aG,hax,ae,hz,aj]
  ·right;have hlt:¬ (y < (n:Int)):=h;refine ⟨_,?_,hfin (fun _ _=>by omega)⟩;simp only [dE.s3,hlt,aj]) (x:=(b,fL n (mid (cmC C) n b k x))) ⟨b,false,by omega,by omega,by
    congr 1
    apply Dh;intro z _ _;by_cases e:z=x
    ·subst e;simp [mid]
    ·rw [if_neg e],by simp,fun _ _ y' y1 y2=>by omega⟩ (by have:=um;simp only;omega)
 exact ht
theorem round_eq (hn:n≤60) (hC:C.length≤3600) (hb:0≤b) (hbn:b < n) {k:Nat} (hk:k < n) (q1:List Int) :
  fZ (dE.s2 C n b (((k+1:Nat):Int),q1)) (b,fL n (rC (cmC C) n b k))=some (fL n (rC (cmC C) n b (k+1))):=by
 obtain ⟨t,ht,rfl⟩:=rY (step:=dE.s2 C n b (((k+1:Nat):Int),q1)) (fun s=>∃ x:Int,b≤x∧x≤n∧s=(x,fL n (mid (cmC C) n b k x))) (fun s=>((n:Int) - s.1).toNat) (fun t=>t=fL n (rC (cmC C) n b (k+1))) (fun s hs=>by
  obtain ⟨x,x0,x1,rfl⟩:=hs;by_cases h:x < n
  ·left;have hlt:(x < (n:Int))=True:=rP h;refine ⟨_,?_,⟨x+1,by omega,by omega,rfl⟩,by simp only;omega⟩;simp only [dE.s2,hlt,aG];rw [WX hn hC hb hbn hk x0 h];simp only [ae];rw [uF (by omega) (by omega)]
  ·right;have hlt:¬ (x < (n:Int)):=h;refine ⟨_,by simp only [dE.s2,hlt,aj];rfl,Dh fun z _ z1=>?_⟩;unfold mid;rw [if_pos (by omega)]) (x:=(b,fL n (rC (cmC C) n b k))) ⟨b,by omega,by omega,by
    congr 1
    apply Dh;intro z _ _;unfold mid;by_cases e:z < b
    ·rw [if_pos e,Lr _ _ e,Lr _ _ e]
    ·rw [if_neg e]⟩ (by have:=um;simp only;omega)
 exact ht
theorem VC (hn:n≤60) (hC:C.length≤3600) (hb:0≤b) (hbn:b < n):fZ (dE.s1 C n b) (1,List.replicate n 0)=some (fL n (D (cmC C) n b)):=by
 obtain ⟨t,ht,rfl⟩:=rY (step:=dE.s1 C n b) (fun s=>∃ k:Nat,k≤n∧s=(((k+1:Nat):Int),fL n (rC (cmC C) n b k))) (fun s=>((n:Int)+1 - s.1).toNat) (fun t=>t=fL n (D (cmC C) n b)) (fun s hs=>by
  obtain ⟨k,hk,rfl⟩:=hs;by_cases h:k < n
  ·left;have hlt:(((k+1:Nat):Int)≤(n:Int))=True:=rP (by omega);refine ⟨_,?_,⟨k+1,by omega,rfl⟩,by simp only;omega⟩;simp only [dE.s1,hlt,aG];rw [round_eq hn hC hb hbn h];simp only [ae];rw [wn (by omega)]
  ·right;have hlt:¬ (((k+1:Nat):Int)≤(n:Int)):=by omega
   have e:k=n:=by omega
   subst e;exact ⟨_,by simp only [dE.s1,hlt,aj];rfl,rfl⟩) (x:=(1,List.replicate n 0)) ⟨0,by omega,by
    congr 1
    apply List.ext_getElem
    ·simp [fL]
    ·intro i h1 h2;simp [fL,rC]⟩ (by have:=um;simp only;omega)
 exact ht
theorem NS {step:Int×Int→Option (Sum (Int×Int) Int)} (p:Nat→Bool) (lo m:Nat) (hm:m < 1000) (hlo:lo≤m)
  (h:∀ i,lo≤i→i < m→∀ v,step (v,(i:Int))=some (.inl (if p i=true then (i:Int) else v,(i:Int) - 1))) (hend:∀ v,step (v,(lo:Int) - 1)=some (.inr v)):fZ step (-1,(m:Int) - 1)=some (BO p lo (m - lo)):=by
 obtain ⟨t,ht,rfl⟩:=rY (step:=step) (fun s=>∃ i:Nat,lo≤i∧i≤m∧s=(BO p i (m - i),(i:Int) - 1)) (fun s=>(s.2+1).toNat) (fun t=>t=BO p lo (m - lo)) (fun s hs=>by
  obtain ⟨i,h1,h2,rfl⟩:=hs;by_cases e:i=lo
  ·right;subst e;exact ⟨_,hend _,rfl⟩
  ·left;obtain ⟨j,rfl⟩:∃ j,i=j+1:=⟨i - 1,by omega⟩
   have:=h j (by omega) (by omega) (BO p (j+1) (m - (j+1)));rw [show (((j+1:Nat):Int) - 1)=(j:Int) by omega];refine ⟨_,this,⟨j,by omega,by omega,?_⟩,by simp only;omega⟩;rw [show m - j=(m - (j+1))+1 by omega]
   conv=>rhs;rw [BO]) (x:=(-1,(m:Int) - 1)) ⟨m,hlo,by omega,by rw [Nat.sub_self];rfl⟩ (by have:=um;simp only;omega)
 exact ht
theorem TP (hn:n≤60) (hC:C.length≤3600) (hb:0≤b) (hbn:b < n):dE C n b=some (O4 (cmC C) n b):=by
 unfold dE;rw [FK (by omega)];simp only [ae];rw [VC hn hC hb hbn];simp only [ae];rw [Pn hb hbn];simp only [ae];unfold O4;generalize hd:D (cmC C) n b b=d;by_cases h0:d=0
 ·simp [h0]
 ·have hd0:¬ (d:Int)=0:=by omega
  have hdn:d≤n:=by rw [← hd];exact En n b
  simp only [hd0,h0,aj];obtain ⟨t,ht,rfl⟩:=rY (step:=dE.s4 C n b (fL n (D (cmC C) n b))) (fun s=>∃ k:Nat,k+1≤d∧s=Ju (cmC C) n b d k) (fun s=>d - s.length) (fun t=>t=Ju (cmC C) n b d (d - 1)) (fun s hs=>by
   obtain ⟨k,hk,rfl⟩:=hs;have hql:=DT (cm:=cmC C) (n:=n) (b:=b) d k;by_cases h:k+1 < d
   ·left;have hlt:(((Ju (cmC C) n b d k).length:Int) < (d:Int))=True:=rP (by omega);refine ⟨_,?_,⟨k+1,by omega,rfl⟩,by simp only [DT];omega⟩;have hlast:at_ (Ju (cmC C) n b d k) (w (((Ju (cmC C) n b d k).length:Int) - 1))=some (qat (cmC C) n b d k):=by
     rw [uF (by omega) (by omega),at_in (d:=b) (by omega) (by omega)]
     congr 1
     unfold qat;rw [show (((Ju (cmC C) n b d k).length:Int) - 1).toNat=(Ju (cmC C) n b d k).length - 1 by omega,aO,au (by omega),List.getLastD_eq_getLast?,List.getLast?_eq_getElem?,au (by omega)]
    simp only [dE.s4,Pn hb hbn,ae,hd,hlt,aG,hlast];rw [uF (n:=(n:Int) - 1) (by omega) (by omega)];rw [NS (step:=dE.s5 C b (fL n (D (cmC C) n b)) (Ju (cmC C) n b d k) (qat (cmC C) n b d k)) (fun y=>cmC C (qat (cmC C) n b d k) (y:Int)&&D (cmC C) n b (y:Int)==d - (k+1)) (b.toNat+1) n (by omega) (by omega) ?_ ?_]
    ·simp only [ae];rw [jE (by omega)];simp only [ae];rw [Ju];unfold nx qat;rw [show n - (b.toNat+1)=n - b.toNat - 1 by omega]
    ·intro i hi1 hi2 v;have hgt:((i:Int) > b)=True:=rP (by omega);simp only [dE.s5,hgt,aG,QA hC,ae];rw [uF (n:=(i:Int) - 1) (by omega) (by omega)];by_cases hc:cmC C (qat (cmC C) n b d k) (i:Int)=true
     ·simp only [hc,aG,iK];rw [Pn (by omega) (by omega),Pn hb hbn];simp only [ae,hd];rw [uF (n:=(d:Int) - _) (by omega) (by omega)];by_cases hg:D (cmC C) n b (i:Int)=d - (k+1)
      ·rw [if_pos (by rw [hg,hql];omega),if_pos (by simpa using hg)]
      ·rw [if_neg (by rw [hql];omega),if_neg (by simpa using hg)]
     ·simp only [hc,aj,aF,jQ]
    ·intro v;have hgt:¬ (((b.toNat+1:Nat):Int) - 1 > b):=by omega
     simp only [dE.s5,hgt,aj]
   ·right;have e:k=d - 1:=by omega
    subst e;have hlt:¬ (((Ju (cmC C) n b d (d - 1)).length:Int) < (d:Int)):=by omega
    refine ⟨_,?_,rfl⟩;simp only [dE.s4,Pn hb hbn,ae,hd,hlt,aj]) (x:=[b]) ⟨0,by omega,rfl⟩ (by have:=um;simp only [List.length_singleton];omega)
  rw [ht];rfl
end
end Go.Sh
set_option linter.all false
namespace Go.Sh
open Go.Lx
theorem Nk (l:List ah) (s:aC):(wY l s).Pairwise fun c d=>c.Writer < d.Writer∨(c.Writer=d.Writer∧c.Reader < d.Reader):=by
 have hm:∀ w r c,c∈uJ l s w r→c.Writer=(w:Int)∧c.Reader=(r:Int):=by
  intro w r c hc;unfold uJ at hc;split at hc
  ·simp only [eY] at hc;subst hc;exact ⟨rfl,rfl⟩
  ·cases hc
 unfold wY;rw [List.pairwise_flatMap];refine ⟨fun w _=>?_,?_⟩
 ·rw [List.pairwise_flatMap];refine ⟨fun r _=>?_,?_⟩
  ·unfold uJ;split<;>simp
  ·refine (List.pairwise_lt_range (n:=nC l s)).imp ?_;intro a b hab x hx y hy;obtain ⟨x1,x2⟩:=hm w a x hx;obtain ⟨y1,y2⟩:=hm w b y hy;right;omega
 ·refine (List.pairwise_lt_range (n:=nC l s)).imp ?_;intro a b hab x hx y hy;obtain ⟨r,_,hx2⟩:=List.mem_flatMap.1 hx;obtain ⟨r2,_,hy2⟩:=List.mem_flatMap.1 hy;have h1:=(hm a r x hx2).1;have h2:=(hm b r2 y hy2).1;left;omega
theorem RH (l:List ah) (s:aC) (r:Int):(aft (wY l s) r).Pairwise (· < ·):=by
 unfold aft;rw [List.pairwise_map,List.pairwise_filter];refine (Nk l s).imp ?_;intro a b h h1 h2;simp only [jX] at h1 h2;omega
theorem UE {C:List ai} {out:List Int} (hC:C.length≤3600) (ho:out.length < 1000) (i:Nat) (v:Int):fZ (dQ.s3 C out (v,(i:Int))) (!(out.any fun x=>x==(i:Int)),0)=some (free C out i):=by
 have hany:∀ z:Int,(out.any fun x=>x==z)=out.contains z:=by
  intro z;rw [Bool.eq_iff_iff];simp
 obtain ⟨t,ht,rfl⟩:=rY (step:=dQ.s3 C out (v,(i:Int))) (fun s=>∃ (k:Nat) (f:Bool),k≤C.length∧s=(f,(k:Int))∧(f&&(C.drop k).all fun c=>(c.Writer != (i:Int)) || out.contains c.Reader)=free C out i) (fun s=>C.length - s.2.toNat) (fun t=>t=free C out i) (fun s hs=>by
  obtain ⟨k,f,hk,rfl,hf⟩:=hs;by_cases h:k < C.length
  ·cases f with
   | true =>
    left;rw [kG h,mg] at hf;have hgd:((decide ((k:Int) < (C.length:Int)))&&true)=true:=by simp;omega
    by_cases hw:C[k].Writer=(i:Int)
    ·refine ⟨(out.contains C[k].Reader,((k+1:Nat):Int)),?_,⟨k+1,_,by omega,rfl,?_⟩,by simp only [jD];omega⟩
     ·simp only [dQ.s3,hgd,aG,jo h,ae,hw,dh,aj];rw [has_eq (by omega)];simp only [ae,hany];rw [wn (by omega)]
     ·rw [← hf];simp [hw]
    ·refine ⟨(true,((k+1:Nat):Int)),?_,⟨k+1,_,by omega,rfl,?_⟩,by simp only [jD];omega⟩
     ·simp only [dQ.s3,hgd,aG,jo h,ae,hw,aU];rw [wn (by omega)]
     ·have:(C[k].Writer != (i:Int))=true:=by simpa using hw
      rw [← hf,this];simp
   | false =>
    right;refine ⟨false,?_,by rw [← hf];simp⟩;simp only [dQ.s3,Bool.and_false,aF,aj]
  ·right;have e:k=C.length:=by omega
   subst e;refine ⟨f,?_,by rw [← hf];simp⟩;simp only [dQ.s3,Int.lt_irrefl,decide_false,jQ,aF,aj]) (x:=(!(out.any fun x=>x==(i:Int)),0)) ⟨0,_,by omega,rfl,by rw [hany,List.drop_zero];rfl⟩ (by have:=um;simp only;omega)
 exact ht
theorem Ja {n:Nat} {C:List ai} (hn:n≤60) (hC:C.length≤3600):dQ C (n:Int)=some (match FP n C n [] with | some r=>(r,true) | none=>([],false)):=by
 unfold dQ;obtain ⟨t,ht,rfl⟩:=rY (step:=dQ.s1 C (n:Int)) (fun out=>out.length≤n∧FP n C (n - out.length) out=FP n C n []) (fun out=>n - out.length) (fun t=>t=(match FP n C n [] with | some r => .inl r | none => .inr ([],false))) (fun out hx=>by
  obtain ⟨hl,ho⟩:=hx;by_cases h:out.length < n
  ·have hlt:((out.length:Int) < (n:Int))=True:=rP (by omega);obtain ⟨k,hk⟩:∃ k,n - out.length=k+1:=⟨n - out.length - 1,by omega⟩
   rw [hk,FP] at ho;have hdown:fZ (dQ.s2 C out) (-1,w ((n:Int) - 1))=some (nxt n C out):=by
    rw [uF (by omega) (by omega),NS (step:=dQ.s2 C out) (free C out) 0 n (by omega) (by omega) ?_ ?_]
    ·rfl
    ·intro i _ hi v;have hge:((i:Int)≥0)=True:=rP (by omega);simp only [dQ.s2,hge,aG];rw [has_eq (by omega)];simp only [ae];rw [UE hC (by omega) i v,uF (by omega) (by omega)];simp only [ae];split<;>rfl
    ·intro v;have hge:¬ (((0:Nat):Int) - 1≥0):=by omega
     simp only [dQ.s2,hge,aj]
   by_cases hx:nxt n C out < 0
   ·right;rw [if_pos hx] at ho;refine ⟨_,?_,by rw [← ho]⟩;simp only [dQ.s1,hlt,aG,hdown,ae,hx]
   ·left;rw [if_neg hx] at ho;refine ⟨out++[nxt n C out],?_,⟨by simp;omega,by rw [← ho];congr 1;simp;omega⟩,by simp;omega⟩;simp only [dQ.s1,hlt,aG,hdown,ae,hx,aj];rw [jE (by omega)];rfl
  ·right;have hln:out.length=n:=by omega
   have hlt:¬ ((out.length:Int) < (n:Int)):=by omega
   rw [hln,Nat.sub_self,FP] at ho;refine ⟨_,?_,by rw [← ho]⟩;simp only [dQ.s1,hlt,aj]) (x:=[]) ⟨by simp,by simp⟩ (by have:=um;simp;omega)
 rw [ht];cases FP n C n []<;>rfl
theorem XE {C:List ai} (hC:C.length≤3600):iJ C C=some true:=by
 unfold iJ;rw [if_neg (by simp)];rw [qw (step:=iJ.s1 C C) C (fun _=>(none:Option Bool)) (fun c=>Sum.inr c) (Sum.inl ()) rfl ?_ ?_ (by omega)]
 ·have:C.findSome? (fun _=>(none:Option Bool))=none:=by simp
  rw [this];rfl
 ·intro i hi;simp only [iJ.s1,iZ hi,aG,jo hi,ae,kK,Bool.and_self,dh,aj];rw [wn (by omega)]
 ·simp only [iJ.s1,dB,aj]
def bst (best c:List Int):List Int:=if c≠[]∧(best=[]∨c.length < best.length) then c else best
def cyc (n:Nat) (C:List ai):List Int:=(uf n).foldl (fun best b=>bst best (O4 (cmC C) n b)) []
theorem I9 {n:Nat} {C:List ai} (hn:n≤60) (hC:C.length≤3600):nV C (n:Int)=some (cyc n C):=by
 unfold nV;rw [lL (step:=nV.s1 C (n:Int)) (uf n) (fun i v=>(v,i)) (fun v=>v) (fun best b=>bst best (O4 (cmC C) n b)) (fun _ _=>True) rfl ?_ ?_ trivial (by rw [oG];omega)]
 ·rfl
 ·intro i hi v _;have hi':i < n:=by rwa [oG] at hi
  have e:(uf n)[i]=(i:Int):=by simp [uf]
  have hlt:((i:Int) < (n:Int))=True:=rP (by omega);refine ⟨?_,trivial⟩;rw [e];simp only [nV.s1,hlt,aG];rw [TP hn hC (by omega) (by omega)];simp only [ae];rw [wn (by omega)];unfold bst;generalize O4 (cmC C) n (i:Int)=c;cases c with
  | nil=>simp
  | cons a c =>
   cases v with
   | nil=>simp
   | cons a2 v =>
    by_cases q:c.length < v.length
    ·rw [if_pos (by simp;omega),if_pos ⟨by simp, .inr (by simp;omega)⟩]
    ·rw [if_neg (by simp;omega),if_neg (by simp;omega)]
 ·intro v _;have hlt:¬ (((uf n).length:Int) < (n:Int)):=by rw [oG];omega
  simp only [nV.s1,hlt,aj]
theorem RV {n:Nat} {C:List ai} (hn:n≤60) (hC:C.length≤3600) (hin:inC n C) (hs:∀ r,(aft C r).Pairwise (· < ·)):fZ (jR.s1 (xC n C)) ([],0)=some (cyc n C):=by
 rw [lL (step:=jR.s1 (xC n C)) (uf n) (fun i v=>(v,i)) (fun v=>v) (fun best b=>bst best (O4 (cmC C) n b)) (fun _ _=>True) rfl ?_ ?_ trivial (by rw [oG];omega)]
 ·rfl
 ·intro i hi v _;have hi':i < n:=by rwa [oG] at hi
  have e:(uf n)[i]=(i:Int):=by simp [uf]
  have hlt:((i:Int) < ((xC n C).length:Int))=True:=rP (by rw [yu];omega);refine ⟨?_,trivial⟩;rw [e];simp only [jR.s1,hlt,aG];rw [Uf hn hC hin hs (by omega) (by omega)];simp only [ae];rw [wn (by omega)];unfold bst;generalize O4 (cmC C) n (i:Int)=c;cases c with
  | nil=>simp
  | cons a c =>
   cases v with
   | nil=>simp
   | cons a2 v =>
    by_cases q:c.length < v.length
    ·rw [if_pos (by simp;omega),if_pos ⟨by simp, .inr (by simp;omega)⟩]
    ·rw [if_neg (by simp;omega),if_neg (by simp;omega)]
 ·intro v _;have hlt:¬ (((uf n).length:Int) < ((xC n C).length:Int)):=by rw [oG,yu];omega
  simp only [jR.s1,hlt,aj]
theorem RX {l:List ah} {s:aC} (hf:few l=true) (hb:xe s=true):jR l s=some (if opE l s=0 then (cyc (nC l s) (wY l s),if cyc (nC l s) (wY l s)=[] then 12 else 0) else ([],opE l s)):=by
 obtain ⟨y,y1,y2⟩:=PU hf hb;unfold jR;rw [y1];simp only [ae];by_cases h:opE l s=0
 ·have A:=asg hb h;have hn:nC l s≤60:=A.n60;simp only [h,dh,aj,y2 h,aG,Qs A,ae];rw [RV hn (zM A) (CZ l s) (RH l s)];simp only [ae,rE];cases cyc (nC l s) (wY l s)<;>rfl
 ·simp only [h,aU,aG,aj]
theorem Wv {best c:List Int} (h:best≠[]):bst best c≠[]:=by
 unfold bst;split
 ·rename_i q;exact q.1
 ·exact h
theorem QK (g:Int→List Int):∀ (xs:List Int) (best:List Int),(xs.foldl (fun best b=>bst best (g b)) best=[])↔(best=[]∧∀ b,b∈xs→g b=[])
 | [],best=>by simp
 | x::xs,best=>by
  rw [dY,QK g xs];constructor
  ·rintro ⟨h1,h2⟩
   have hb:best=[]:=iG fun q=>Wv q h1
   refine ⟨hb,fun b hbm=>?_⟩;rcases fJ.1 hbm with q | q
   ·subst q;unfold bst at h1;split at h1
    ·rename_i r;exact absurd h1 r.1
    ·rename_i r
     exact iG fun z=>r ⟨z, .inl hb⟩
   ·exact h2 b q
  ·rintro ⟨h1,h2⟩
   refine ⟨?_,fun b hb=>h2 b (.tail _ hb)⟩;unfold bst;rw [h2 x (.head _),h1];simp
theorem Qz {cm:Int→Int→Bool} {n:Nat} {b:Int}:O4 cm n b=[]↔D cm n b b=0:=by
 unfold O4;constructor
 ·intro h;refine iG fun q=>?_
  rw [if_neg q] at h;have:=DT (cm:=cm) (n:=n) (b:=b) (D cm n b b) (D cm n b b - 1);rw [h] at this;simp at this
 ·intro h;rw [if_pos h]
theorem Un {n:Nat} {C:List ai}:cyc n C=[]↔∀ b:Int,0≤b→b < n→D (cmC C) n b b=0:=by
 unfold cyc;rw [QK (fun b=>O4 (cmC C) n b)];constructor
 ·rintro ⟨_,h⟩ b b0 b1
  exact Qz.1 (h b (nN.2 ⟨b0,b1⟩))
 ·intro h;exact ⟨rfl,fun b hb=>Qz.2 (h b (nN.1 hb).1 (nN.1 hb).2)⟩
theorem X0 {c:ai}:∀ {xs:List Int} (i:Nat),bef c xs=false→c.Writer∈xs→c.Reader∈xs→c.Writer≠c.Reader→idx c.Reader xs i < idx c.Writer xs i
 | [],i,_,h,_,_=>by cases h
 | x::xs,i,hb,hw,hr,hne=>by
  by_cases h1:x=c.Reader
  ·have e:idx c.Reader (x::xs) i=i:=by unfold idx;rw [if_pos h1.symm]
   have hw2:c.Writer∈xs:=by
    rcases fJ.1 hw with q | q
    ·exact absurd (q.trans h1) hne
    ·exact q
   have e2:idx c.Writer (x::xs) i=idx c.Writer xs (i+1):=by rw [idx,if_neg (fun q=>hne (q.trans h1))]
   have:=Ye (i+1) hw2;rw [e,e2];omega
  ·rw [bef,if_neg h1] at hb;by_cases h2:x=c.Writer
   ·rw [if_pos h2] at hb;cases hb
   ·rw [if_neg h2] at hb;have hw2:c.Writer∈xs:=by
     rcases fJ.1 hw with q | q
     ·exact absurd q.symm h2
     ·exact q
    have hr2:c.Reader∈xs:=by
     rcases fJ.1 hr with q | q
     ·exact absurd q.symm h1
     ·exact q
    rw [idx,idx,if_neg (fun q=>h1 q.symm),if_neg (fun q=>h2 q.symm)];exact X0 (i+1) hb hw2 hr2 hne
theorem Xr {n:Nat} {C:List ai} (hin:inC n C) {r:List Int} (h:FP n C n []=some r):∀ b:Int,0≤b→b < n→D (cmC C) n b b=0:=by
 obtain ⟨hp,hsafe⟩:=Oc h;have hcm:∀ x y,cmC C x y=true→idx x r 0 < idx y r 0:=by
  intro x y hc;unfold cmC at hc;rw [gY] at hc;obtain ⟨c,hcC,hxy⟩:=hc;simp only [aS,jX] at hxy;obtain ⟨g1,g2,g3⟩:=hin c hcC;have hb:bef c r=false:=by
   unfold Y8 at hsafe;have:C.any (fun x=>bef x r)=false:=by simpa using hsafe
   rw [List.any_eq_false] at this;exact gV (this c hcC)
  rw [← hxy.1,← hxy.2];exact X0 0 hb (hp.mem_iff.2 (nN.2 g1)) (hp.mem_iff.2 (nN.2 g2)) g3
 intro b b0 b1;have key:∀ k x,D (cmC C) n b x=k+1→idx x r 0 < idx b r 0:=by
  intro k
  induction k with
  | zero=>intro x hx;exact hcm x b (Zy hx)
  | succ k ih =>
   intro x hx;obtain ⟨y,_,_,y3,y4⟩:=Yu hx;have:=hcm x y y3;have:=ih y y4;omega
 cases hd:D (cmC C) n b b with
 | zero=>rfl
 | succ k=>have:=key k b hd;omega
theorem Um {cm:Int→Int→Bool} {n:Nat}:∀ (m:Nat) (b:Int) (U:Int→Prop),(n:Int) - b=m→0≤b→(∃ x,U x)→(∀ x,U x→b≤x∧x < n)→(∀ x,U x→∃ y,U y∧cm y x=true)→∃ b:Int,0≤b∧b < n∧D cm n b b≠0
 | 0,b,U,hm,hb,⟨x,hx⟩,hr,_=>by have:=hr x hx;omega
 | m+1,b,U,hm,hb,⟨x,hx⟩,hr,hp=>by
  have hbn:b < n:=by omega
  by_cases hU:U b
  ·by_cases hD:D cm n b b≠0
   ·exact ⟨b,hb,hbn,hD⟩
   ·have hD0:=aI.1 hD;refine Um m (b+1) (fun x=>U x∧D cm n b x≠0) (by omega) (by omega) ?_ (fun x hx=>?_) (fun x hx=>?_)
    ·obtain ⟨y,y1,y2⟩:=hp b hU;obtain ⟨g1,g2⟩:=hr y y1;exact ⟨y,y1,by rw [aa6 hb hbn g1 g2 y2];omega⟩
    ·obtain ⟨g1,g2⟩:=hr x hx.1;have:x≠b:=fun e=>hx.2 (e ▸ hD0)
     omega
    ·obtain ⟨y,y1,y2⟩:=hp x hx.1;obtain ⟨g1,g2⟩:=hr x hx.1;obtain ⟨g3,g4⟩:=hr y y1;have hne:x≠b:=fun e=>hx.2 (e ▸ hD0)
     exact ⟨y,⟨y1,(TC hb hbn g3 g4 (by omega) g2 y2 hx.2).1⟩,y2⟩
  ·refine Um m (b+1) U (by omega) (by omega) ⟨x,hx⟩ (fun z hz=>?_) hp;have:=hr z hz;have:z≠b:=fun e=>hU (e ▸ hz)
   omega
theorem WQ (p:Nat→Bool) (k i:Nat) (h:BO p i k < 0) (j:Nat) (h1:i≤j) (h2:j < i+k):p j=false:=by
 refine gV fun q=>?_
 have:=(Ig p k i ⟨j,h1,h2,q⟩).1;omega
theorem Oe {n:Nat} {C:List ai}:∀ (k:Nat) (out:List Int),FP n C k out=none→out.Nodup→(∀ x,x∈out→0≤x∧x < n)→out.length+k=n→∃ o:List Int,o.length < n∧nxt n C o < 0
 | 0,out,h,_,_,_=>by rw [FP] at h;cases h
 | k+1,out,h,h1,h2,h3=>by
  rw [FP] at h;split at h
  ·rename_i q;exact ⟨out,by omega,q⟩
  ·rename_i hx
   obtain ⟨n0,n1,n2,n3⟩:=DN hx;refine Oe k _ h ?_ (fun x hx=>?_) (by simp;omega)
   ·rw [List.nodup_append];refine ⟨h1,by simp,fun a ha b hb=>?_⟩;simp only [eY] at hb;intro e;rw [e,hb] at ha;exact n2 ha
   ·rcases aP.1 hx with q | q
    ·exact h2 x q
    ·simp only [eY] at q;omega
theorem Tt {n:Nat} {C:List ai} (hin:inC n C) (h:FP n C n []=none):∃ b:Int,0≤b∧b < n∧D (cmC C) n b b≠0:=by
 obtain ⟨o,o1,o2⟩:=Oe n [] h (by simp) (by simp) (by simp);refine Um n 0 (fun x=>(0≤x∧x < n)∧x∉o) (by omega) (by omega) ?_ (fun x hx=>hx.1) (fun x hx=>?_)
 ·refine iG fun q=>?_
  have hall:∀ x,x∈uf n→x∈o:=by
   intro x hx;refine iG fun r=>q ⟨x,nN.1 hx,r⟩
  have:=yR (Oi n) hall (by rw [oG];omega);have:=this.length_eq;rw [oG] at this;omega
 ·have hf:free C o x.toNat=false:=WQ _ n 0 o2 x.toNat (by omega) (by omega);have ex:((x.toNat:Nat):Int)=x:=by omega
  unfold free at hf;rw [ex] at hf;have hx2:o.contains x=false:=by simpa using hx.2
  rw [hx2] at hf;simp only [mf,iK] at hf;rw [List.all_eq_false] at hf;obtain ⟨c,hc,hc2⟩:=hf;simp only [jK,bne_iff_ne,not_or] at hc2;have hw:c.Writer=x:=aI.1 hc2.1;have hr:c.Reader∉o:=by simpa using hc2.2
  refine ⟨c.Reader,⟨(hin c hc).2.1,hr⟩,?_⟩;unfold cmC;rw [gY];exact ⟨c,hc,by simp [hw]⟩
theorem Dv {a:List Int} (h:a.length < 16777216):pG a a=some true:=by rw [PM h h];simp
theorem WB {cm:Int→Int→Bool} {n:Nat} {b:Int}:(O4 cm n b).length≤n:=by
 unfold O4;split
 ·simp
 ·rw [DT];have:=En (cm:=cm) (n:=n) (b:=b) n b;unfold D at *
  omega
theorem YF (n:Nat) (C:List ai):(cyc n C).length≤n:=by
 have key:∀ (xs:List Int) (best:List Int),best.length≤n→(xs.foldl (fun best b=>bst best (O4 (cmC C) n b)) best).length≤n:=by
  intro xs
  induction xs with
  | nil=>intro best h;exact h
  | cons x xs ih =>
   intro best h;rw [dY];refine ih _ ?_;unfold bst;split
   ·exact WB
   ·exact h
 exact key _ [] (by simp)
theorem BF (l:List ah) (s:aC):pq l s=some true:=by
 unfold pq;rw [YB,ZT];simp only [ae,dh,aj];by_cases hf:few l=true
 ·simp only [hf,dh,aj,TW,ae];by_cases hb:xe s=true
  ·simp only [hb,dh,aj,Np hf,O9 hb,ae,Uh hf hb,Ov hf hb,RX hf hb,FU hf hb];by_cases h:opE l s=0
   ·have A:=asg hb h;have hn:nC l s≤60:=A.n60;have hcl:=zM A;have hci:=CZ l s;have hcy:=YF (nC l s) (wY l s);simp only [h,aG,dh,aj,I8 hf hb h,ae,XE hcl];rw [show ((sS l s).Offsets.length:Int)=(nC l s:Int) from rfl,Ja hn hcl];cases hr:FP (nC l s) (wY l s) (nC l s) [] with
    | none =>
     obtain ⟨b,b0,b1,b2⟩:=Tt hci hr;have hc:cyc (nC l s) (wY l s)≠[]:=fun q=>b2 (Un.1 q b b0 b1)
     simp only [ae,hc,aj];rw [if_neg (by simp)];rw [Dv (by simp)];simp only [ae,dh,aj];rw [I9 hn hcl];simp only [ae];rw [Dv (by omega)];rfl
    | some r =>
     have hc:cyc (nC l s) (wY l s)=[]:=Un.2 (Xr hci hr);obtain ⟨p1,_⟩:=Oc hr;have hrl:r.length≤60:=by rw [p1.length_eq,oG];exact hn
     simp only [ae,hc,aG];rw [if_neg (by simp)];rw [Dv (by omega)];simp only [ae,dh,aj];rw [I9 hn hcl,hc];simp only [ae];rw [Dv (by simp)];rfl
   ·have hz:w (w (0+0)+0)=0:=rfl;simp only [h,aj,aU,aG,jy,Int.natCast_zero,hz,kK,Bool.and_self]
  ·simp [hb]
 ·simp [hf]
end Go.Sh
