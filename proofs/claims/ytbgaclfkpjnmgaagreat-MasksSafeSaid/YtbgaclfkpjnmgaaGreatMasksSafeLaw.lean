/- What the functions compute answers as the statement says. -/
import Derived.Test.YtbgaclfkpjnmgaaGreatMasksSafeSh
set_option linter.all false
namespace Go.Sh
open Go.Lx
set_option linter.unusedVariables false
set_option linter.unusedSimpArgs false
theorem iM {i n:Nat} (h:i < n):((i:Int) < (n:Int))=True:=eq_true (by omega)
theorem di (n:Nat):((n:Int) < (n:Int))=False:=eq_false (by omega)
theorem J6 {p:List ai} (h:p.length≤16777216):qi p=some p:=by
 unfold qi;rw [JU h];rfl
theorem ui {p:List Int} (h:p.length≤16777216):lQ p=some p:=by
 unfold lQ;rw [Ws h];simp [QN]
theorem Ji {p:List ai} (h:p.length < 16777216):jG p=some (p.map bg):=by
 unfold jG;rw [vC p bg (fun i b=>(i,b)) (fun b=>b) rfl ?_ ?_ (by omega)]
 ·rfl
 ·intro i hi b hb;simp only [jG.s1,iM hi,aF,jk hi,ae];rw [kM (by omega),wn (by omega)];rfl
 ·intro b;simp only [jG.s1,di,ax]
theorem Dh {p:List ai} (h:p.length < 16777216):jL p=some (p.map bg):=by
 unfold jL;rw [vC p bg (fun i b=>(i,b)) (fun b=>b) rfl ?_ ?_ (by omega)]
 ·rfl
 ·intro i hi b hb;simp only [jL.s1,iM hi,aF,jk hi,ae];rw [kM (by omega),wn (by omega)];rfl
 ·intro b;simp only [jL.s1,di,ax]
theorem TW (p:List Int) (v:Int) (h:p.length < 16777216):∃ k:Nat,slices_Index_int p v=some (if p.any (fun x=>v==x)=true then (k:Int) else -1):=by
 unfold slices_Index_int;obtain ⟨k,hk⟩:=wH (step:=slices_Index_int.s1 p v) p (fun x=>v==x) (fun i=>Sum.inr i) (Sum.inl ()) (s:=0) rfl (fun i hi=>by
  simp only [slices_Index_int.s1,iM hi,aF,jk hi,ae];by_cases e:v=p[i]
  ·simp [e]
  ·simp only [e,ax,kF];rw [wn (by omega)]) (by simp only [slices_Index_int.s1,di,ax]) (by omega)
 refine ⟨k,?_⟩;rw [hk];by_cases e:p.any (fun x=>v==x)=true
 ·rw [if_pos e,if_pos e];rfl
 ·rw [if_neg e,if_neg e];rfl
theorem Og {p:List Int} {v:Int} (h:p.length < 16777216):slices_Contains_int p v=some (p.any (fun x=>v==x)):=by
 unfold slices_Contains_int;obtain ⟨k,hk⟩:=TW p v h;rw [hk];by_cases e:p.any (fun x=>v==x)=true
 ·rw [if_pos e,e];simp
 ·rw [if_neg e,ja e];rfl
def YM (xs:List Int):Int:=xs.foldl (fun a x=>mn (w (a * mn x 513)) 513) 1
def lh (xs:List Int):Int:=if xs.any (fun x=>0==x)=true then 0 else YM xs
theorem Jz {p:List Int} (h:p.length < 16777216):jH p=some (lh p):=by
 unfold jH;rw [lZ (step:=jH.s1 p) p (fun i b=>(b,i)) (fun b=>b) (fun a x=>mn (w (a * mn x 513)) 513) (fun _ _=>True) (a:=1) rfl ?_ ?_ trivial (by omega)]
 ·simp only [ae,Og h];unfold lh YM;split<;>rfl
 ·intro i hi b _;refine ⟨?_,trivial⟩;simp only [jH.s1,iM hi,aF,jk hi,ae];rw [wn (by omega)]
 ·intro b _;simp only [jH.s1,di,ax]
theorem NJ:∀ (xs:List Int) (i:Nat) (a:Int),gV (ρ:=Unit) (fun _ (b:Int) x=>if x=0 then .inl () else .inr (mn (w (b * mn x 513)) 513)) i xs a=(if xs.any (fun x=>0==x)=true then .inl () else .inr (xs.foldl (fun a x=>mn (w (a * mn x 513)) 513) a))
 | [],i,a=>rfl
 | x::xs,i,a=>by
  simp only [gV,List.any_cons,dM];by_cases e:x=0
  ·subst e;simp
  ·have e':(0==x)=false:=by simp;exact fun q=>e q.symm
   simp only [e,ax,e',Bool.false_or];exact NJ xs (i+1) _
theorem yG {p:List Int} (h:p.length < 16777216):jM p=some (lh p):=by
 unfold jM;rw [jV (step:=jM.s1 p) p (fun i b=>(b,i)) (fun (_:Unit)=>Sum.inr 0) (fun b=>Sum.inl b) (fun _ (b:Int) x=>if x=0 then .inl () else .inr (mn (w (b * mn x 513)) 513)) (fun _ _=>True) (a:=1) rfl ?_ ?_ trivial (by omega)]
 ·rw [NJ];unfold lh YM;by_cases e:p.any (fun x=>0==x)=true
  ·simp only [e,aF];rfl
  ·simp only [e,ax];rfl
 ·intro i hi b _;refine ⟨?_,fun _ _=>trivial⟩;simp only [jM.s1,iM hi,aF,jk hi,ae];by_cases e:p[i]=0
  ·simp only [e,aF]
  ·simp only [e,ax];rw [wn (by omega)]
 ·intro b _;simp only [jM.s1,di,ax]
def num (b:ai):Bool:=bF b.Low&&bF b.High
def JW (p:List ai):Int:=if (p.length:Int) > 7 then 32 else if p.any (fun b=>!num b)=true then 2 else if p.any (fun b=>decide (bg b > 512))=true then 8 else if lh (p.map bg) > 512 then 8 else 0
theorem Dn (a b c:Int):fA a b c=bz a b c:=by
 unfold fA bz;simp only [Bool.not_or,← decide_not]
 congr 1<;>exact decide_eq_decide.2 (by omega)
theorem uC {α ρ:Type} {p:α→Bool} {c:ρ}:∀ xs:List α,xs.findSome? (fun x=>if p x=true then some c else none)=if xs.any p=true then some c else none
 | []=>rfl
 | x::xs=>by
  simp only [List.findSome?_cons,List.any_cons];by_cases e:p x=true
  ·simp [e]
  ·simp only [e,ax,Bool.false_or];exact uC xs
theorem SS (b:Bool) (c:Int):gZ [aK.mk b c]=some (if b=true then 0 else c):=by
 unfold gZ;rw [oV (step:=gZ.s1 [aK.mk b c]) [aK.mk b c] (fun r=>if r.holds=true then none else some r.code) (fun c=>Sum.inr c) (Sum.inl ()) rfl ?_ ?_ (by simp)]
 ·cases b<;>rfl
 ·intro i hi;simp only [gZ.s1,iM hi,aF,jk hi,ae];have:i=0:=by simpa using hi
  subst this;cases b<;>simp [w,IntKind.wrap]<;>rfl
 ·rfl
theorem TU (p:List ai) (h:p.length < 16777216):eU p=some (p.any (fun b=>!num b)):=by
 unfold eU bI;obtain ⟨k,hk⟩:=wH (step:=bI.s1 p) p (fun b=>!num b) (fun i=>Sum.inr i) (Sum.inl ()) (s:=0) rfl (fun i hi=>by
  simp only [bI.s1,iM hi,aF,jk hi,ae];have:lK p[i]=!num p[i]:=by unfold lK num;simp
  rw [this,wn (by omega)];split<;>rfl) (by simp only [bI.s1,di,ax]) (by omega)
 rw [hk];by_cases e:p.any (fun b=>!num b)=true
 ·rw [if_pos e,e];simp
 ·rw [if_neg e,ja e];rfl
theorem TV (p:List ai) (h:p.length < 16777216):eX p=some (p.any (fun b=>decide (bg b > 512))):=by
 unfold eX bJ;obtain ⟨k,hk⟩:=wH (step:=bJ.s1 p) p (fun b=>decide (bg b > 512)) (fun i=>Sum.inr i) (Sum.inl ()) (s:=0) rfl (fun i hi=>by
  simp only [bJ.s1,iM hi,aF,jk hi,ae];unfold nP;rw [wn (by omega)];split<;>rfl) (by simp only [bJ.s1,di,ax]) (by omega)
 rw [hk];by_cases e:p.any (fun b=>decide (bg b > 512))=true
 ·rw [if_pos e,e];simp
 ·rw [if_neg e,ja e];rfl
theorem size_eq {p:List ai} (h:p.length < 16777216):uy p=some (lh (p.map bg)):=by
 unfold uy;rw [Ji h];simp only [ae];rw [Jz (by simpa using h)];rfl
theorem Et (p:List ai):og p=some (JW p):=by
 unfold og JW;by_cases h7:(p.length:Int) > 7
 ·simp only [h7,aF]
 ·have h:p.length < 16777216:=by omega
  simp only [h7,ax,TU p h,TV p h,size_eq h,SS,ae];by_cases e1:p.any (fun b=>!num b)=true
  ·simp only [e1,aF]
  ·simp only [e1,ax];by_cases e2:p.any (fun b=>decide (bg b > 512))=true
   ·simp [e2]
   ·simp only [e2,ax];by_cases e3:lh (p.map bg) > 512
    ·have:¬ lh (p.map bg)≤512:=by omega
     simp [e3,this]
    ·have:lh (p.map bg)≤512:=by omega
     simp [e3,this]
theorem zQ (p:List ai):fV p=some (JW p):=by
 unfold fV JW;by_cases h7:(p.length:Int) > 7
 ·simp only [h7,aF]
 ·have h:p.length < 16777216:=by omega
  simp only [h7,ax,Dh h,ae];rw [oV (step:=fV.s1 p) p (fun b=>if (!num b)=true then some (2:Int) else none) (fun c=>Sum.inr c) (Sum.inl ()) rfl ?_ ?_ (by omega),uC]
  ·by_cases e1:p.any (fun b=>!num b)=true
   ·simp only [e1,aF,ae]
   ·simp only [e1,ax,ae];rw [oV (step:=fV.s2 (p.map bg)) (p.map bg) (fun x=>if (decide (x > 512))=true then some (8:Int) else none) (fun c=>Sum.inr c) (Sum.inl ()) rfl ?_ ?_ (by simp;omega),uC,List.any_map]
    ·by_cases e2:p.any (fun b=>decide (bg b > 512))=true
     ·have e2':p.any ((fun x=>decide (x > 512)) ∘ bg)=true:=e2;simp only [e2,e2',aF,ae,aG,ax]
     ·have e2':¬ p.any ((fun x=>decide (x > 512)) ∘ bg)=true:=e2;simp only [e2,e2',ax,ae,aG];rw [yG (by simpa using h)];simp only [ae];split<;>rfl
    ·intro i hi;simp only [fV.s2,iM hi,aF,jk hi,ae];by_cases e:(p.map bg)[i] > 512
     ·simp only [e,aF,decide_true]
     ·simp only [e,ax,decide_false,aG];rw [wn (by simp at hi;omega)]
    ·simp only [fV.s2,di,ax]
  ·intro i hi;simp only [fV.s1,iM hi,aF,jk hi,ae,dY,Dn,num,bF];rw [wn (by omega)];by_cases e1:bz p[i].Low (-2147483647) 2147483647=true
   ·by_cases e2:bz p[i].High (-2147483647) 2147483647=true
    ·simp [e1,e2]
    ·simp [e1,e2]
   ·simp [e1]
  ·simp only [fV.s1,di,ax]
set_option linter.unusedVariables false
set_option linter.unusedSimpArgs false
theorem LK:∀ (n:Nat) (a b:List Int),a.length < n→n≤16777217→b.length < 16777216→∃ r,eY.N n a b=some r∧(r=true→a≠b)
 | 0,a,b,h,_,_=>absurd h (Nat.not_lt_zero _)
 | n+1,a,b,h,hn,hb=>by
  show ∃ r,eY.F (eY.N n) a b=some r∧_
  unfold eY.F
  match a,b with
  | [],b=>exact ⟨_,rfl,fun h=>by simp at h;intro q;subst q;simp at h⟩
  | x::a,[]=>exact ⟨_,rfl,fun h=>by simp at h;omega⟩
  | x::a,y::b =>
   have e0:¬ ((((x::a).length:Int)==0) || (((y::b).length:Int)==0))=true:=by simp;omega
   have c1:cut (x::a) 1 ((x::a).length:Int)=some a:=by unfold cut;rw [if_pos (by simp;omega)];simp
   have c2:cut (y::b) 1 ((y::b).length:Int)=some b:=by unfold cut;rw [if_pos (by simp;omega)];simp
   have a1:at_ (x::a) 0=some x:=rfl;have a2:at_ (y::b) 0=some y:=rfl;rw [if_neg e0];simp only [a1,a2,ae];by_cases h1:x < y
   ·exact ⟨true,by simp [h1],fun _ q=>by simp at q;omega⟩
   ·by_cases h2:x=y
    ·obtain ⟨r,h3,h4⟩:=LK n a b (by simp at h;omega) (by omega) (by simp at hb;omega);refine ⟨r,?_,fun hr q=>h4 hr (by simp at q;exact q.2)⟩;subst h2;rw [if_neg h1,if_pos rfl,c1,c2];simp only [ae,h3]
    ·exact ⟨false,by simp [h1,h2],fun q=>by cases q⟩
theorem Jf:∀ (n m:Nat) (a b:List Int),eY.N n a b=some false→eY.N m b a=some false→a.length=b.length→a=b
 | 0,m,a,b,h,_,_=>by cases h
 | n+1,0,a,b,_,h,_=>by cases h
 | n+1,m+1,a,b,h,k,hl=>by
  change eY.F (eY.N n) a b=some false at h;change eY.F (eY.N m) b a=some false at k;unfold eY.F at h k
  match a,b,hl with
  | [],[],_=>rfl
  | x::a,y::b,hl =>
   have e0:¬ ((((x::a).length:Int)==0) || (((y::b).length:Int)==0))=true:=by simp;omega
   have e1:¬ ((((y::b).length:Int)==0) || (((x::a).length:Int)==0))=true:=by simp;omega
   have c1:cut (x::a) 1 ((x::a).length:Int)=some a:=by unfold cut;rw [if_pos (by simp;omega)];simp
   have c2:cut (y::b) 1 ((y::b).length:Int)=some b:=by unfold cut;rw [if_pos (by simp;omega)];simp
   have a1:at_ (x::a) 0=some x:=rfl;have a2:at_ (y::b) 0=some y:=rfl;rw [if_neg e0] at h;rw [if_neg e1] at k;simp only [a1,a2,ae,c1,c2] at h k;by_cases h1:x < y
   ·simp [h1] at h
   ·by_cases h2:y < x
    ·simp [h2] at k
    ·have h3:x=y:=by omega
     subst h3;simp only [h1,ax,aF] at h k;obtain ⟨r,hr,h⟩:=fG.1 h;obtain ⟨r',hr',k⟩:=fG.1 k;cases h;cases k;rw [Jf n m a b hr hr' (by simpa using hl)]
theorem OH {a b:List Int} (ha:a.length < 16777216) (hb:b.length < 16777216):qC a b=some (a==b):=by
 unfold qC;have hF:(16777217:Nat)≤FUEL:=by unfold FUEL;omega
 have step:∀ (n:Nat) (a b:List Int) (r:Bool),eY.N n a b=some r→eY.N (n+1) a b=some r:=by
  intro n
  induction n with
  | zero=>intro a b r h;cases h
  | succ n ih =>
   intro a b r h;change eY.F (eY.N n) a b=some r at h
   show eY.F (eY.N (n+1)) a b=some r
   unfold eY.F at h ⊢;split
   ·rename_i hc;rw [if_pos hc] at h;exact h
   ·rename_i hc
    rw [if_neg hc] at h;obtain ⟨x4,h4,h⟩:=fG.1 h;obtain ⟨x5,h5,h⟩:=fG.1 h;rw [h4,h5];simp only [ae];split
    ·rename_i hd;rw [if_pos hd] at h;exact h
    ·rename_i hd
     rw [if_neg hd] at h;rw [h4,h5] at h;simp only [ae] at h ⊢;split
     ·rename_i he
      rw [if_pos he] at h;obtain ⟨x6,h6,h⟩:=fG.1 h;obtain ⟨x7,h7,h⟩:=fG.1 h;obtain ⟨x8,h8,h⟩:=fG.1 h;rw [h6,h7];simp only [ae];rw [ih _ _ _ h8];exact h
     ·rename_i he;rw [if_neg he] at h;exact h
 have up:∀ (n m:Nat) (a b:List Int) (r:Bool),n≤m→eY.N n a b=some r→eY.N m a b=some r:=by
  intro n m a b r hnm h
  induction hnm with
  | refl=>exact h
  | step _ ih=>exact step _ _ _ _ ih
 have get:∀ a b:List Int,a.length < 16777216→b.length < 16777216→∃ r,eY a b=some r∧(r=true→a≠b):=by
  intro a b ha hb;obtain ⟨r,h1,h2⟩:=LK 16777217 a b (by omega) (aZ _) hb;exact ⟨r,up _ _ _ _ _ hF h1,h2⟩
 by_cases hl:(a.length:Int)=(b.length:Int)
 ·rw [if_pos hl];obtain ⟨r,h1,h2⟩:=get a b ha hb;obtain ⟨r',h3,h4⟩:=get b a hb ha;rw [h1,h3];simp only [ae];cases r with
  | true=>simp;exact h2 rfl
  | false =>
   cases r' with
   | true=>simp;exact fun q=>h4 rfl q.symm
   | false=>simp;exact Jf _ _ _ _ h1 h3 (by omega)
 ·rw [if_neg hl];have:a≠b:=fun q=>hl (by rw [q])
  simp [this]
set_option linter.unusedVariables false
set_option linter.unusedSimpArgs false
def P:List Int→Int
 | []=>1
 | x::xs=>x * P xs
def H:List Int→List Int→Int
 | e::es,d::ds=>d+e * H es ds
 | _,_=>0
def dig:List Int→Int→List Int
 | [],_=>[]
 | e::es,n=>n % e::dig es (n / e)
def inBase:List Int→List Int→Prop
 | e::es,d::ds=>0≤d∧d < e∧inBase es ds
 | [],[]=>True
 | _,_=>False
theorem QG:∀ {es:List Int},(∀ e,e∈es→1≤e)→1≤P es
 | [],_=>Int.le_refl 1
 | e::es,h=>by
  have h1:=h e (.head _);have h2:=QG (es:=es) fun x hx=>h x (.tail _ hx)
  have:=Int.mul_le_mul h1 h2 (by omega) (by omega);simpa [P] using this
theorem YC {e:Int} {es:List Int} (h:∀ x,x∈e::es→1≤x):P es≤P (e::es):=by
 have h1:=h e (.head _);have h2:=QG (es:=es) fun x hx=>h x (.tail _ hx)
 have:=Int.mul_le_mul h1 (Int.le_refl (P es)) (by omega) (by omega);simpa [P] using this
theorem DL:∀ {es ds:List Int},inBase es ds→∀ e,e∈es→1≤e
 | [],_,_,e,h=>by cases h
 | e::es,[],h,_,_=>by cases h
 | e::es,d::ds,⟨h1,h2,h3⟩,x,hx=>by
  cases hx with
  | head=>omega
  | tail _ hx=>exact DL h3 x hx
theorem JL:∀ {es ds:List Int},inBase es ds→0≤H es ds∧H es ds < P es
 | [],[],_=>by simp [H,P]
 | [],_::_,h=>by cases h
 | e::es,[],h=>by cases h
 | e::es,d::ds,⟨h1,h2,h3⟩=>by
  obtain ⟨i1,i2⟩:=JL h3;have a1:0≤e * H es ds:=Int.mul_nonneg (by omega) i1;have a2:e * H es ds≤e * (P es - 1):=jg (by omega) (by omega);rw [Int.mul_sub,Int.mul_one] at a2;simp only [H,P];omega
theorem Xf:∀ {es:List Int} {n:Int},(∀ e,e∈es→1≤e)→0≤n→n < P es→inBase es (dig es n)∧H es (dig es n)=n
 | [],n,_,h1,h2=>by simp [P] at h2;simp [inBase,dig,H];omega
 | e::es,n,h,h1,h2=>by
  have he:=h e (.head _);have g1:0≤n / e:=Int.ediv_nonneg h1 (by omega);have g2:n / e < P es:=Int.ediv_lt_of_lt_mul (by omega) (by simp only [P] at h2;rw [Int.mul_comm];exact h2);obtain ⟨i1,i2⟩:=Xf (es:=es) (fun x hx=>h x (.tail _ hx)) g1 g2;refine ⟨⟨Int.emod_nonneg _ (by omega),Int.emod_lt_of_pos _ (by omega),i1⟩,?_⟩;simp only [dig,H,i2];exact Int.emod_add_mul_ediv n e
theorem Tn:∀ (es:List Int) (n:Int),(dig es n).length=es.length
 | [],n=>rfl
 | e::es,n=>by simp [dig,Tn es]
theorem Sr:∀ {es:List Int},(∃ e,e∈es∧e=0)→P es=0
 | [],h=>by obtain ⟨e,h,_⟩:=h;cases h
 | e::es,h=>by
  obtain ⟨x,hx,rfl⟩:=h;cases hx with
  | head=>simp [P]
  | tail _ hx=>rw [P,Sr ⟨0,hx,rfl⟩];simp
theorem min_mul {a b m:Int} (ha:1≤a) (hb:1≤b) (hm:0≤m):min (min a m * b) m=min (a * b) m:=by
 rcases Int.le_total a m with h | h
 ·rw [Int.min_eq_left h]
 ·rw [Int.min_eq_right h];have h1:m * 1≤m * b:=jg hb hm;have h2:m * b≤a * b:=Int.mul_le_mul_of_nonneg_right h (by omega);omega
theorem Oa:∀ {xs:List Int} {a:Int},(∀ x,x∈xs→1≤x∧x≤512)→1≤a→a≤513→xs.foldl (fun a x=>mn (w (a * mn x 513)) 513) a=min (a * P xs) 513
 | [],a,_,h1,h2=>by simp [P];omega
 | x::xs,a,h,h1,h2=>by
  obtain ⟨g1,g2⟩:=h x (.head _);have m1:mn x 513=x:=by unfold mn;rw [if_neg (by omega)]
  have b1:1 * 1≤a * x:=Int.mul_le_mul h1 g1 (by omega) (by omega);have b2:a * x≤513 * 512:=Int.mul_le_mul h2 g2 (by omega) (by omega);have m2:mn (w (a * x)) 513=min (a * x) 513:=by
   rw [yK (by omega) (by omega)];unfold mn;split<;>omega
  rw [dM,m1,m2,Oa (fun y hy=>h y (.tail _ hy)) (by omega) (by omega)];have hp:=QG (es:=xs) fun y hy=>(h y (.tail _ hy)).1
  rw [min_mul (by omega) hp (by omega),P,Int.mul_assoc]
structure Ok (p:List ai):Prop where
 len:p.length≤7
 num:∀ b,b∈p→num b=true
 big:∀ b,b∈p→bg b≤512
 pos:∀ b,b∈p→0≤bg b
 sz:lh (p.map bg)≤512
theorem QT (b:ai):0≤bg b:=by unfold bg mx;split<;>omega
theorem zn {p:List ai} (h:JW p=0):Ok p:=by
 unfold JW at h;split at h
 ·cases h
 split at h
 ·cases h
 split at h
 ·cases h
 split at h
 ·cases h
 rename_i h1 h2 h3 h4
 refine ⟨by omega,fun b hb=>?_,fun b hb=>?_,fun b _=>QT b,by omega⟩
 ·simp only [ku,not_exists,not_and,Bool.not_eq_true',Bool.not_eq_false] at h2;exact h2 b hb
 ·simp only [ku,not_exists,not_and,iW] at h3;have:=h3 b hb;omega
theorem Nk {b:ai} (h:num b=true) : -2147483647≤b.Low∧b.Low≤2147483647 ∧ -2147483647≤b.High∧b.High≤2147483647:=by
 simp [num,bF,bz] at h;omega
theorem XL {b:ai} (h:num b=true):bg b=max 0 (b.High - b.Low+1):=by
 have:=Nk h;unfold bg mx;rw [yK (n:=b.High - b.Low) (by omega) (by omega),yK (by omega) (by omega)];split<;>omega
theorem OV {xs:List Int} (h:∀ x,x∈xs→0≤x∧x≤512) (hs:lh xs≤512):lh xs=P xs∧0≤P xs:=by
 unfold lh at hs ⊢;by_cases h0:xs.any (fun x=>0==x)=true
 ·rw [if_pos h0];have:P xs=0:=Sr (by
   simp only [ku,kF] at h0;obtain ⟨x,h1,h2⟩:=h0;exact ⟨x,h1,h2.symm⟩)
  omega
 ·rw [if_neg h0] at hs ⊢;have hx:∀ x,x∈xs→1≤x∧x≤512:=fun x hx=>by
   obtain ⟨h1,h2⟩:=h x hx;simp only [ku,not_exists,not_and,kF] at h0;have:=h0 x hx;omega
  have:=Oa (a:=1) hx (by omega) (by omega);unfold YM at hs ⊢;have hp:=QG fun x hq=>(hx x hq).1
  omega
theorem Ok.size {p:List ai} (h:Ok p):lh (p.map bg)=P (p.map bg)∧0≤P (p.map bg)∧P (p.map bg)≤512:=by
 have:=OV (xs:=p.map bg) (fun x hx=>by
  obtain ⟨b,hb,rfl⟩:=iC.1 hx;exact ⟨h.pos b hb,h.big b hb⟩) h.sz
 have hs:=h.sz;omega
def allIn:List ai→List Int→Bool
 | b::bs,x::xs=>bz x b.Low b.High&&allIn bs xs
 | _,_=>true
def VJ (bs:List ai) (xs:List Int):List Int:=(xs.zip bs).map fun p=>w (p.1 - p.2.Low)
def exs (bs:List ai):List Int:=bs.map bg
theorem VN {b:ai} {bs:List ai}:exs (b::bs)=bg b::exs bs:=rfl
theorem Tt {b:ai} {bs:List ai} {x:Int} {xs:List Int}:VJ (b::bs) (x::xs)=w (x - b.Low)::VJ bs xs:=rfl
theorem P5 {b:ai} {x:Int} (hn:num b=true) (h:bz x b.Low b.High=true):w (x - b.Low)=x - b.Low∧0≤x - b.Low∧x - b.Low < bg b:=by
 have:=Nk hn;have he:=XL hn;simp [bz] at h;refine ⟨yK (by omega) (by omega),by omega,by omega⟩
theorem zY:∀ {bs:List ai} {xs:List Int},bs.length=xs.length→(∀ b,b∈bs→num b=true)→allIn bs xs=true→inBase (exs bs) (VJ bs xs)
 | [],[],_,_,_=>trivial
 | b::bs,x::xs,hl,hn,h=>by
  simp only [allIn,bn] at h;obtain ⟨h1,h2,h3⟩:=P5 (hn b (.head _)) h.1;refine ⟨by show 0≤w (x - b.Low);rw [h1];exact h2,by show w (x - b.Low) < _;rw [h1];exact h3,zY (by simpa using hl) (fun c hc=>hn c (.tail _ hc)) h.2⟩
 | [],_::_,hl,_,_=>by cases hl
 | _::_,[],hl,_,_=>by cases hl
def str:Int→List Int→List Int
 | _,[]=>[]
 | s,e::es=>s::str (w (s * e)) es
theorem Po:∀ (es:List Int) (s:Int),(str s es).length=es.length
 | [],s=>rfl
 | e::es,s=>by simp [str,Po es]
theorem QC:∀ (es:List Int) (s:Int) (acc:List Int),(es.foldl (fun (b:Int×List Int) e=>(w (b.1 * e),b.2++[b.1])) (s,acc)).2=acc++str s es
 | [],s,acc=>by simp [str]
 | e::es,s,acc=>by rw [dM,QC es];simp [str]
theorem RP {p:List Int} (h:p.length < 16777216):jX p=some (str 1 p):=by
 unfold jX;rw [lZ (step:=jX.s1 p) p (fun i (b:Int×List Int)=>(b.1,i,b.2)) (fun b=>b.2) (fun b e=>(w (b.1 * e),b.2++[b.1])) (fun i b=>b.2.length=i) (a:=(1,[])) rfl ?_ ?_ rfl (by omega)]
 ·simp only [ae];rw [QC];rfl
 ·intro i hi b hb;refine ⟨?_,by simp [hb]⟩;simp only [jX.s1,iM hi,aF,jk hi,ae];rw [kM (by omega),wn (by omega)];rfl
 ·intro b _;simp only [jX.s1,di,ax]
def Wx (_:Nat) (a:Int) (t:Int×ai×Int):Sum Unit Int:=if bz t.1 t.2.1.Low t.2.1.High=true then .inr (w (a+w (t.2.2 * w (t.1 - t.2.1.Low)))) else .inl ()
theorem Qu:∀ (bs:List ai) (xs:List Int) (s a:Int) (i:Nat),bs.length=xs.length→(∀ b,b∈bs→num b=true) →
  (allIn bs xs=false→gV Wx i (xs.zip (bs.zip (str s (exs bs)))) a = .inl ()) ∧
  (allIn bs xs=true→1≤s→s * P (exs bs)≤512→0≤a→a+512 * bs.length≤5000→gV Wx i (xs.zip (bs.zip (str s (exs bs)))) a = .inr (a+s * H (exs bs) (VJ bs xs)))
 | [],[],s,a,i,_,_=>⟨fun h=>(by cases h),fun _ _ _ _ _=>by simp [gV,exs,VJ,H]⟩
 | [],_::_,_,_,_,hl,_=>by cases hl
 | _::_,[],_,_,_,hl,_=>by cases hl
 | b::bs,x::xs,s,a,i,hl,hn=>by
  have ih:=fun s a=>Qu bs xs s a (i+1) (by simpa using hl) (fun c hc=>hn c (.tail _ hc))
  simp only [VN,str,List.zip_cons_cons,gV];by_cases hi:bz x b.Low b.High=true
  ·have hf:Wx i a (x,b,s) = .inr (w (a+w (s * w (x - b.Low)))):=by unfold Wx;rw [if_pos hi]
   rw [hf];refine ⟨fun h=>(ih _ _).1 (by simpa [allIn,hi] using h),fun h h1 h2 h3 h4=>?_⟩;have ha:allIn bs xs=true:=by simpa [allIn,hi] using h
   obtain ⟨d1,d2,d3⟩:=P5 (hn b (.head _)) hi;have hb:=zY (by simpa using hl) (fun c hc=>hn c (.tail _ hc)) ha;have hp:1≤P (exs bs):=QG (DL hb);have e0:s * P (bg b::exs bs)=s * bg b * P (exs bs):=by simp [P,Int.mul_assoc]
   have e1:1 * 1≤s * bg b:=Int.mul_le_mul h1 (by omega) (by omega) (by omega);have e2:s * bg b * 1≤s * bg b * P (exs bs):=jg hp (by omega);have e3:s * (x - b.Low)≤s * bg b:=jg (by omega) (by omega);have e4:0≤s * (x - b.Low):=Int.mul_nonneg (by omega) d2;rw [e0] at h2;simp only [fE] at h4;have w1:w (s * bg b)=s * bg b:=yK (by omega) (by omega);have w2:w (s * w (x - b.Low))=s * (x - b.Low):=by rw [d1];exact yK (by omega) (by omega)
   have w3:w (a+s * (x - b.Low))=a+s * (x - b.Low):=yK (by omega) (by omega);simp only [w1,w2,w3];have:=(ih (s * bg b) (a+s * (x - b.Low))).2 ha (by omega) h2 (by omega) (by omega);rw [this,Tt,H,d1,Int.mul_add,← Int.mul_assoc,Int.add_assoc]
  ·have hf:Wx i a (x,b,s) = .inl ():=by unfold Wx;rw [if_neg hi]
   rw [hf];exact ⟨fun _=>rfl,fun h=>by simp [allIn,hi] at h⟩
def Zi (bs:List ai) (xs:List Int):Int:=if JW bs≠0 then JW bs else if (xs.length:Int)≠(bs.length:Int) then 32 else if allIn bs xs=true then 0 else 33
def off (bs:List ai) (xs:List Int):Int:=H (exs bs) (VJ bs xs)
set_option linter.unusedVariables false
set_option linter.unusedSimpArgs false
theorem Oo {p:List ai} (h:p.length < 16777216):jG p=some (exs p):=Ji h
theorem AZ {p:List ai} (h:p.length < 16777216):jL p=some (exs p):=Dh h
theorem GI:∀ {es ds:List Int},inBase es ds→P es≤512→(∀ e,e∈es→e≤512)→(es.zip ds).foldr (fun (t:Int×Int) b=>w (w (b * t.1)+t.2)) 0=H es ds
 | [],[],_,_,_=>rfl
 | [],_::_,h,_,_=>by cases h
 | _::_,[],h,_,_=>by cases h
 | e::es,d::ds,h,hp,hb=>by
  have hpos:=DL h;have ht:=YC hpos;have hr:=JL h;obtain ⟨h1,h2,h3⟩:=h;have hq:=JL h3;rw [List.zip_cons_cons,List.foldr_cons,GI h3 (by omega) (fun x hx=>hb x (.tail _ hx))];simp only [H] at hr ⊢;rw [Int.mul_comm e] at hr;have e0:0≤H es ds * e:=Int.mul_nonneg hq.1 (by omega);have e1:w (H es ds * e)=H es ds * e:=yK (by omega) (by omega);rw [e1,yK (by omega) (by omega),Int.mul_comm e];omega
theorem OZ {es ds:List Int} (h:inBase es ds) (hp:P es≤512) (hb:∀ e,e∈es→e≤512) (hl:es.length=ds.length) (hn:es.length < 16777216):mP es ds=some (H es ds):=by
 unfold mP;have hlen:(es.zip ds).reverse.length=es.length:=by simp;omega
 rw [lZ (step:=mP.s1 es ds) (es.zip ds).reverse (fun i (b:Int)=>(b,(es.length:Int) - 1 - i)) (fun b=>b) (fun b (t:Int×Int)=>w (w (b * t.1)+t.2)) (fun _ _=>True) (a:=0) (by rw [yK (by omega) (by omega)];simp) ?_ ?_ trivial (by omega)]
 ·rw [List.foldl_reverse,GI h hp hb];rfl
 ·intro i hi b _;refine ⟨?_,trivial⟩;rw [hlen] at hi;have c:((es.length:Int) - 1 - (i:Int))=((es.length - 1 - i:Nat):Int):=by omega
  have k:es.length - 1 - i < es.length:=by omega
  have k2:es.length - 1 - i < ds.length:=by omega
  simp only [mP.s1,c];rw [if_pos (by omega),jk k,jk k2];simp only [ae];have hz:(es.zip ds).reverse[i]'(by omega)=(es[es.length - 1 - i],ds[es.length - 1 - i]):=by
   rw [List.getElem_reverse];simp only [List.getElem_zip,List.length_zip];have:min es.length ds.length - 1 - i=es.length - 1 - i:=by omega
   simp only [this]
  rw [hz];have e2:w (((es.length - 1 - i:Nat):Int) - 1)=(es.length:Int) - 1 - ((i+1:Nat):Int):=by rw [yK (by omega) (by omega)];omega
  rw [e2]
 ·intro b _;rw [hlen];simp only [mP.s1];rw [if_neg (by omega)]
theorem Nv {bs:List ai} {xs:List Int} (h:Zi bs xs=0):mf bs xs=some (off bs xs):=by
 unfold Zi at h;split at h
 ·rename_i hb;exact absurd h hb
 rename_i hb
 split at h
 ·cases h
 rename_i hl
 split at h
 ·rename_i ha
  have ok:=zn (aH.1 hb);have hl7:=ok.len;have hll:bs.length=xs.length:=by omega
  have hlen:(xs.zip bs).length=bs.length:=by simp;omega
  unfold mf;rw [vC (step:=mf.s1 bs xs) (xs.zip bs) (fun p=>w (p.1 - p.2.Low)) (fun i b=>(i,b)) (fun b=>b) rfl ?_ ?_ (by omega)]
  ·simp only [ae];rw [AZ (by omega)];simp only [ae];have hsz:=ok.size
   show ((mP (exs bs) (VJ bs xs)).bind fun x8=>some x8)=_
   rw [OZ (es:=exs bs) (ds:=VJ bs xs) (zY hll ok.num ha) hsz.2.2 (fun e he=>by obtain ⟨b,hb,rfl⟩:=iC.1 he;exact ok.big b hb) (by simp [exs,VJ];omega) (by simp [exs];omega)];rfl
  ·intro i hi b hbl;rw [hlen] at hi;have h1:i < xs.length:=by omega
   simp only [mf.s1,iM hi,aF,jk hi,jk h1,ae,List.getElem_zip];rw [kM (by omega),wn (by omega)];rfl
  ·intro b;rw [hlen];simp only [mf.s1,di,ax]
 ·cases h
theorem J8:∀ (es:List Int) (n:Int) (acc:List Int),(es.foldl (fun (b:Int×List Int) e=>(b.1 / e,b.2++[b.1 % e])) (n,acc)).2=acc++dig es n
 | [],n,acc=>by simp [dig]
 | e::es,n,acc=>by rw [dM,J8 es];simp [dig]
theorem Xg {n e:Int} (hn:0≤n) (hb:n≤4611686018427387904) (he:1≤e):rem n e=some (n % e)∧quo .i64 n e=some (n / e)∧0≤n / e∧n / e≤n:=by
 have h0:¬ e=0:=by omega
 have h1:0≤n / e:=Int.ediv_nonneg hn (by omega);have h2:n / e≤n:=Int.ediv_le_self e hn;refine ⟨by unfold rem;rw [if_neg h0,Int.tmod_eq_emod_of_nonneg hn],?_,h1,h2⟩;unfold quo;rw [if_neg h0,Int.tdiv_eq_ediv_of_nonneg hn];exact congrArg some (yK (n:=n / e) (by omega) (by omega))
theorem Tq {es:List Int} {n:Int} (h:∀ e,e∈es→1≤e) (h0:0≤n) (hb:n≤4611686018427387904) (hl:es.length < 16777216):kU es n=some (dig es n):=by
 unfold kU;rw [lZ (step:=kU.s1 es) es (fun i (b:Int×List Int)=>(b.1,i,b.2)) (fun b=>b.2) (fun b e=>(b.1 / e,b.2++[b.1 % e])) (fun i b=>b.2.length=i∧0≤b.1∧b.1≤4611686018427387904) (a:=(n,[])) rfl ?_ ?_ ⟨rfl,h0,hb⟩ (by omega)]
 ·simp only [ae];rw [J8];rfl
 ·rintro i hi b ⟨k1,k2,k3⟩
  obtain ⟨d1,d2,d3,d4⟩:=Xg k2 k3 (h es[i] (dA hi));refine ⟨?_,by simp [k1],d3,by simp only;omega⟩;simp only [kU.s1,iM hi,aF,jk hi,ae,d1,d2];rw [kM (by omega),wn (by omega)];rfl
 ·intro b _;simp only [kU.s1,di,ax]
theorem KX {es:List Int} {n:Int} (h:∀ e,e∈es→1≤e) (h0:0≤n) (hb:n≤4611686018427387904) (hl:es.length < 16777216):kR es n=some (dig es n):=by
 unfold kR;rw [lZ (step:=kR.s1 es) es (fun i (b:Int×List Int)=>(b.1,i,b.2)) (fun b=>b.2) (fun b e=>(b.1 / e,b.2++[b.1 % e])) (fun i b=>b.2.length=i∧0≤b.1∧b.1≤4611686018427387904) (a:=(n,[])) rfl ?_ ?_ ⟨rfl,h0,hb⟩ (by omega)]
 ·simp only [ae];rw [J8];rfl
 ·rintro i hi b ⟨k1,k2,k3⟩
  obtain ⟨d1,d2,d3,d4⟩:=Xg k2 k3 (h es[i] (dA hi));refine ⟨?_,by simp [k1],d3,by simp only;omega⟩;simp only [kR.s1,iM hi,aF,jk hi,ae,d1,d2];rw [kM (by omega)];simp only [ae];rw [wn (by omega)]
 ·intro b _;simp only [kR.s1,di,ax]
set_option linter.unusedVariables false
set_option linter.unusedSimpArgs false
def VD (xs:List Int):Sum Nat Unit:=gV (fun i b x=>if eF x=true then .inr b else .inl i) 0 xs ()
def chk (a:ag):Int×Int :=
 if JW a.Bounds≠0 then (0,JW a.Bounds)
 else if (a.Elements.length:Int)≠lh (exs a.Bounds) then (0,10)
 else match VD a.Elements with | .inl i=>((i:Int),2) | .inr _=>(0,0)
theorem MJ (x:Int):kS x=eF x:=by unfold kS eF;exact Dn _ _ _
theorem J4 {a:ag} (h:a.Elements.length < 16777216):pF a=some (chk a):=by
 unfold pF chk;rw [Et];simp only [ae];by_cases hb:JW a.Bounds=0
 ·have hl7:=(zn hb).len;simp only [hb,cO,ax,ne_eq];rw [size_eq (by omega)];simp only [ae];by_cases hl:(a.Elements.length:Int)=lh (exs a.Bounds)
  ·have hl':(a.Elements.length:Int)=lh (a.Bounds.map bg):=hl;simp only [hl',hl,cO,ax];unfold bY;rw [jV (step:=bY.s1 a.Elements) a.Elements (fun i (_:Unit)=>i) (fun k:Nat=>Sum.inr ((k:Int),2)) (fun _=>Sum.inl ()) (fun i b x=>if eF x=true then .inr b else .inl i) (fun _ _=>True) (a:=()) rfl ?_ ?_ trivial (by omega)]
   ·unfold VD;cases gV (fun i b x=>if eF x=true then Sum.inr b else Sum.inl i) 0 a.Elements ()<;>simp [hl,exs]
   ·intro i hi b _;refine ⟨?_,fun _ _=>trivial⟩;simp only [bY.s1,iM hi,aF,jk hi,ae,oO,SS];by_cases hq:eF a.Elements[i]=true
    ·simp only [hq,aF,cO,ax];rw [wn (by omega)]
    ·simp only [hq,ax,aG];simp
   ·intro b _;simp only [bY.s1,di,ax]
  ·have hl':¬ (a.Elements.length:Int)=lh (a.Bounds.map bg):=hl;simp [hl',hl,exs]
 ·simp [hb]
theorem OY {a:ag} (h:a.Elements.length < 16777216):nO a=some (chk a):=by
 unfold nO chk;rw [zQ];simp only [ae];by_cases hb:JW a.Bounds=0
 ·have hl7:=(zn hb).len;simp only [hb,cO,ax,ne_eq];rw [AZ (by omega)];simp only [ae];rw [yG (by simp [exs];omega)];simp only [ae];by_cases hl:(a.Elements.length:Int)=lh (exs a.Bounds)
  ·simp only [hl,cO,ax];rw [jV (step:=nO.s1 a) a.Elements (fun i (_:Unit)=>i) (fun k:Nat=>Sum.inr ((k:Int),2)) (fun _=>Sum.inl ()) (fun i b x=>if eF x=true then .inr b else .inl i) (fun _ _=>True) (a:=()) rfl ?_ ?_ trivial (by omega)]
   ·unfold VD;cases gV (fun i b x=>if eF x=true then Sum.inr b else Sum.inl i) 0 a.Elements ()<;>rfl
   ·intro i hi b _;refine ⟨?_,fun _ _=>trivial⟩;simp only [nO.s1,iM hi,aF,jk hi,ae,MJ];by_cases hq:eF a.Elements[i]=true
    ·simp only [hq,aF,cO,ax];rw [wn (by omega)]
    ·simp only [hq,ax,aG,aS,aF]
   ·intro b _;simp only [nO.s1,di,ax]
  ·simp [hl]
 ·simp [hb]
theorem UJ {a:ag} (h:a.Elements.length < 16777216):zO a=some (chk a).2:=by
 unfold zO;rw [OY h];rfl
theorem Rq {a:ag} (h1:a.Bounds.length≤16777216) (h:a.Elements.length < 16777216):xE a=some a:=by
 unfold xE;rw [J6 h1,ui (by omega)];rfl
set_option linter.unusedVariables false
set_option linter.unusedSimpArgs false
theorem XH (a b c:Bool):gZ [aK.mk a 3,aK.mk b 11,aK.mk c 2]=some (if a=true then (if b=true then (if c=true then 0 else 2) else 11) else 3):=by
 cases a<;>cases b<;>cases c<;>decide +kernel
def XW (s:az):Bool:=(((s.Kind != 2) || (s.Low==0))&&((s.Kind==1) || ((s.High==0)&&(s.Step==0))))&&((s.Kind==2) || ((s.List.length:Int)==0))
def nums (s:az):Bool:=bF s.Low&&bF s.High&&bF s.Step
def UT (s:az):Int:=if ¬ bz s.Kind 0 2=true then 15 else if XW s=false then 3 else if (s.Kind==1&&s.Step==0)=true then 11 else if nums s=true then 0 else 2
theorem Ir (s:az):nS s=some (UT s):=by
 unfold nS UT;have hf:((((s.Kind != 2) || (s.Low==0))&&((s.Kind==1) || ((s.High==0)&&(s.Step==0))))&&((s.Kind==2) || ((s.List.length:Int)==0)))=XW s:=rfl;simp only [hf,XH];by_cases hk:bz s.Kind 0 2=true
 ·simp only [hk,cO,ax];unfold nums;cases XW s
  ·simp only [aG,ax,aF,ae]
   repeat' split
   all_goals rfl
  ·by_cases h1:s.Kind=1
   ·by_cases h2:s.Step=0
    ·simp [h1,h2]
    ·by_cases h3:bF s.Low=true
     ·by_cases h4:bF s.High=true
      ·by_cases h5:bF s.Step=true<;>simp [h1,h2,h3,h4,h5]
      ·simp [h1,h2,h3,h4]
     ·simp [h1,h2,h3]
   ·by_cases h3:bF s.Low=true
    ·by_cases h4:bF s.High=true
     ·by_cases h5:bF s.Step=true<;>simp [h1,h3,h4,h5]
     ·simp [h1,h3,h4]
    ·simp [h1,h3]
 ·simp only [hk,aS,aF,aG]
theorem JH {a b:Int} (hb:1≤b) : -(a.natAbs:Int)≤a.tdiv b∧a.tdiv b≤a.natAbs:=by
 rcases Int.le_total 0 a with h | h
 ·rw [Int.tdiv_eq_ediv_of_nonneg h];have h1:0≤a / b:=Int.ediv_nonneg h (by omega);have h2:a / b≤a:=Int.ediv_le_self b h;omega
 ·have e:a.tdiv b = -((-a).tdiv b):=by rw [Int.neg_tdiv];omega
  rw [e,Int.tdiv_eq_ediv_of_nonneg (by omega)];have h1:0≤(-a) / b:=Int.ediv_nonneg (by omega) (by omega);have h2:(-a) / b ≤ -a:=Int.ediv_le_self b (by omega);omega
theorem UG {a b:Int} (ha : -1099511627776≤a∧a≤1099511627776) (hb:1≤b):quo .i64 a b=some (a.tdiv b):=by
 have:=JH (a:=a) hb;unfold quo;rw [if_neg (by omega)];exact congrArg some (yK (n:=a.tdiv b) (by omega) (by omega))
theorem PW {a b:Int} (ha : -1099511627776≤a∧a≤1099511627776) (hb:1≤b):vH a b=some (a / b):=by
 unfold vH;rw [UG ha hb];have hr:rem a b=some (a.tmod b):=by unfold rem;rw [if_neg (by omega)]
 rw [hr];simp only [ae];have t:=JH (a:=a) hb;have e1:=Int.tdiv_eq_ediv (a:=a) (b:=b);have e2:=Int.tmod_eq_emod (a:=a) (b:=b);have m1:=Int.emod_nonneg a (b:=b) (by omega);have m2:=Int.emod_lt_of_pos a (b:=b) (by omega);have sg:b.sign=1:=Int.sign_eq_one_of_pos (by omega);have nb:(b.natAbs:Int)=b:=by omega
 unfold ve;by_cases hd:0≤a∨b ∣ a
 ·rw [if_pos hd] at e1 e2;have:¬ a.tmod b < 0:=by omega
  simp only [this,decide_false,aG,ax];rw [yK (by omega) (by omega)];exact congrArg some (by omega)
 ·rw [if_neg hd] at e1 e2;have:a.tmod b < 0:=by omega
  simp only [this,decide_true,aF];rw [yK (by omega) (by omega)];exact congrArg some (by omega)
def cnt (s:az):Int:=if s.Step < 0 then max 0 ((s.Low - s.High) / (-s.Step)+1) else max 0 ((s.High - s.Low) / s.Step+1)
theorem Jy {s:az} (h:nums s=true):(-2147483647≤s.Low∧s.Low≤2147483647)∧(-2147483647≤s.High∧s.High≤2147483647)∧(-2147483647≤s.Step∧s.Step≤2147483647):=by
 simp [nums,bF,bz] at h;omega
theorem P8 {a:Int}:mx 0 a=max 0 a:=by unfold mx;split<;>omega
theorem Gj {d s:Int} (hs:1≤s):max 0 ((d+s).tdiv s)=max 0 (d / s+1):=by
 have e:(d+s) / s=d / s+1:=Int.add_ediv_of_dvd_right (Int.dvd_refl s) |>.trans (by rw [Int.ediv_self (by omega)])
 rcases Int.le_total 0 (d+s) with h | h
 ·rw [Int.tdiv_eq_ediv_of_nonneg h,e]
 ·have e1:(d+s).tdiv s = -((-(d+s)).tdiv s):=by rw [Int.neg_tdiv];omega
  have e2:0≤(-(d+s)).tdiv s:=by rw [Int.tdiv_eq_ediv_of_nonneg (by omega)];exact Int.ediv_nonneg (by omega) (by omega)
  have e3:(d+s) / s≤0:=by
   have:=Int.ediv_le_ediv (a:=d+s) (b:=0) (c:=s) (by omega) h;simpa using this
  omega
theorem count_eq {s:az} (h:nums s=true) (hs:s.Step≠0):uJ s=some (cnt s):=by
 obtain ⟨r1,r2,r3⟩:=Jy h;unfold uJ cnt;by_cases hp:s.Step > 0
 ·rw [if_pos hp,if_neg (by omega)];rw [yK (n:=s.High - s.Low) (by omega) (by omega),yK (by omega) (by omega),UG (by omega) (by omega)];simp only [ae];rw [P8,Gj (by omega)]
 ·rw [if_neg hp,if_pos (by omega)];rw [yK (n:=s.Low - s.High) (by omega) (by omega),yK (by omega) (by omega),yK (n:=0 - s.Step) (by omega) (by omega),UG (by omega) (by omega)];simp only [ae];have e:s.Low - s.High - s.Step=s.Low - s.High + -s.Step:=by omega
  have e':0 - s.Step = -s.Step:=by omega
  rw [P8,e,e',Gj (by omega)]
theorem LU {s:az} (h:nums s=true) (hs:s.Step≠0):0≤cnt s:=by unfold cnt;split<;>omega
def Xl (s:az):List Int:=if s.Kind=0 then [s.Low] else if s.Kind=1 then (List.range (cnt s).toNat).map (fun i:Nat=>w (s.Low+w ((i:Int) * s.Step))) else s.List
def sel (b:ai) (s:az):List Int×Int :=
 if UT s≠0 then ([],UT s)
 else if s.Kind=1∧cnt s > 512 then ([],8)
 else if s.Kind=2∧(s.List.length:Int) > 512 then ([],8)
 else if (Xl s).any (fun x=>!bz x b.Low b.High)=true then ([],33)
 else (Xl s,0)
theorem G5 (b:ai) {l:List Int} (h:l.length < 16777216):gq.j1 b l=some (if l.any (fun x=>!bz x b.Low b.High)=true then ([],33) else (l,0)):=by
 unfold gq.j1 iq dw;obtain ⟨k,hk⟩:=wH (step:=dw.s1 l b) l (fun x=>!bz x b.Low b.High) (fun i=>Sum.inr i) (Sum.inl ()) (s:=0) rfl (fun i hi=>by
  simp only [dw.s1,iM hi,aF,jk hi,ae];have e1:pG l[i] b=!bz l[i] b.Low b.High:=rfl;rw [wn (by omega),e1];by_cases hq:(!bz l[i] b.Low b.High)=true
  ·rw [if_pos hq,if_pos hq]
  ·rw [if_neg hq,if_neg hq]) (by simp only [dw.s1,di,ax]) (by omega)
 rw [hk];by_cases e:l.any (fun x=>!bz x b.Low b.High)=true
 ·rw [if_pos e,if_pos e];simp
 ·rw [if_neg e,if_neg e];rfl
theorem Ed (b:ai) {l:List Int} (h:l.length < 16777216):dG.j1 b l=some (if l.any (fun x=>!bz x b.Low b.High)=true then ([],33) else (l,0)):=by
 unfold dG.j1;rw [oV (step:=dG.s2 b l) l (fun x=>if (!bz x b.Low b.High)=true then some (([]:List Int),(33:Int)) else none) (fun c=>Sum.inr c) (Sum.inl ()) rfl ?_ ?_ (by omega),uC]
 ·by_cases e:l.any (fun x=>!bz x b.Low b.High)=true
  ·rw [if_pos e,if_pos e];rfl
  ·rw [if_neg e,if_neg e];rfl
 ·intro i hi;simp only [dG.s2,iM hi,aF,jk hi,ae,Dn];by_cases hq:bz l[i] b.Low b.High=true
  ·simp only [hq,cO,ax,nD,aG];rw [wn (by omega)]
  ·simp only [hq,aS,aF,Bool.not_false,aG]
 ·simp only [dG.s2,di,ax]
theorem JA {τ:Type} {step:Int×List Int→Option (Sum (Int×List Int) τ)} (n:Int) (g:Nat→Int) (fin:List Int→τ) (h0:0≤n) (hn:n < 16777216)
  (h:∀ i:Nat,(i:Int) < n→∀ b:List Int,b.length=i→step (i,b)=some (.inl (((i+1:Nat):Int),b++[g i]))) (hend:∀ b,step (n,b)=some (.inr (fin b))) :
  iw step (0,[])=some (fin ((List.range n.toNat).map g)):=by
 have hl:(List.range n.toNat).length=n.toNat:=by simp
 have hc:((List.range n.toNat).length:Int)=n:=by rw [hl];omega
 refine vC (step:=step) (List.range n.toNat) g (fun i b=>(i,b)) fin rfl ?_ ?_ (by omega)
 ·intro i hi b hb;have:(List.range n.toNat)[i]=i:=by simp
  rw [this];exact h i (by omega) b hb
 ·intro b;rw [hc];exact hend b
theorem DR {s:az} (h:UT s=0):(s.Kind=0∨s.Kind=1∨s.Kind=2)∧XW s=true∧(s.Kind=1→s.Step≠0)∧nums s=true:=by
 unfold UT at h;split at h
 ·cases h
 rename_i h1
 split at h
 ·cases h
 rename_i h2
 split at h
 ·cases h
 rename_i h3
 split at h
 ·rename_i h4
  refine ⟨?_,by simpa using h2,?_,h4⟩
  ·simp [bz] at h1;omega
  ·intro q1 q2;exact h3 (by simp [q1,q2])
 ·cases h
theorem Q3 (b:ai) (s:az) (hl:s.List.length < 16777216):gq b s=some (sel b s):=by
 unfold gq sel;rw [Ir];simp only [ae];by_cases he:UT s=0
 ·obtain ⟨hk,hf,hs,hn⟩:=DR he;simp only [he,cO,ax,ne_eq];unfold Xl;rcases hk with k | k | k
  ·simp only [k,aF];rw [G5 b (by simp)];simp
  ·have hz:=hs k;simp only [k,aF,show ¬ (1:Int)=0 by decide,ax,show ¬ (1:Int)=2 by decide,false_and,true_and];rw [count_eq hn hz];simp only [ae];by_cases hc:cnt s > 512
   ·simp only [hc,aF]
   ·simp only [hc,ax];rw [JA (step:=gq.s2 s (cnt s)) (cnt s) (fun i:Nat=>w (s.Low+w ((i:Int) * s.Step))) (fun b=>b) (LU hn hz) (by omega) ?_ ?_]
    ·simp only [ae];rw [G5 b (by simp;omega)]
    ·intro i hi b hb;simp only [gq.s2,hi,aF];rw [kM (by omega)];simp only [ae];rw [wn (by omega)]
    ·intro b;simp only [gq.s2,Int.lt_irrefl,ax]
  ·simp only [k,show ¬ (2:Int)=0 by decide,ax,show ¬ (2:Int)=1 by decide,false_and,true_and];by_cases hc:(s.List.length:Int) > 512
   ·simp only [hc,aF]
   ·simp only [hc,ax];unfold slices_Clone_int;rw [JU (by omega)];simp only [ae];rw [G5 b (by omega)]
 ·simp [he]
theorem XV (s:az):((((s.Kind != 1)&&((s.High != 0) || (s.Step != 0))) || ((s.Kind==2)&&(s.Low != 0))) || ((s.Kind != 2)&&(decide ((s.List.length:Int) > 0))))=!XW s:=by
 unfold XW;have e:decide ((s.List.length:Int) > 0)=!((s.List.length:Int)==0):=by
  by_cases h:(s.List.length:Int)=0
  ·simp [h]
  ·have h1:(s.List.length:Int) > 0:=by omega
   have h2:((s.List.length:Int)==0)=false:=by simpa using h
   rw [h2,decide_eq_true h1];rfl
 rw [e];simp only [bne];generalize (s.Kind==1)=a;generalize (s.Kind==2)=b;generalize (s.High==0)=c;generalize (s.Step==0)=d;generalize (s.Low==0)=f;generalize ((s.List.length:Int)==0)=g;cases a<;>cases b<;>cases c<;>cases d<;>cases f<;>cases g<;>rfl
theorem Ph (b:ai) (s:az) (hl:s.List.length < 16777216):dG b s=some (if num b=true then sel b s else ([],2)):=by
 unfold dG;rw [XV];simp only [Dn,dY];have hb:((!(bz b.Low (-2147483647) 2147483647)) || (!(bz b.High (-2147483647) 2147483647)))=!num b:=by unfold num bF;simp
 have hs:(((!(bz s.Low (-2147483647) 2147483647)) || (!(bz s.High (-2147483647) 2147483647))) || (!(bz s.Step (-2147483647) 2147483647)))=!nums s:=by unfold nums bF;simp
 rw [hb,hs];by_cases hn:num b=true
 ·simp only [hn,nD,aG,ax,aF];unfold sel;by_cases he:UT s=0
  ·obtain ⟨hk,hf,hst,hnn⟩:=DR he;have hin:bz s.Kind 0 2=true:=by simp [bz];omega
   have hks:((s.Kind==1)&&(s.Step==0))=false:=by
    by_cases k:s.Kind=1
    ·simp [k,hst k]
    ·simp [k]
   simp only [hin,cO,ax,hf,nD,aG,hks,hnn,he,ne_eq];unfold Xl;obtain ⟨r1,r2,r3⟩:=Jy hnn;rcases hk with k | k | k
   ·simp only [k,aF];rw [Ed b (by simp)];simp
   ·have hz:=hst k;simp only [k,aF,show ¬ (1:Int)=0 by decide,ax,show ¬ (1:Int)=2 by decide,false_and,true_and];have j3:dG.j3 b s (cnt s)=some (if cnt s > 512 then ([],8) else if ((List.range (cnt s).toNat).map (fun i:Nat=>w (s.Low+w ((i:Int) * s.Step)))).any (fun x=>!bz x b.Low b.High)=true then ([],33) else ((List.range (cnt s).toNat).map (fun i:Nat=>w (s.Low+w ((i:Int) * s.Step))),0)):=by
     unfold dG.j3;by_cases hc:cnt s > 512
     ·simp only [hc,aF]
     ·simp only [hc,ax];rw [JA (step:=dG.s4 s (cnt s)) (cnt s) (fun i:Nat=>w (s.Low+w ((i:Int) * s.Step))) (fun b=>b) (LU hnn hz) (by omega) ?_ ?_]
      ·simp only [ae];rw [Ed b (by simp;omega)]
      ·intro i hi b hb;simp only [dG.s4,hi,aF];rw [kM (by omega)];simp only [ae];rw [wn (by omega)]
      ·intro b;simp only [dG.s4,Int.lt_irrefl,ax]
    have sz:kz s.Step=if s.Step < 0 then -s.Step else s.Step:=by
     unfold kz;split
     ·rw [yK (by omega) (by omega)];omega
     ·rfl
    have sz1:1≤kz s.Step∧kz s.Step≤2147483647:=by rw [sz];split<;>omega
    rw [yK (n:=s.High - s.Low) (by omega) (by omega),yK (n:=s.Low - s.High) (by omega) (by omega),PW (by omega) (by omega),PW (by omega) (by omega)];simp only [ae];have div_le:∀ a:Int, -4294967296≤a→a≤4294967296 → -4294967297≤a / kz s.Step∧a / kz s.Step≤4294967296:=by
     intro a h1 h2;refine ⟨?_,?_⟩
     ·have:(-4294967297) * kz s.Step≤a:=by
       have:=jg (a:=1) (b:=kz s.Step) (c:=4294967297) sz1.1 (by omega);omega
      exact (Int.le_ediv_iff_mul_le (by omega)).2 this
     ·have:a / kz s.Step < 4294967297:=Int.ediv_lt_of_lt_mul (by omega) (by
       have:=jg (a:=1) (b:=kz s.Step) (c:=4294967297) sz1.1 (by omega);omega)
      omega
    have d1:=div_le (s.High - s.Low) (by omega) (by omega);have d2:=div_le (s.Low - s.High) (by omega) (by omega);rw [yK (n:=(s.High - s.Low) / kz s.Step+1) (by omega) (by omega),yK (n:=(s.Low - s.High) / kz s.Step+1) (by omega) (by omega),P8,P8];by_cases hneg:s.Step < 0
    ·rw [if_pos hneg];have:max 0 ((s.Low - s.High) / kz s.Step+1)=cnt s:=by unfold cnt;rw [if_pos hneg,sz,if_pos hneg]
     rw [this,j3]
    ·rw [if_neg hneg];have:max 0 ((s.High - s.Low) / kz s.Step+1)=cnt s:=by unfold cnt;rw [if_neg hneg,sz,if_neg hneg]
     rw [this,j3]
   ·simp only [k,show ¬ (2:Int)=0 by decide,ax,show ¬ (2:Int)=1 by decide,false_and,true_and];by_cases hc:(s.List.length:Int) > 512
    ·simp only [hc,aF]
    ·simp only [hc,ax];rw [ui (by omega)];simp only [ae];rw [Ed b (by omega)]
  ·simp only [he,aS,aF,ne_eq];unfold UT at he ⊢;by_cases h1:bz s.Kind 0 2=true
   ·simp only [h1,cO,ax] at he ⊢;cases hf:XW s
    ·simp
    ·simp only [hf,Bool.true_eq_false,ax,nD,aG] at he ⊢;by_cases h2:((s.Kind==1)&&(s.Step==0))=true
     ·simp only [h2,aF]
     ·simp only [h2,ax,aG] at he ⊢;by_cases h3:nums s=true
      ·simp [h3] at he
      ·simp [h3]
   ·simp only [h1,aS,aF,aG]
 ·simp [hn]
set_option linter.unusedVariables false
set_option linter.unusedSimpArgs false
abbrev Sec:=List Int×List (List Int)×List Int
def Lm (_:Nat) (v:Sec) (t:ai×az):Sum Int Sec :=
 if (sel t.1 t.2).2≠0 then .inl (sel t.1 t.2).2
 else .inr (if t.2.Kind≠0 then v.1++[((sel t.1 t.2).1.length:Int)] else v.1,v.2.1++[(sel t.1 t.2).1],v.2.2++[((sel t.1 t.2).1.length:Int)])
def Qx (i:Nat) (v:Sec):Prop:=v.1.length≤i∧v.2.1.length=i∧v.2.2.length=i
theorem Ik {i:Nat} {v v':Sec} {t:ai×az} (h:Qx i v) (e:Lm i v t = .inr v'):Qx (i+1) v':=by
 obtain ⟨h1,h2,h3⟩:=h;unfold Lm at e;split at e
 ·cases e
 ·cases e;refine ⟨?_,by simp [h2],by simp [h3]⟩;simp only;split
  ·simp;omega
  ·omega
theorem Xt:∀ {T:List (ai×az)} {i:Nat} {v v':Sec},gV Lm i T v = .inr v' →
  v'.2.1=v.2.1++T.map (fun t=>(sel t.1 t.2).1)∧v'.2.2=v.2.2++T.map (fun t=>((sel t.1 t.2).1.length:Int))∧∀ t,t∈T→(sel t.1 t.2).2=0
 | [],i,v,v',h=>by cases h;simp
 | t::T,i,v,v',h=>by
  simp only [gV] at h;cases hf:Lm i v t with
  | inl e=>rw [hf] at h;cases h
  | inr v2 =>
   rw [hf] at h;obtain ⟨g1,g2,g3⟩:=Xt h;unfold Lm at hf;split at hf
   ·cases hf
   ·rename_i hs
    cases hf;refine ⟨by rw [g1];simp,by rw [g2];simp,?_⟩;intro u hu;cases hu with
    | head=>exact aH.1 hs
    | tail _ hu=>exact g3 u hu
def yI (p:List ai) (q:List az):Sum Int Sec:=gV Lm 0 (p.zip q) ([],[],[])
def picks (lists:List (List Int)) (ds:List Int):List Int:=ds.mapIdx fun j d=>(((lists[j]?).getD [])[d.toNat]?).getD 0
theorem Ib (lists:List (List Int)) (ds:List Int):(picks lists ds).length=ds.length:=by simp [picks]
theorem Rn (l:List Int) (lists:List (List Int)) (d:Int) (ds:List Int):picks (l::lists) (d::ds)=((l[d.toNat]?).getD 0)::picks lists ds:=by
 simp [picks,List.mapIdx_cons]
theorem Qj:∀ {bs:List ai} {lists:List (List Int)} {ds:List Int},bs.length=lists.length→(∀ t,t∈bs.zip lists→∀ x,x∈t.2→bz x t.1.Low t.1.High=true)→inBase (lists.map fun l=>(l.length:Int)) ds→allIn bs (picks lists ds)=true∧(picks lists ds).length=bs.length
 | [],[],[],_,_,_=>⟨rfl,rfl⟩
 | [],[],_::_,_,_,h=>by cases h
 | [],_::_,_,h,_,_=>by cases h
 | _::_,[],_,h,_,_=>by cases h
 | _::_,_::_,[],_,_,h=>by cases h
 | b::bs,l::lists,d::ds,hl,hin,h=>by
  obtain ⟨h1,h2,h3⟩:=h;obtain ⟨i1,i2⟩:=Qj (bs:=bs) (by simpa using hl) (fun t ht=>hin t (by simp;exact .inr (by simpa using ht))) h3;have hd:d.toNat < l.length:=by have h2':d < (l.length:Int):=h2;omega
  have hx:(l[d.toNat]?).getD 0=l[d.toNat]:=by simp [hd]
  have hi:=hin (b,l) (by simp) l[d.toNat] (dA hd);rw [Rn,hx];refine ⟨?_,by simp [i2]⟩;simp only [allIn,i1,Bool.and_true];exact hi
def Y1 (a:Int) (t:Int×ai×Int):Int:=w (a+w (t.2.2 * w (t.1 - t.2.1.Low)))
theorem scan_fold:∀ (bs:List ai) (xs:List Int) (ss:List Int) (a:Int) (i:Nat),allIn bs xs=true→gV Wx i (xs.zip (bs.zip ss)) a = .inr ((xs.zip (bs.zip ss)).foldl Y1 a)
 | [],xs,ss,a,i,_=>by simp [gV]
 | b::bs,[],ss,a,i,_=>by simp [gV]
 | b::bs,x::xs,[],a,i,_=>by simp [gV]
 | b::bs,x::xs,s::ss,a,i,h=>by
  simp only [allIn,bn] at h;have hf:Wx i a (x,b,s) = .inr (Y1 a (x,b,s)):=by unfold Wx;rw [if_pos h.1];rfl
  simp only [List.zip_cons_cons,gV,hf,dM];exact scan_fold bs xs ss _ _ h.2
theorem VP {bs:List ai} {xs:List Int} (ok:Ok bs) (hl:bs.length=xs.length) (ha:allIn bs xs=true):(xs.zip (bs.zip (str 1 (exs bs)))).foldl Y1 0=off bs xs:=by
 have h1:=scan_fold bs xs (str 1 (exs bs)) 0 0 ha;have hl7:=ok.len;have sz:=ok.size;have h2:=(Qu bs xs 1 0 0 hl ok.num).2 ha (by omega) (by have:P (exs bs)≤512:=sz.2.2;omega) (by omega) (by omega);rw [h1] at h2;have:=Sum.inr.inj h2;rw [this];unfold off;omega
theorem has_eq {l:List Int} {v:Int} (h:l.length < 16777216):rP l v=some (l.any fun x=>x==v):=by
 unfold rP;rw [lZ (step:=rP.s1 l v) l (fun i (b:Bool)=>(b,i)) (fun b=>b) (fun b x=>b || (x==v)) (fun _ _=>True) (a:=false) rfl ?_ ?_ trivial (by omega)]
 ·have key:∀ (l:List Int) (b:Bool),l.foldl (fun b x=>b || (x==v)) b=(b || l.any fun x=>x==v):=by
   intro l
   induction l with
   | nil=>intro b;simp
   | cons x l ih=>intro b;rw [dM,ih,List.any_cons,Bool.or_assoc]
  rw [key];simp
 ·intro i hi b _;refine ⟨?_,trivial⟩;simp only [rP.s1,iM hi,aF,jk hi,ae];rw [wn (by omega)]
 ·intro b _;simp only [rP.s1,di,ax]
theorem Ul (m:List (Int×Bool)) (k:Int) (v:Bool) (z:Int):NT (Wu m k v) z=if k=z then some v else NT m z:=by
 induction m with
 | nil=>simp [Wu,NT]
 | cons p m ih =>
  obtain ⟨a,c⟩:=p;simp only [Wu];by_cases e:a=k
  ·subst e;by_cases q:a=z
   ·simp [NT,q]
   ·simp [NT,q]
  ·rw [if_neg e];simp only [NT,ih];by_cases q:a=z
   ·have:¬ k=z:=fun r=>e (by rw [q,r])
    simp [q,this]
   ·simp [q]
def Wn (o:Nat→Int) (v:Bool×List Int×List (Int×Bool)) (k:Nat):Bool×List Int×List (Int×Bool):=(v.1 || (NT v.2.2 (o k)).getD false,v.2.1++[o k],Wu v.2.2 (o k) true)
def Ar (o:Nat→Int) (v:Bool×List Int) (k:Nat):Bool×List Int:=(v.1 || v.2.any (fun x=>x==o k),v.2++[o k])
theorem MV (o:Nat→Int):∀ (ks:List Nat) (a:Bool) (l:List Int) (m:List (Int×Bool)),(∀ z,(NT m z).getD false=l.any (fun x=>x==z)) →
  ((ks.foldl (Wn o) (a,l,m)).1,(ks.foldl (Wn o) (a,l,m)).2.1)=ks.foldl (Ar o) (a,l)
 | [],a,l,m,h=>rfl
 | k::ks,a,l,m,h=>by
  rw [dM,dM];have e2:Ar o (a,l) k=(a || (NT m (o k)).getD false,l++[o k]):=by unfold Ar;rw [h]
  rw [e2];refine MV o ks _ _ _ fun z=>?_
  rw [Ul,List.any_append];by_cases e:o k=z
  ·simp [e]
  ·simp [e,h]
def yA (p:List ai) (v:Sec) (k:Nat):Int:=off p (picks v.2.1 (dig v.2.2 k))
def Qw (p:List ai) (v:Sec):aB×Int :=
 if lh v.2.2 > 512 then (⟨[],[],false⟩,8)
 else (⟨v.1,((List.range (lh v.2.2).toNat).foldl (Ar (yA p v)) (false,[])).2,((List.range (lh v.2.2).toNat).foldl (Ar (yA p v)) (false,[])).1⟩,0)
theorem Ho (o:Nat→Int):∀ (ks:List Nat) (v:Bool×List Int),(ks.foldl (Ar o) v).2.length=v.2.length+ks.length
 | [],v=>rfl
 | k::ks,v=>by rw [dM,Ho o ks];simp [Ar];omega
theorem Pg {b:ai} {s:az} (h:(sel b s).2=0):(sel b s).1.length≤512∧∀ x,x∈(sel b s).1→bz x b.Low b.High=true:=by
 unfold sel at h ⊢;by_cases he:UT s=0
 ·simp only [he,ne_eq,cO,ax] at h ⊢;by_cases h1:s.Kind=1∧cnt s > 512
  ·simp [h1] at h
  ·simp only [h1,ax] at h ⊢;by_cases h2:s.Kind=2∧(s.List.length:Int) > 512
   ·simp [h2] at h
   ·simp only [h2,ax] at h ⊢;by_cases h3:(Xl s).any (fun x=>!bz x b.Low b.High)=true
    ·simp [h3] at h
    ·simp only [h3,ax,aG];refine ⟨?_,?_⟩
     ·obtain ⟨hk,_⟩:=DR he;unfold Xl;rcases hk with k | k | k
      ·simp [k]
      ·simp [k] at h1 ⊢;omega
      ·simp [k] at h2 ⊢;omega
     ·intro x hx;simp only [ku,not_exists,not_and,Bool.not_eq_true',Bool.not_eq_false] at h3;exact h3 x hx
 ·simp [he] at h
section
variable {p:List ai} {q:List az} {v:Sec}
structure FX (p:List ai) (q:List az) (v:Sec):Prop where
 lists:v.2.1.length=p.length
 lens:v.2.2=v.2.1.map fun l=>(l.length:Int)
 small:∀ l,l∈v.2.1→l.length≤512
 ins:∀ t,t∈p.zip v.2.1→∀ x,x∈t.2→bz x t.1.Low t.1.High=true
theorem Yg (hl:q.length=p.length) (h:yI p q = .inr v):FX p q v:=by
 obtain ⟨h1,h2,h3⟩:=Xt h;simp only [jD] at h1 h2;refine ⟨by rw [h1];simp;omega,by rw [h1,h2];simp,?_,?_⟩
 ·intro l hlm;rw [h1] at hlm;obtain ⟨t,ht,rfl⟩:=iC.1 hlm;exact (Pg (h3 t ht)).1
 ·intro t ht x hx;rw [h1] at ht;have key:∀ (p:List ai) (q:List az) (t:ai×List Int),t∈p.zip ((p.zip q).map fun t=>(sel t.1 t.2).1)→∃ s,(t.1,s)∈p.zip q∧t.2=(sel t.1 s).1:=by
   intro p
   induction p with
   | nil=>intro q t ht;simp at ht
   | cons b p ih =>
    intro q t ht;cases q with
    | nil=>simp at ht
    | cons s q =>
     simp only [List.zip_cons_cons,gB,gG] at ht;rcases ht with rfl | ht
     ·exact ⟨s,by simp,rfl⟩
     ·obtain ⟨s',h1,h2⟩:=ih q t ht;exact ⟨s',by simp [h1],h2⟩
  obtain ⟨s,g1,g2⟩:=key p q t ht;rw [g2] at hx;exact (Pg (h3 _ g1)).2 x hx
theorem FX.base (h:FX p q v) (k:Nat) (hk:(k:Int) < lh v.2.2) (hs:lh v.2.2≤512):(∀ e,e∈v.2.2→1≤e)∧inBase v.2.2 (dig v.2.2 k)∧(k:Int) < P v.2.2:=by
 have hr:∀ x,x∈v.2.2→0≤x∧x≤512:=by
  intro x hx;rw [h.lens] at hx;obtain ⟨l,hl,rfl⟩:=iC.1 hx;have:=h.small l hl;omega
 obtain ⟨h1,h2⟩:=OV hr hs;have hpos:∀ e,e∈v.2.2→1≤e:=by
  intro e he;have h0:=hr e he;rcases Int.lt_or_eq_of_le h0.1 with g | g
  ·omega
  ·have:P v.2.2=0:=Sr ⟨e,he,g.symm⟩;omega
 exact ⟨hpos,(Xf hpos (by omega) (by omega)).1,by omega⟩
theorem FX.place (h:FX p q v) (k:Nat) (hk:(k:Int) < lh v.2.2) (hs:lh v.2.2≤512):allIn p (picks v.2.1 (dig v.2.2 k))=true∧(picks v.2.1 (dig v.2.2 k)).length=p.length:=by
 obtain ⟨_,h1,_⟩:=h.base k hk hs;rw [h.lens] at h1 ⊢;exact Qj h.lists.symm h.ins h1
theorem Jo:∀ {es ds:List Int},inBase es ds→es.length=ds.length∧∀ i (h1:i < es.length) (h2:i < ds.length),0≤ds[i]∧ds[i] < es[i]
 | [],[],_=>⟨rfl,fun i h=>by simp at h⟩
 | [],_::_,h=>by cases h
 | _::_,[],h=>by cases h
 | e::es,d::ds,⟨h1,h2,h3⟩=>by
  obtain ⟨i1,i2⟩:=Jo h3;refine ⟨by simp [i1],fun i g1 g2=>?_⟩;cases i with
  | zero=>exact ⟨h1,h2⟩
  | succ i=>simpa using i2 i (by simpa using g1) (by simpa using g2)
theorem FX.UB (h:FX p q v) (k:Nat) (hk:(k:Int) < lh v.2.2) (hs:lh v.2.2≤512) {i:Nat} (hi:i < p.length) :
  ∃ (h1:i < (dig v.2.2 k).length) (h2:i < v.2.1.length) (h3:i < (picks v.2.1 (dig v.2.2 k)).length),at_ v.2.1[i] (dig v.2.2 k)[i]=some (picks v.2.1 (dig v.2.2 k))[i]:=by
 obtain ⟨_,hb,_⟩:=h.base k hk hs;obtain ⟨g1,g2⟩:=Jo hb;have l1:v.2.2.length=p.length:=by rw [h.lens];simp [h.lists]
 have hd:i < (dig v.2.2 k).length:=by omega
 have hv:i < v.2.1.length:=by rw [h.lists];exact hi
 refine ⟨hd,hv,by rw [Ib];exact hd,?_⟩;obtain ⟨r1,r2⟩:=g2 i (by omega) hd;have e:v.2.2[i]'(by omega)=(v.2.1[i].length:Int):=by
  have:v.2.2[i]?=some (v.2.1[i].length:Int):=by rw [h.lens];simp [hv]
  rw [aj (by omega)] at this;exact ji this
 rw [e] at r2;have hn:(dig v.2.2 k)[i].toNat < v.2.1[i].length:=by omega
 have hx:(picks v.2.1 (dig v.2.2 k))[i]'(by rw [Ib];exact hd)=v.2.1[i][(dig v.2.2 k)[i].toNat]:=by
  simp [picks,hv,hn]
 rw [hx];unfold at_;rw [if_pos r1];simp [hn]
theorem O9 (ok:Ok p) (h:FX p q v) (hs:lh v.2.2≤512) (hp:0≤lh v.2.2) :
  iw (eP.s2 p v (lh v.2.2) (str 1 (exs p))) (0,false,[],[])=some ((List.range (lh v.2.2).toNat).foldl (Ar (yA p v)) (false,[])):=by
 have hlen:(List.range (lh v.2.2).toNat).length=(lh v.2.2).toNat:=by simp
 have hc:((List.range (lh v.2.2).toNat).length:Int)=lh v.2.2:=by omega
 have hl7:=ok.len;rw [lZ (step:=eP.s2 p v (lh v.2.2) (str 1 (exs p))) (List.range (lh v.2.2).toNat) (fun i (b:Bool×List Int×List (Int×Bool))=>(i,b)) (fun b=>(b.1,b.2.1)) (Wn (yA p v)) (fun i b=>b.2.1.length=i) (a:=(false,[],[])) rfl ?_ ?_ rfl (by omega)]
 ·rw [MV];intro z;rfl
 ·intro i hi b hb;have hir:(List.range (lh v.2.2).toNat)[i]=i:=by simp
  have hil:(i:Int) < lh v.2.2:=by omega
  refine ⟨?_,by simp [Wn,hb]⟩;obtain ⟨b1,b2,b3⟩:=h.base i hil hs;obtain ⟨a1,a2⟩:=h.place i hil hs;have l1:v.2.2.length=p.length:=by rw [h.lens];simp [h.lists]
  simp only [eP.s2,hil,aF,hir];rw [Tq b1 (by omega) (by omega) (by omega)];simp only [ae];have T:((picks v.2.1 (dig v.2.2 i)).zip (p.zip (str 1 (exs p)))).length=p.length:=by simp [Po,exs,a2]
  have inner:iw (eP.s3 p v (str 1 (exs p)) (dig v.2.2 i)) (0,0)=some (yA p v i):=by
   rw [lZ (step:=eP.s3 p v (str 1 (exs p)) (dig v.2.2 i)) ((picks v.2.1 (dig v.2.2 i)).zip (p.zip (str 1 (exs p)))) (fun i (b:Int)=>(b,i)) (fun b=>b) Y1 (fun _ _=>True) (a:=0) rfl ?_ ?_ trivial (by omega)]
   ·rw [VP ok a2.symm a1];rfl
   ·intro j hj b _;refine ⟨?_,trivial⟩;rw [T] at hj;obtain ⟨g1,g2,g3,g4⟩:=h.UB i hil hs hj;have g5:j < (str 1 (exs p)).length:=by simp [Po,exs];exact hj
    simp only [eP.s3,iM g1,aF,jk g1,jk g5,jk g2,jk hj,ae,g4,List.getElem_zip,Y1];rw [wn (by omega)]
   ·intro b _;have e:((dig v.2.2 i).length:Int)=(((picks v.2.1 (dig v.2.2 i)).zip (p.zip (str 1 (exs p)))).length:Int):=by rw [T,← a2,Ib]
    rw [← e];simp only [eP.s3,di,ax]
  rw [inner];simp only [ae];rw [kM (by omega)];simp only [ae];rw [wn (by omega)];rfl
 ·intro b _;rw [hc];simp only [eP.s2,Int.lt_irrefl,ax]
theorem I7 (hb:JW p=0) (ok:Ok p) (h:FX p q v) (hs:lh v.2.2≤512) (hp:0≤lh v.2.2) :
  iw (eH.s2 p (v.2.1,v.2.2,v.1) (lh v.2.2)) (0,false,[])=some ((List.range (lh v.2.2).toNat).foldl (Ar (yA p v)) (false,[])):=by
 have hlen:(List.range (lh v.2.2).toNat).length=(lh v.2.2).toNat:=by simp
 have hc:((List.range (lh v.2.2).toNat).length:Int)=lh v.2.2:=by omega
 have hl7:=ok.len;rw [lZ (step:=eH.s2 p (v.2.1,v.2.2,v.1) (lh v.2.2)) (List.range (lh v.2.2).toNat) (fun i (b:Bool×List Int)=>(i,b)) (fun b=>b) (Ar (yA p v)) (fun i b=>b.2.length=i) (a:=(false,[])) rfl ?_ ?_ rfl (by omega)]
 ·intro i hi b hbl;have hir:(List.range (lh v.2.2).toNat)[i]=i:=by simp
  have hil:(i:Int) < lh v.2.2:=by omega
  refine ⟨?_,by simp [Ar,hbl]⟩;obtain ⟨b1,b2,b3⟩:=h.base i hil hs;obtain ⟨a1,a2⟩:=h.place i hil hs;have l1:v.2.2.length=p.length:=by rw [h.lens];simp [h.lists]
  have dl:(dig v.2.2 i).length=p.length:=by rw [Tn,l1]
  simp only [eH.s2,hil,aF,hir];rw [KX b1 (by omega) (by omega) (by omega)];simp only [ae];have inner:iw (eH.s3 (v.2.1,v.2.2,v.1)) (0,dig v.2.2 i)=some (picks v.2.1 (dig v.2.2 i)):=by
   rw [Wi (step:=eH.s3 (v.2.1,v.2.2,v.1)) (dig v.2.2 i) (fun j d=>(((v.2.1[j]?).getD [])[d.toNat]?).getD 0) (fun i b=>(i,b)) (fun b=>b) rfl ?_ ?_ (by omega)]
   ·rfl
   ·intro j hj b hbl2 hbj;obtain ⟨g1,g2,g3,g4⟩:=h.UB i hil hs (i:=j) (by omega);have hjb:j < b.length:=by omega
    have hbv:b[j]=(dig v.2.2 i)[j]:=by rw [aj hjb] at hbj;exact ji hbj
    simp only [eH.s3,iM hjb,aF,jk g2,jk hjb,ae,hbv,g4,kE];rw [wn (by omega)];simp [picks]
   ·intro b hbl2;rw [← hbl2];simp only [eH.s3,di,ax]
  rw [inner];simp only [ae];have hoff:Zi p (picks v.2.1 (dig v.2.2 i))=0:=by unfold Zi;simp [hb,a2,a1]
  rw [Nv hoff];simp only [ae];by_cases hm:b.1=true
  ·simp only [hm,aF];rw [kM (by omega)];simp only [ae];rw [wn (by omega)];simp [Ar,hm,yA]
  ·simp only [hm,ax,aG];rw [has_eq (by omega),kM (by omega)];simp only [ae];rw [wn (by omega)];simp [Ar,hm,yA]
 ·intro b _;rw [hc];simp only [eH.s2,Int.lt_irrefl,ax]
theorem FX.pos (h:FX p q v):0≤lh v.2.2:=by
 unfold lh;split
 ·omega
 ·rename_i h0
  have hr:∀ x,x∈v.2.2→1≤x∧x≤512:=by
   intro x hx;have hx':=hx;rw [h.lens] at hx;obtain ⟨l,hl,rfl⟩:=iC.1 hx;have:=h.small l hl;simp only [ku,not_exists,not_and,kF] at h0;have:=h0 _ hx';omega
  have:=Oa (a:=1) hr (by omega) (by omega);have hp:=QG fun x hq=>(hr x hq).1
  unfold YM;omega
end
def pz (p:List ai) (q:List az):aB×Int :=
 if JW p≠0 then (⟨[],[],false⟩,JW p)
 else if (q.length:Int)≠(p.length:Int) then (⟨[],[],false⟩,32)
 else match yI p q with
  | .inl e=>(⟨[],[],false⟩,e)
  | .inr v=>Qw p v
theorem NK (p:List ai) (q:List az) (hq:∀ s,s∈q→s.List.length < 16777216):qj p q=some (pz p q):=by
 unfold qj pz;rw [Et];simp only [ae];by_cases hb:JW p=0
 ·have ok:=zn hb;have hl7:=ok.len;simp only [hb,cO,ax,ne_eq];unfold eP;by_cases hl:(q.length:Int)=(p.length:Int)
  ·simp only [hl,cO,ax];have T:(p.zip q).length=q.length:=by simp;omega
   have l1:iw (eP.s1 p q) (0,[],[],[])=some (match yI p q with | .inl e=>Sum.inr (⟨[],[],false⟩,e) | .inr v=>Sum.inl v):=by
    unfold yI;rw [jV (step:=eP.s1 p q) (p.zip q) (fun i (b:Sec)=>(i,b)) (fun e=>Sum.inr (⟨[],[],false⟩,e)) (fun b=>Sum.inl b) Lm Qx (a:=([],[],[])) rfl ?_ ?_ ⟨aZ _,rfl,rfl⟩ (by omega)]
    ·cases gV Lm 0 (p.zip q) ([],[],[])<;>rfl
    ·intro i hi b hI;refine ⟨?_,fun b' e=>Ik hI e⟩;obtain ⟨i1,i2,i3⟩:=hI;rw [T] at hi;have h2:i < p.length:=by omega
     simp only [eP.s1,iM hi,aF,jk hi,jk h2,ae,List.getElem_zip,Lm];rw [Q3 _ _ (hq _ (dA hi))];simp only [ae];by_cases he:(sel p[i] q[i]).2=0
     ·simp only [he,cO,ax,ne_eq];rw [kM (by omega),kM (by omega)];simp only [ae];by_cases hk:q[i].Kind=0
      ·simp only [hk,cO,ax];rw [wn (by omega)]
      ·simp only [hk,aS,aF];rw [kM (by omega)];simp only [ae];rw [wn (by omega)]
     ·simp only [he,aS,aF,ne_eq]
    ·intro b _;rw [T];simp only [eP.s1,di,ax]
   rw [l1];simp only [ae];cases hv:yI p q with
   | inl e=>simp
   | inr v =>
    have so:=Yg (by omega) hv;have hp:=so.pos;have hvl:v.2.2.length=p.length:=by rw [so.lens];simp [so.lists]
    simp only [Jz (show v.2.2.length < 16777216 by omega),ae];unfold Qw;by_cases hs:lh v.2.2 > 512
    ·simp only [hs,aF,ae]
    ·simp only [hs,ax];rw [Oo (by omega)];simp only [ae];rw [RP (by simp [exs];omega)];simp only [ae];rw [O9 ok so (by omega) hp];simp only [ae]
  ·simp [hl]
 ·simp [hb]
theorem Di (p:List ai) (q:List az) (hq:∀ s,s∈q→s.List.length < 16777216):eH p q=some (pz p q):=by
 unfold eH pz;rw [zQ];simp only [ae];by_cases hb:JW p=0
 ·have ok:=zn hb;have hl7:=ok.len;simp only [hb,cO,ax,ne_eq];by_cases hl:(q.length:Int)=(p.length:Int)
  ·simp only [hl,cO,ax];have T:(p.zip q).length=q.length:=by simp;omega
   have l1:iw (eH.s1 p q) (0,[],[],[])=some (match yI p q with | .inl e=>Sum.inr (⟨[],[],false⟩,e) | .inr v=>Sum.inl (v.2.1,v.2.2,v.1)):=by
    unfold yI;rw [jV (step:=eH.s1 p q) (p.zip q) (fun i (b:Sec)=>(i,b.2.1,b.2.2,b.1)) (fun e=>Sum.inr (⟨[],[],false⟩,e)) (fun b=>Sum.inl (b.2.1,b.2.2,b.1)) Lm Qx (a:=([],[],[])) rfl ?_ ?_ ⟨aZ _,rfl,rfl⟩ (by omega)]
    ·cases gV Lm 0 (p.zip q) ([],[],[])<;>rfl
    ·intro i hi b hI;refine ⟨?_,fun b' e=>Ik hI e⟩;obtain ⟨i1,i2,i3⟩:=hI;rw [T] at hi;have h2:i < p.length:=by omega
     simp only [eH.s1,iM hi,aF,jk hi,jk h2,ae,List.getElem_zip,Lm];rw [Ph _ _ (hq _ (dA hi)),if_pos (ok.num _ (dA h2))];simp only [ae];by_cases he:(sel p[i] q[i]).2=0
     ·simp only [he,cO,ax,ne_eq];rw [kM (by omega),kM (by omega)];simp only [ae];by_cases hk:q[i].Kind=0
      ·simp only [hk,cO,ax];rw [wn (by omega)]
      ·simp only [hk,aS,aF];rw [kM (by omega)];simp only [ae];rw [wn (by omega)]
     ·simp only [he,aS,aF,ne_eq]
    ·intro b _;rw [T];simp only [eH.s1,di,ax]
   rw [l1];simp only [ae];cases hv:yI p q with
   | inl e=>simp
   | inr v =>
    have so:=Yg (by omega) hv;have hp:=so.pos;have hvl:v.2.2.length=p.length:=by rw [so.lens];simp [so.lists]
    simp only [yG (show v.2.2.length < 16777216 by omega),ae];unfold Qw;by_cases hs:lh v.2.2 > 512
    ·simp only [hs,aF,ae]
    ·simp only [hs,ax];rw [I7 hb ok so (by omega) hp];simp only [ae]
  ·simp [hl]
 ·simp [hb]
theorem xm {q:List az} (h:q.length < 16777216) (hq:∀ s,s∈q→s.List.length < 16777216):gp q=some q:=by
 unfold gp;rw [vC (step:=gp.s1 q) q (fun s=>s) (fun i b=>(i,b)) (fun b=>b) rfl ?_ ?_ (by omega)]
 ·simp
 ·intro i hi b hb;simp only [gp.s1,iM hi,aF,jk hi,ae];have:=hq _ (dA hi);rw [ui (by omega)];simp only [ae];rw [kM (by omega),wn (by omega)];rfl
 ·intro b;simp only [gp.s1,di,ax]
set_option linter.unusedVariables false
set_option linter.unusedSimpArgs false
structure XC (a:ag):Prop where
 b:JW a.Bounds=0
 len:(a.Elements.length:Int)=P (exs a.Bounds)
 int:∀ x,x∈a.Elements→eF x=true
theorem LH:∀ (xs:List Int) (i:Nat),(∀ x,x∈xs→eF x=true)↔gV (fun i b x=>if eF x=true then Sum.inr b else Sum.inl i) i xs () = .inr ()
 | [],i=>by simp [gV]
 | x::xs,i=>by
  simp only [gV,gG,forall_eq_or_imp];by_cases h:eF x=true
  ·simp only [h,aF,true_and];exact LH xs (i+1)
  ·simp [h]
theorem Tc {a:ag} (h:(chk a).2=0):XC a:=by
 unfold chk at h;split at h
 ·rename_i hb;exact absurd h hb
 rename_i hb
 split at h
 ·cases h
 rename_i hl
 have hb':=aH.1 hb;have hl':=aH.1 hl;have ok:=zn hb';refine ⟨hb',by have:=ok.size;rw [hl'];exact this.1,?_⟩;cases hq:VD a.Elements with
 | inl i=>rw [hq] at h;cases h
 | inr u=>exact (LH _ 0).2 hq
theorem Hr (o:Nat→Int):∀ (ks:List Nat) (v:Bool×List Int),(ks.foldl (Ar o) v).2=v.2++ks.map o
 | [],v=>by simp
 | k::ks,v=>by rw [dM,Hr o ks];simp [Ar]
theorem Hq (o:Nat→Int):∀ (ks:List Nat) (a:Bool) (l:List Int),(ks.foldl (Ar o) (a,l)).1=false→a=false∧(l.Nodup→(l++ks.map o).Nodup)
 | [],a,l,h=>⟨h,fun hn=>by simpa using hn⟩
 | k::ks,a,l,h=>by
  rw [dM] at h;obtain ⟨h1,h2⟩:=Hq o ks _ _ h;simp only [Bool.or_eq_false_iff,List.any_eq_false,kF] at h1;refine ⟨h1.1,fun hn=>?_⟩;have:(l++[o k]).Nodup:=by
   rw [List.nodup_append];refine ⟨hn,by simp,?_⟩;intro x hx y hy;simp only [gQ] at hy;subst hy;exact h1.2 x hx
  have:=h2 this;simpa using this
structure Sct (p:List ai) (s:aB):Prop where
 range:∀ o,o∈s.Offsets→0≤o∧o < P (exs p)
 nodup:s.ManyOne=false→s.Offsets.Nodup
 len:(s.Offsets.length:Int)=P s.Extents
 ext:∀ e,e∈s.Extents→0≤e∧e≤512
 dims:s.Extents.length≤7
 small:s.Offsets.length≤512
theorem VX {b:ai} {s:az} (h:(sel b s).2=0) (hk:s.Kind=0):(sel b s).1.length=1:=by
 unfold sel at h ⊢;by_cases he:UT s=0
 ·simp only [he,ne_eq,cO,ax,hk,show ¬ (0:Int)=1 by decide,show ¬ (0:Int)=2 by decide,false_and] at h ⊢;by_cases h3:(Xl s).any (fun x=>!bz x b.Low b.High)=true
  ·simp [h3] at h
  ·simp only [h3,ax,aG];unfold Xl;simp [hk]
 ·simp [he] at h
theorem Py (a b:List Int):P (a++b)=P a * P b:=by
 induction a with
 | nil=>simp [P]
 | cons x a ih=>simp [P,ih,Int.mul_assoc]
theorem O8:∀ {T:List (ai×az)} {i:Nat} {v v':Sec},gV Lm i T v = .inr v'→P v.1=P v.2.2→(∀ e,e∈v.1→0≤e∧e≤512)→P v'.1=P v'.2.2∧(∀ e,e∈v'.1→0≤e∧e≤512)∧v'.1.length≤v.1.length+T.length
 | [],i,v,v',h,h1,h2=>by cases h;exact ⟨h1,h2,by simp⟩
 | t::T,i,v,v',h,h1,h2=>by
  simp only [gV] at h;cases hf:Lm i v t with
  | inl e=>rw [hf] at h;cases h
  | inr v2 =>
   rw [hf] at h;unfold Lm at hf;split at hf
   ·cases hf
   ·rename_i hs
    have hs:=aH.1 hs;cases hf;have hsl:=(Pg hs).1;by_cases hk:t.2.Kind=0
    ·simp only [hk,ne_eq,cO,ax] at h;have e1:=VX hs hk;obtain ⟨g1,g2,g3⟩:=O8 h (by simp only [Py,e1,P];simp [h1]) h2;exact ⟨g1,g2,by simp at g3 ⊢;omega⟩
    ·simp only [hk,ne_eq,aS,aF] at h;obtain ⟨g1,g2,g3⟩:=O8 h (by simp only [Py,h1]) (by
      intro e he;simp only [aP,gQ] at he;rcases he with he | he
      ·exact h2 e he
      ·omega)
     exact ⟨g1,g2,by simp at g3 ⊢;omega⟩
theorem Rw {p:List ai} {q:List az} (h:(pz p q).2=0):Sct p (pz p q).1:=by
 unfold pz at h ⊢;by_cases hb:JW p=0
 ·have ok:=zn hb;have hl7:=ok.len;simp only [hb,ne_eq,cO,ax] at h ⊢;by_cases hl:(q.length:Int)=(p.length:Int)
  ·simp only [hl,cO,ax] at h ⊢;cases hv:yI p q with
   | inl e =>
    rw [hv] at h
    exfalso
    have key:∀ (T:List (ai×az)) (i:Nat) (v:Sec) (e:Int),gV Lm i T v = .inl e→e≠0:=by
     intro T
     induction T with
     | nil=>intro i v e h;cases h
     | cons t T ih =>
      intro i v e h;simp only [gV] at h;cases hf:Lm i v t with
      | inl e' =>
       rw [hf] at h;cases h;unfold Lm at hf;split at hf
       ·rename_i hs;cases hf;exact hs
       ·cases hf
      | inr v2=>rw [hf] at h;exact ih _ _ _ h
    exact key _ _ _ _ hv h
   | inr v =>
    rw [hv] at h;have so:=Yg (by omega) hv;obtain ⟨x1,x2,x3⟩:=O8 hv rfl (fun e he=>by cases he);simp only at h ⊢;unfold Qw at h ⊢;by_cases hs:lh v.2.2 > 512
    ·simp [hs] at h
    ·simp only [hs,ax] at h ⊢;have hp:=so.pos;have hr:∀ x,x∈v.2.2→0≤x∧x≤512:=by
      intro x hx;rw [so.lens] at hx;obtain ⟨l,hl,rfl⟩:=iC.1 hx;have:=so.small l hl;omega
     obtain ⟨z1,z2⟩:=OV hr (by omega);have T:(p.zip q).length≤7:=by simp;omega
     refine ⟨?_,?_,?_,x2,by show v.1.length≤7;simp at x3;omega,?_⟩
     ·intro o ho;simp only [Hr,jD] at ho;obtain ⟨k,hk,rfl⟩:=iC.1 ho;have hk':(k:Int) < lh v.2.2:=by have:=jY.1 hk;omega
      obtain ⟨a1,a2⟩:=so.place k hk' (by omega);exact JL (zY a2.symm ok.num a1)
     ·intro hm;have:=(Hq _ _ _ _ hm).2 (by simp);simp only [Hr,jD] at this ⊢;exact this
     ·simp only [Ho,kY,lM];omega
     ·simp only [Ho,kY,lM];omega
  ·simp [hl] at h
 ·simp [hb] at h
theorem UW {a:ag} (h1:a.Bounds.length < 16777216) (h2:a.Elements.length < 16777216):pg a a=some true:=by
 unfold pg;rw [OH h2 h2];simp only [ae,mX,cO,ax];rw [oV (step:=pg.s1 a a) a.Bounds (fun _=>(none:Option Bool)) (fun c=>Sum.inr c) (Sum.inl ()) rfl ?_ ?_ (by omega)]
 ·have:a.Bounds.findSome? (fun _=>(none:Option Bool))=none:=by simp
  rw [this];rfl
 ·intro i hi;simp only [pg.s1,iM hi,aF,jk hi,ae,mX,Bool.and_self,cO,ax];rw [wn (by omega)]
 ·simp only [pg.s1,di,ax]
end Go.Sh
set_option linter.all false
namespace Go.Sh
open Go.Lx
theorem Uj (rs:List aQ) (h:rs.length < 1000):gm rs=some (match rs.findSome? (fun r=>if r.holds=true then none else some r.code) with | some c=>c | none=>0):=by
 unfold gm;rw [oV (step:=gm.s1 rs) rs (fun r=>if r.holds=true then none else some r.code) (fun c=>Sum.inr c) (Sum.inl ()) rfl ?_ ?_ (by omega)]
 ·cases rs.findSome? (fun r=>if r.holds=true then none else some r.code)<;>rfl
 ·intro i hi;simp only [gm.s1,iM hi,aF,jk hi,ae];by_cases e:rs[i].holds=true
  ·simp only [e,cO,ax,aF];rw [wn (by omega)]
  ·simp only [e,aS,aF];rfl
 ·simp only [gm.s1,di,ax]
theorem qO (b:Bool) (c:Int):gm [aQ.mk b c]=some (if b=true then 0 else c):=by
 rw [Uj _ (by simp)];cases b<;>rfl
theorem Wl (a b:Bool) (c d:Int):gm [aQ.mk a c,aQ.mk b d]=some (if a=true then (if b=true then 0 else d) else c):=by
 rw [Uj _ (by simp)];cases a<;>cases b<;>rfl
theorem ZA (x y:Int):iG [x,y]=some (if x=0 then y else x):=by
 unfold iG;rw [oV (step:=iG.s1 [x,y]) [x,y] (fun r=>if r=0 then none else some r) (fun c=>Sum.inr c) (Sum.inl ()) rfl ?_ ?_ (by simp)]
 ·by_cases h:x=0<;>by_cases k:y=0<;>simp [h,k]
 ·intro i hi;simp only [iG.s1,iM hi,aF,jk hi,ae];have hi2:i < 2:=by simpa using hi
  by_cases e:[x,y][i]=0
  ·simp only [e,cO,ax,aF];rw [wn (by omega)]
  ·simp only [e,aS,aF];rfl
 ·simp only [iG.s1,di,ax]
theorem Hf (a b c:Int):fA a b c=bW a b c:=by
 unfold fA bW;simp only [Bool.not_or,← decide_not]
 congr 1<;>exact decide_eq_decide.2 (by omega)
theorem Ju {α:Type} {n:Nat} {a:α} (h:n≤16777216):IX (n:Int) a=some (List.replicate n a):=by unfold IX;rw [if_pos (by omega)];simp
def clean (n:ah):Bool :=
 (((((((n.Kind==0) || (n.Value==0))&&(((n.Kind==1) || ((n.Kind==8) || (n.Kind==9))) || (n.Var==0)))&&((bV n.Kind) || (n.B==0)))&&(((bV n.Kind) || (n.Kind==7)) || (n.A==0)))&&((n.Kind==1) || ((n.Subscripts.length:Int)==0)))&&((n.Kind==9) || ((n.Forms.length:Int)==0)))
theorem Q5 (n:ah):jq n=some (clean n):=by
 unfold jq;by_cases h1:n.Kind=1
 ·rw [if_pos h1];unfold jq.j1 clean;simp [h1]
 ·rw [if_neg h1];by_cases h8:n.Kind=8
  ·rw [if_pos h8];unfold jq.j1 clean;simp [h8]
  ·rw [if_neg h8];unfold jq.j1 clean;have e1:(n.Kind==1)=false:=by simpa using h1
   have e8:(n.Kind==8)=false:=by simpa using h8
   simp only [e1,e8,Bool.false_or]
def QY (i:Nat) (n:ah):Bool:=(fF n).all fun k=>bW k 0 ((i:Int) - 1)
def P9 (i:Nat) (n:ah):Int:=if ¬ bW n.Kind 0 9=true then 15 else if (QY i n&&clean n)=true then 0 else 3
def bump (b:List Int) (k:Int):List Int:=b.set k.toNat (w (b.getD k.toNat 0+1))
def SX (b:List Int) (n:ah):List Int:=(fF n).foldl bump b
theorem BV (b:List Int) (k:Int):(bump b k).length=b.length:=by simp [bump]
theorem uD:∀ (ks:List Int) (b:List Int),(ks.foldl bump b).length=b.length
 | [],b=>rfl
 | k::ks,b=>by rw [dM,uD ks,BV]
theorem F9 (b:List Int) (n:ah):(SX b n).length=b.length:=uD _ _
theorem oQ {a b c:Int}:bW a b c=true↔b≤a∧a≤c:=by unfold bW;simp
theorem at_in {α:Type} [Inhabited α] {xs:List α} {k:Int} {d:α} (h0:0≤k) (h:k < xs.length):at_ xs k=some (xs.getD k.toNat d):=by
 have e:k=((k.toNat:Nat):Int):=by omega
 rw [e,jk (by omega)];simp only [kE]
 congr 1
 rw [aO,aj (by omega)];rfl
theorem Qv (i:Nat):∀ (ks:List Int) (j:Nat) (b:List Int),gV (ρ:=Int×List Int) (fun _ b k=>if bW k 0 ((i:Int) - 1)=true then .inr (bump b k) else .inl (3,b)) j ks b =
  if ks.all (fun k=>bW k 0 ((i:Int) - 1))=true then .inr (ks.foldl bump b) else .inl (3,((gV (ρ:=Int×List Int) (fun _ b k=>if bW k 0 ((i:Int) - 1)=true then .inr (bump b k) else .inl (3,b)) j ks b).elim (fun e=>e.2) id))
 | [],j,b=>by simp [gV]
 | k::ks,j,b=>by
  simp only [gV,oz,dM];by_cases h:bW k 0 ((i:Int) - 1)=true
  ·simp only [h,aF,iZ];exact Qv i ks (j+1) (bump b k)
  ·simp [h]
theorem YL {i:Nat} {n:ah} {b:List Int} (hi:i < b.length) (hb:b.length < 1000):∃ b',iT i n b=some (P9 i n,b')∧(P9 i n=0→b'=SX b n):=by
 unfold iT P9;by_cases hk:bW n.Kind 0 9=true
 ·simp only [hk,cO,ax];have hw:w ((i:Int) - 1)=(i:Int) - 1:=yK (by omega) (by omega);have hol:(fF n).length < 3:=by unfold fF;split<;>(try split)<;>simp
  rw [jV (step:=iT.s1 i n) (fF n) (fun j b=>(j,b)) (fun r=>Sum.inr r) (fun b=>Sum.inl b) (fun _ b k=>if bW k 0 ((i:Int) - 1)=true then .inr (bump b k) else .inl (3,b)) (fun _ b'=>b'.length=b.length) (a:=b) rfl ?_ ?_ rfl (by omega)]
  ·rw [Qv];unfold QY;by_cases ha:(fF n).all (fun k=>bW k 0 ((i:Int) - 1))=true
   ·simp only [ha,aF,ae,Q5,qO,iZ];exact ⟨_,rfl,fun _=>rfl⟩
   ·simp only [ha,aG,ax,ae,Bool.false_and];exact ⟨_,rfl,fun h=>by simp at h⟩
  ·intro j hj b' hb';refine ⟨?_,?_⟩
   ·simp only [iT.s1,iM hj,aF,jk hj,ae,hw];by_cases hin:bW (fF n)[j] 0 ((i:Int) - 1)=true
    ·simp only [hin,cO,ax,aF];have hr:=oQ.1 hin;rw [at_in (d:=0) hr.1 (by omega),wn (by omega)];rfl
    ·simp only [hin,aS,aF];rfl
   ·intro b'' e;split at e
    ·cases e;rw [BV];exact hb'
    ·cases e
  ·intro b' hb';simp only [iT.s1,di,ax]
 ·simp only [hk,aS,aF];exact ⟨b,rfl,fun h=>by simp at h⟩
def tC (i:Nat) (b:List Int) (n:ah):Sum Int (List Int):=if P9 i n=0 then .inr (SX b n) else .inl (P9 i n)
theorem zV {α β ρ τ:Type} {f:Nat→β→α→Sum ρ β} {g:Nat→β→α→Sum τ β} (π:ρ→τ) (Inv:β→Prop) (N:Nat)
  (h:∀ i b x,i < N→Inv b→(match f i b x with | .inl r=>g i b x = .inl (π r) | .inr b'=>g i b x = .inr b'∧Inv b')):∀ (xs:List α) (i:Nat) (b:β),i+xs.length=N→Inv b →
  (match gV f i xs b with | .inl r=>gV g i xs b = .inl (π r) | .inr b'=>gV g i xs b = .inr b')
 | [],i,b,_,_=>rfl
 | x::xs,i,b,hN,hI=>by
  have h1:=h i b x (by simp at hN;omega) hI;simp only [gV];cases hf:f i b x with
  | inl r=>rw [hf] at h1;simp only at h1 ⊢;rw [h1]
  | inr b' =>
   rw [hf] at h1;simp only at h1 ⊢;rw [h1.1];exact zV π Inv N h xs (i+1) b' (by simp at hN;omega) h1.2
def c1F (i:Nat) (b:List Int) (n:ah):Sum (Int×Int×List Int) (List Int) :=
 match iT i n b with
 | some (c,b')=>if c=0 then .inr b' else .inl ((i:Int),c,b')
 | none => .inr b
theorem XY (e:List ah) (he:e.length < 1000):∃ k b',bD e (List.replicate e.length 0)=some (k,(match gV tC 0 e (List.replicate e.length 0) with | .inl c=>c | .inr _=>0),b') ∧
  (∀ b,gV tC 0 e (List.replicate e.length 0) = .inr b→b'=b)∧(∀ c,gV tC 0 e (List.replicate e.length 0) = .inl c→c≠0):=by
 have key:∀ i (b:List Int) n,i < e.length→b.length=e.length→(match c1F i b n with | .inl r=>tC i b n = .inl r.2.1∧r.2.1≠0 | .inr b'=>tC i b n = .inr b'∧b'.length=e.length):=by
  intro i b n hi hb;obtain ⟨b',h1,h2⟩:=YL (n:=n) (show i < b.length by omega) (by omega);unfold c1F tC;rw [h1];by_cases hn:P9 i n=0
  ·simp only [hn,aF];rw [h2 hn];exact ⟨rfl,by rw [F9];exact hb⟩
  ·simp only [hn,ax];exact ⟨trivial,hn⟩
 unfold bD;rw [jV (step:=bD.s1 e) e (fun i b=>(i,b)) (fun r=>Sum.inr r) (fun b=>Sum.inl b) c1F (fun _ b=>b.length=e.length) (a:=List.replicate e.length 0) rfl ?_ ?_ (by simp) (by omega)]
 ·have h3:=zV (f:=c1F) (g:=tC) (fun r=>r.2.1) (fun b=>b.length=e.length) e.length (fun i b x hi hb=>by
   have:=key i b x hi hb;cases hc:c1F i b x with
   | inl r=>rw [hc] at this;exact this.1
   | inr b'=>rw [hc] at this;exact this) e 0 (List.replicate e.length 0) (by simp) (by simp)
  have h4:=zV (f:=c1F) (g:=fun i b n=>match c1F i b n with | .inl r=>if r.2.1=0 then .inr b else .inl r.2.1 | .inr b' => .inr b') (fun r=>r.2.1) (fun b=>b.length=e.length) e.length (fun i b x hi hb=>by
   have:=key i b x hi hb;cases hc:c1F i b x with
   | inl r=>rw [hc] at this;simp only [this.2,ax]
   | inr b'=>rw [hc] at this;simp only;exact ⟨trivial,this.2⟩) e 0 (List.replicate e.length 0) (by simp) (by simp)
  have h5:∀ (xs:List ah) (i:Nat) (b:List Int) r,i+xs.length=e.length→b.length=e.length→gV c1F i xs b = .inl r→r.2.1≠0:=by
   intro xs
   induction xs with
   | nil=>intro i b r _ _ h;cases h
   | cons x xs ih =>
    intro i b r hN hb h;have:=key i b x (by simp at hN;omega) hb;simp only [gV] at h;cases hc:c1F i b x with
    | inl r'=>rw [hc] at this h;cases h;exact this.2
    | inr b'=>rw [hc] at this h;exact ih (i+1) b' r (by simp at hN;omega) this.2 h
  cases hs:gV c1F 0 e (List.replicate e.length 0) with
  | inl r =>
   rw [hs] at h3;simp only at h3;rw [h3];refine ⟨r.1,r.2.2,rfl,?_,?_⟩
   ·intro b h;cases h
   ·intro c h;cases h;exact h5 _ _ _ r (by simp) (by simp) hs
  | inr b' =>
   rw [hs] at h3;simp only at h3;rw [h3];refine ⟨0,b',rfl,?_,?_⟩
   ·intro b h;cases h;rfl
   ·intro c h;cases h
 ·intro i hi b hb;have hc:=key i b e[i] hi hb;refine ⟨?_,?_⟩
  ·simp only [bD.s1,iM hi,aF,jk hi,ae];obtain ⟨b',h1,h2⟩:=YL (n:=e[i]) (show i < b.length by omega) (by omega);unfold c1F;rw [h1];simp only [ae];by_cases hn:P9 i e[i]=0
   ·simp only [hn,cO,ax,aF];rw [wn (by omega)]
   ·simp only [hn,aS,aF,ax]
  ·intro b' h;rw [h] at hc;exact hc.2
 ·intro b hb;simp only [bD.s1,di,ax]
def xJ (N:Nat):Nat→List Int→Int
 | _,[]=>0
 | i,x::xs=>if ((i+1=N∧x=0)∨(i+1≠N∧x=1)) then xJ N (i+1) xs else 3
def GK (e:List ah):Int :=
 if e.length=0 then 17 else if 40 < e.length then 8 else
 match gV tC 0 e (List.replicate e.length 0) with
 | .inl c=>c
 | .inr b=>xJ e.length 0 b
theorem La (N:Nat):∀ (xs:List Int) (i:Nat),gV (β:=Unit) (ρ:=Int) (fun i b x=>if ((i+1=N∧x=0)∨(i+1≠N∧x=1)) then .inr b else .inl 3) i xs ()=if xJ N i xs=0 then .inr () else .inl 3
 | [],i=>rfl
 | x::xs,i=>by
  simp only [gV,xJ];by_cases h:((i+1=N∧x=0)∨(i+1≠N∧x=1))
  ·simp only [h,aF];exact La N xs (i+1)
  ·simp [h]
theorem Dk (N:Nat):∀ (xs:List Int) (i:Nat),xJ N i xs=0∨xJ N i xs=3
 | [],i => .inl rfl
 | x::xs,i=>by
  simp only [xJ];split
  ·exact Dk N xs (i+1)
  ·exact .inr rfl
theorem Zq {b:List Int} {N:Nat} (hN:0 < N) (hb:b.length=N) (hl:N < 1000):∃ k,dm b (w ((N:Int) - 1))=some (k,xJ N 0 b):=by
 have hw:w ((N:Int) - 1)=(N:Int) - 1:=yK (by omega) (by omega);rw [hw];unfold dm;rw [jV (step:=dm.s1 b ((N:Int) - 1)) b (fun i (_:Unit)=>i) (fun (r:Int×Int)=>Sum.inr r) (fun _=>Sum.inl ()) (fun i b x=>if ((i+1=N∧x=0)∨(i+1≠N∧x=1)) then .inr b else .inl ((i:Int),3)) (fun _ _=>True) rfl ?_ ?_ trivial (by omega)]
 ·have h3:=zV (f:=fun i (b:Unit) (x:Int)=>if ((i+1=N∧x=0)∨(i+1≠N∧x=1)) then Sum.inr b else Sum.inl ((i:Int),(3:Int))) (g:=fun i b x=>if ((i+1=N∧x=0)∨(i+1≠N∧x=1)) then .inr b else .inl (3:Int)) (fun r=>r.2) (fun _=>True) b.length (fun i b x _ _=>by
   by_cases h:((i+1=N∧x=0)∨(i+1≠N∧x=1))
   ·simp only [h,aF];exact ⟨trivial,trivial⟩
   ·simp only [h,ax]) b 0 () (by simp) trivial
  rw [La] at h3;cases hs:gV (fun i (b:Unit) (x:Int)=>if ((i+1=N∧x=0)∨(i+1≠N∧x=1)) then Sum.inr b else Sum.inl ((i:Int),(3:Int))) 0 b () with
  | inl r =>
   rw [hs] at h3;simp only at h3;rcases Dk N b 0 with h | h
   ·rw [h] at h3;simp at h3
   ·rw [h] at h3 ⊢;simp at h3;obtain ⟨k,c⟩:=r;simp only at h3;subst h3;exact ⟨k,rfl⟩
  | inr u =>
   rw [hs] at h3;simp only at h3;rcases Dk N b 0 with h | h
   ·rw [h];exact ⟨0,rfl⟩
   ·rw [h] at h3;simp at h3
 ·intro i hi u _;refine ⟨?_,fun _ _=>trivial⟩;simp only [dm.s1,iM hi,aF,jk hi,ae,rU,qO];by_cases e1:i+1=N
  ·have e2:((i:Int)==(N:Int) - 1)=true:=by simp;omega
   have e3:((i:Int) != (N:Int) - 1)=false:=by simp;omega
   simp only [e2,e3,iZ,Bool.false_and,Bool.or_false,e1,true_and,ne_eq,cO,false_and,or_false];by_cases e4:b[i]=0
   ·simp [e4];rw [wn (by omega)];congr 3
   ·simp [e4]
  ·have e2:((i:Int)==(N:Int) - 1)=false:=by simp;omega
   have e3:((i:Int) != (N:Int) - 1)=true:=by simp;omega
   simp only [e2,e3,iZ,Bool.false_and,Bool.false_or,e1,false_and,ne_eq,aS,true_and,false_or];by_cases e4:b[i]=1
   ·simp [e4];rw [wn (by omega)];congr 3
   ·simp [e4]
 ·intro u _;simp only [dm.s1,di,ax]
theorem FC:∀ (xs:List ah) (i:Nat) (b b':List Int),gV tC i xs b = .inr b'→b'.length=b.length
 | [],i,b,b',h=>by cases h;rfl
 | x::xs,i,b,b',h=>by
  simp only [gV,tC] at h;split at h
  ·cases h
  ·rename_i b1 hb1
   split at hb1
   ·cases hb1;rw [FC xs (i+1) _ b' h,F9]
   ·cases hb1
theorem QW (e:List ah) (he:e.length < 1000):tV e=some (GK e):=by
 unfold tV GK;rw [Wl];by_cases h0:e.length=0
 ·simp [h0]
 ·have h0':decide ((e.length:Int) > 0)=true:=by simp;omega
  rw [if_pos h0',if_neg h0];by_cases h4:40 < e.length
  ·have:decide ((e.length:Int)≤40)=false:=by simp;omega
   rw [this,if_pos h4];rfl
  ·have:decide ((e.length:Int)≤40)=true:=by simp;omega
   rw [this,if_neg h4];simp only [aF,ae,cO,ax,Ju (show e.length≤16777216 by omega)];obtain ⟨k,b',h1,h2,h3⟩:=XY e he;rw [h1];simp only [ae];cases hs:gV tC 0 e (List.replicate e.length 0) with
   | inl c=>simp only;rw [if_pos (h3 c hs)]
   | inr b =>
    have:=h2 b hs;subst this;have hl:=FC _ _ _ _ hs;simp only [mi] at hl;obtain ⟨k2,h5⟩:=Zq (b:=b') (N:=e.length) (by omega) hl (by omega);simp only [cO,ax,h5,ae]
end Go.Sh
set_option linter.all false
namespace Go.Sh
open Go.Lx
theorem YK (i N:Nat) (h:i < N) (hN:N < 1000):ve (decide ((i:Int) < w ((N:Int) - 1)))=if i+1=N then 0 else 1:=by
 rw [yK (by omega) (by omega)];unfold ve;by_cases e:i+1=N
 ·have:decide ((i:Int) < (N:Int) - 1)=false:=by simp;omega
  simp [this,e]
 ·have:decide ((i:Int) < (N:Int) - 1)=true:=by simp;omega
  simp [this,e]
theorem UL (e:List ah) (b:List Int) (hb:b.length=e.length) (hl:e.length < 1000):iw (dD.s4 e b) 0=some (if xJ e.length 0 b=0 then .inl () else .inr (xJ e.length 0 b)):=by
 rw [jV (step:=dD.s4 e b) b (fun i (_:Unit)=>i) (fun (r:Int)=>Sum.inr r) (fun _=>Sum.inl ()) (fun i b x=>if ((i+1=e.length∧x=0)∨(i+1≠e.length∧x=1)) then .inr b else .inl 3) (fun _ _=>True) rfl ?_ ?_ trivial (by omega)]
 ·rw [La];rcases Dk e.length b 0 with h | h
  ·rw [h];rfl
  ·rw [h];rfl
 ·intro i hi u _;refine ⟨?_,fun _ _=>trivial⟩;simp only [dD.s4,iM (show i < e.length by omega),aF,jk hi,ae];rw [YK i e.length (by omega) hl];by_cases e1:i+1=e.length
  ·by_cases e2:b[i]=0
   ·simp only [e1,e2,aF,cO,ax,true_and,true_or];rw [wn (by omega)];rw [← e1]
   ·simp [e1,e2]
  ·by_cases e2:b[i]=1
   ·simp only [e1,e2,aF,cO,ax,ne_eq,aS,true_and,or_true];rw [wn (by omega)]
   ·simp [e1,e2]
 ·intro u _;have:((b.length:Nat):Int)=(e.length:Int):=by omega
  rw [this];simp only [dD.s4,di,ax]
theorem V5 {i:Nat} {b:List Int} {n:ah} {a8:Bool×Bool×Bool×Bool×Bool×Bool} (hi:i < b.length) (hb:b.length < 1000) (h:a8.2.2.2.2.2=true→bW n.B 0 ((i:Int) - 1)=true) (b0:List Int) (h0:b0.length=b.length) :
  dD.j3 ((i:Int),b) n a8 b0=some (.inl (((i+1:Nat):Int),if a8.2.2.2.2.2=true then bump b0 n.B else b0)):=by
 unfold dD.j3;cases ha:a8.2.2.2.2.2 with
 | true =>
  have hr:=oQ.1 (h ha);simp only [aF];rw [at_in (d:=0) hr.1 (by omega),wn (by omega)];rfl
 | false=>simp only [aG,ax];rw [wn (by omega)]
theorem Zx {i:Nat} {b:List Int} {n:ah} {a8:Bool×Bool×Bool×Bool×Bool×Bool} (hi:i < b.length) (hb:b.length < 1000)
  (hops:fF n=(if a8.2.2.2.2.1=true then [n.A] else [])++(if a8.2.2.2.2.2=true then [n.B] else []))
  (hcl:clean n=!(((((((!a8.1)&&(n.Value != 0)) || ((!a8.2.1)&&(n.Var != 0))) || ((!a8.2.2.1)&&(decide ((n.Subscripts.length:Int) > 0)))) || ((!a8.2.2.2.1)&&(decide ((n.Forms.length:Int) > 0)))) || ((!a8.2.2.2.2.1)&&(n.A != 0))) || ((!a8.2.2.2.2.2)&&(n.B != 0)))) (hk:bW n.Kind 0 9=true) :
  dD.j2 ((i:Int),b) n a8=some (match tC i b n with | .inl c => .inr (.inr c) | .inr b' => .inl (((i+1:Nat):Int),b')):=by
 unfold dD.j2 tC P9;simp only [hk,cO,ax];have hw:w ((i:Int) - 1)=(i:Int) - 1:=yK (by omega) (by omega);have hX:(((((((!a8.1)&&(n.Value != 0)) || ((!a8.2.1)&&(n.Var != 0))) || ((!a8.2.2.1)&&(decide ((n.Subscripts.length:Int) > 0)))) || ((!a8.2.2.2.1)&&(decide ((n.Forms.length:Int) > 0)))) || ((!a8.2.2.2.2.1)&&(n.A != 0))) || ((!a8.2.2.2.2.2)&&(n.B != 0)))=!(clean n):=by rw [hcl,Bool.not_not]
 by_cases hc:clean n=true
 ·rw [if_neg (by rw [hX,hc];simp)];simp only [Hf,hw];unfold QY SX;rw [hops,hc];obtain ⟨a1,a2,a3,a4,a5,a6⟩:=a8;simp only at *
  cases a5<;>cases a6
  ·simp;rw [V5 hi hb (by simp) b rfl];simp
  ·by_cases hB:bW n.B 0 ((i:Int) - 1)=true
   ·simp [hB];rw [V5 hi hb (by simp [hB]) b rfl];simp
   ·simp [hB]
  ·by_cases hA:bW n.A 0 ((i:Int) - 1)=true
   ·have hr:=oQ.1 hA;simp [hA];rw [at_in (d:=0) hr.1 (by omega)];simp only [ae];rw [V5 hi hb (by simp) _ (by simp)];simp [bump]
   ·simp [hA]
  ·by_cases hA:bW n.A 0 ((i:Int) - 1)=true
   ·by_cases hB:bW n.B 0 ((i:Int) - 1)=true
    ·have hr:=oQ.1 hA;simp [hA,hB];rw [at_in (d:=0) hr.1 (by omega)];simp only [ae];rw [V5 hi hb (by simp [hB]) _ (by simp)];simp [bump]
    ·simp [hA,hB]
   ·simp [hA]
 ·have:clean n=false:=ja hc;rw [if_pos (by rw [hX,this];rfl)];simp [this]
theorem kinds {k:Int} (h:bW k 0 9=true):k=0∨k=1∨k=2∨k=3∨k=4∨k=5∨k=6∨k=7∨k=8∨k=9:=by
 have:=oQ.1 h;omega
theorem Rt {e:List ah} {i:Nat} (hi:i < e.length) (he:e.length < 1000) {b:List Int} (hb:b.length=e.length) :
  dD.s1 e ((i:Int),b)=some (match tC i b e[i] with | .inl c => .inr (.inr c) | .inr b' => .inl (((i+1:Nat):Int),b')):=by
 simp only [dD.s1,iM hi,aF,jk hi,ae,Hf];generalize e[i]=n;by_cases hk:bW n.Kind 0 9=true
 ·simp only [hk,cO,ax];have key:=fun (a8:Bool×Bool×Bool×Bool×Bool×Bool) h1 h2=>Zx (i:=i) (b:=b) (n:=n) (a8:=a8) (by omega) (by omega) h1 h2 hk
  have hz:∀ m:Nat,decide ((m:Int) > 0)=!((m:Int)==0):=by
   intro m;by_cases h:m=0
   ·subst h;rfl
   ·have h1:decide ((m:Int) > 0)=true:=by simp;omega
    have h2:((m:Int)==0)=false:=by simp;exact h
    rw [h1,h2];rfl
  have hsub:=hz n.Subscripts.length;have hfor:=hz n.Forms.length;rcases kinds hk with q | q | q | q | q | q | q | q | q | q<;>simp only [q,aF,ax,show (1:Int)≠0 by omega,show ((2:Int)=0)=False by simp,show ((2:Int)=1)=False by simp,show ((2:Int)=7)=False by simp,show ((2:Int)=8)=False by simp,show ((2:Int)=9)=False by simp,Int.reduceEq] <;>
   (refine key _ ?_ ?_
    ·simp [fF,bV,q]
    ·unfold clean;rw [hsub,hfor];generalize ((n.Subscripts.length:Int)==0)=u1;generalize ((n.Forms.length:Int)==0)=u2;simp only [bV,q,bne];generalize (n.Value==0)=u3;generalize (n.Var==0)=u4;generalize (n.A==0)=u5;generalize (n.B==0)=u6;revert u1 u2 u3 u4 u5 u6;decide)
 ·simp only [hk,aS,aF];unfold tC P9;simp [hk]
theorem KW (e:List ah) (he:e.length < 1000):dD e=some (GK e):=by
 unfold dD GK;by_cases h0:e.length=0
 ·simp [h0]
 ·rw [if_neg (by omega),if_neg h0];by_cases h4:40 < e.length
  ·rw [if_pos (by omega),if_pos h4]
  ·rw [if_neg (by omega),if_neg h4];rw [Ju (by omega)];simp only [ae];rw [jV (step:=dD.s1 e) e (fun i b=>(i,b)) (fun r=>Sum.inr r) (fun b=>Sum.inl b) tC (fun _ b=>b.length=e.length) (a:=List.replicate e.length 0) rfl ?_ ?_ (by simp) (by omega)]
   ·cases hs:gV tC 0 e (List.replicate e.length 0) with
    | inl c=>rfl
    | inr b =>
     have hl:=FC _ _ _ _ hs;simp only [mi] at hl;simp only [ae];rw [UL e b hl he];rcases Dk e.length b 0 with h | h<;>rw [h]<;>rfl
   ·intro i hi b hb;refine ⟨?_,?_⟩
    ·rw [Rt hi he hb];cases tC i b e[i]<;>rfl
    ·intro b' h;unfold tC at h;split at h
     ·cases h;rw [F9];exact hb
     ·cases h
   ·intro b hb;simp only [dD.s1,di,ax]
end Go.Sh
set_option linter.all false
namespace Go.Sh
open Go.Lx
def Su {ρ τ β γ:Type} (π:ρ→τ) (R:β→γ→Prop):Sum ρ β→Sum τ γ→Prop
 | .inl r, .inl t=>t=π r
 | .inr b, .inr c=>R b c
 | _,_=>False
theorem NG {α β γ ρ τ:Type} {f:Nat→β→α→Sum ρ β} {g:Nat→γ→α→Sum τ γ} (π:ρ→τ) (R:Nat→β→γ→Prop) (e:List α)
  (h:∀ i (hi:i < e.length) b c,R i b c→Su π (R (i+1)) (f i b e[i]) (g i c e[i])) :
  ∀ (ys:List α) (i:Nat) (b:β) (c:γ),e.drop i=ys→i≤e.length→R i b c→Su π (R e.length) (gV f i ys b) (gV g i ys c)
 | [],i,b,c,hd,hi,hR=>by
  have:i=e.length:=by have:=congrArg List.length hd;simp at this;omega
  subst this;exact hR
 | y::ys,i,b,c,hd,hi,hR=>by
  have hlt:i < e.length:=by have:=congrArg List.length hd;simp at this;omega
  have hy:e[i]=y∧e.drop (i+1)=ys:=by
   rw [List.drop_eq_getElem_cons hlt] at hd;injection hd with h1 h2
   exact ⟨h1,h2⟩
  have h1:=h i hlt b c hR;rw [hy.1] at h1;simp only [gV];cases hf:f i b y with
  | inl r =>
   rw [hf] at h1;cases hg:g i c y with
   | inl t=>rw [hg] at h1;exact h1
   | inr c'=>rw [hg] at h1;exact h1.elim
  | inr b' =>
   rw [hf] at h1;cases hg:g i c y with
   | inl t=>rw [hg] at h1;exact h1.elim
   | inr c'=>rw [hg] at h1;exact NG π R e h ys (i+1) b' c' hy.2 hlt h1
theorem NH:∀ (xs:List ah) (i:Nat) (b b':List Int),gV tC i xs b = .inr b'→∀ k (hk:k < xs.length),P9 (i+k) xs[k]=0
 | [],i,b,b',h,k,hk=>by simp at hk
 | x::xs,i,b,b',h,k,hk=>by
  simp only [gV] at h;cases hs:tC i b x with
  | inl c=>rw [hs] at h;cases h
  | inr b1 =>
   rw [hs] at h;have h0:P9 i x=0:=by unfold tC at hs;split at hs;assumption;cases hs
   cases k with
   | zero=>simpa using h0
   | succ k =>
    have:=NH xs (i+1) b1 b' h k (by simpa using hk);rw [show i+1+k=i+(k+1) by omega] at this;simpa using this
structure FP (e:List ah):Prop where
 pos:0 < e.length
 len:e.length≤40
 node:∀ i (hi:i < e.length),P9 i e[i]=0
 use:∃ b,gV tC 0 e (List.replicate e.length 0) = .inr b∧xJ e.length 0 b=0
theorem UX:∀ (xs:List ah) (i:Nat) (b:List Int) (c:Int),gV tC i xs b = .inl c→c≠0
 | [],i,b,c,h=>by cases h
 | x::xs,i,b,c,h=>by
  simp only [gV] at h;cases hs:tC i b x with
  | inl c'=>rw [hs] at h;cases h;unfold tC at hs;split at hs;cases hs;cases hs;assumption
  | inr b1=>rw [hs] at h;exact UX xs (i+1) b1 c h
theorem OC {e:List ah} (h:GK e=0):FP e:=by
 unfold GK at h;split at h
 ·cases h
 ·rename_i h0
  split at h
  ·cases h
  ·rename_i h4
   cases hs:gV tC 0 e (List.replicate e.length 0) with
   | inl c=>rw [hs] at h;exact absurd h (UX _ _ _ _ hs)
   | inr b =>
    rw [hs] at h;exact ⟨by omega,by omega,fun i hi=>by have:=NH e 0 _ b hs i hi;simpa using this,b,hs,h⟩
structure Ja (i:Nat) (n:ah):Prop where
 kind:bW n.Kind 0 9=true
 ops:QY i n=true
 cl:clean n=true
theorem X7 {i:Nat} {n:ah} (h:P9 i n=0):Ja i n:=by
 unfold P9 at h;split at h
 ·cases h
 ·rename_i h1
  split at h
  ·rename_i h2
   simp only [bn] at h2;exact ⟨by simpa using h1,h2.1,h2.2⟩
  ·cases h
theorem Ja.A {i:Nat} {n:ah} (h:Ja i n) (hk:n.Kind=7∨bV n.Kind=true):0≤n.A∧n.A < i:=by
 have h2:=h.ops;unfold QY fF at h2;rcases hk with q | q
 ·simp [q,bV] at h2;have:=oQ.1 h2;omega
 ·simp [q] at h2;have:=oQ.1 h2.1;omega
theorem Ja.B {i:Nat} {n:ah} (h:Ja i n) (hk:bV n.Kind=true):0≤n.B∧n.B < i:=by
 have h2:=h.ops;unfold QY fF at h2;simp [hk] at h2;have:=oQ.1 h2.2;omega
theorem PI {n:ah} (hk:bW n.Kind 0 9=true) (h0:n.Kind≠0) (h1:n.Kind≠1) (h7:n.Kind≠7) (h8:n.Kind≠8) (h9:n.Kind≠9):bV n.Kind=true:=by
 have:=oQ.1 hk;unfold bV;simp;omega
def Bv:aB:=aB.mk [] [] false
def sZ (l:List ag) (v:Int) (q:List az):aB×Int :=
 match at_ l v with
 | none=>(Bv,6)
 | some a=>((pz a.Bounds q).1,if (pz a.Bounds q).2=0 then (if (pz a.Bounds q).1.Offsets.length≤60 then 0 else 8) else (pz a.Bounds q).2)
theorem Dw {α:Type} {xs:List α} {k:Int}:at_ xs k=none↔¬ bW k 0 ((xs.length:Int) - 1)=true:=by
 rw [oQ];unfold at_;by_cases h:0≤k
 ·rw [if_pos h,List.getElem?_eq_none_iff];omega
 ·rw [if_neg h];simp;omega
theorem Qy {l:List ag} {v:Int} {q:List az} (hl:l.length < 1000) (hq:∀ s,s∈q→s.List.length < 16777216):oZ l v q=some (sZ l v q):=by
 unfold oZ sZ;rw [yK (by omega) (by omega)];cases ha:at_ l v with
 | none=>rw [if_pos (Dw.1 ha)];rfl
 | some a =>
  have:bW v 0 ((l.length:Int) - 1)=true:=by
   have h1:=mt Dw.2 (by rw [ha];simp:¬ at_ l v=none);simpa using h1
  rw [if_neg (by simp [this])];simp only [ae,NK a.Bounds q hq,qO,ZA];by_cases h1:(pz a.Bounds q).1.Offsets.length≤60
  ·have:decide (((pz a.Bounds q).1.Offsets.length:Int)≤60)=true:=by simp;omega
   simp only [this,h1,aF]
  ·have:decide (((pz a.Bounds q).1.Offsets.length:Int)≤60)=false:=by simp;omega
   simp only [this,h1,ax,aG]
def kJ (l:List ag) (i:Nat) (out:List (List Int)) (n:ah):Sum Int (List (List Int)) :=
 if n.Kind=0 then (if bW n.Value (-2147483648) 2147483647=true then .inr (out++[[]]) else .inl 2)
 else if n.Kind=1 then (if (sZ l n.Var n.Subscripts).2=0 then .inr (out++[(sZ l n.Var n.Subscripts).1.Extents]) else .inl (sZ l n.Var n.Subscripts).2)
 else if n.Kind=7 then .inr (out++[out.getD n.A.toNat []])
 else if out.getD n.A.toNat []≠[]∧out.getD n.B.toNat []≠[]∧out.getD n.A.toNat []≠out.getD n.B.toNat [] then .inl 10
 else .inr (out++[if out.getD n.A.toNat []=[] then out.getD n.B.toNat [] else out.getD n.A.toNat []])
def shE (l:List ag) (e:List ah):Sum Int (List (List Int)):=gV (kJ l) 0 e []
def odd (n:ah):Bool:=(n.Kind==8) || (n.Kind==9)
def yC (l:List ag) (e:List ah):Int :=
 if GK e≠0 then GK e else if e.any odd=true then 15 else match shE l e with | .inl c=>c | .inr _=>0
def Qh (l:List ag) (e:List ah):List (List Int):=match shE l e with | .inl _=>[] | .inr out=>out
theorem Ee {l:List ag} {i:Nat} {out out':List (List Int)} {n:ah} (h:kJ l i out n = .inr out'):out'.length=out.length+1:=by
 unfold kJ at h
 repeat' split at h
 all_goals first | (cases h;simp) | (cases h;done)
theorem U3 {l:List ag} {i:Nat} {out:List (List Int)} {n:ah} {c:Int} (h:kJ l i out n = .inl c):c≠0:=by
 unfold kJ at h
 repeat' split at h
 all_goals first | (cases h;first | assumption | simp) | (cases h;done)
def Small (e:List ah):Prop:=e.length < 1000∧∀ n,n∈e→∀ s,s∈n.Subscripts→s.List.length < 16777216
theorem Tz {a b:List Int} (ha:a.length < 16777216):slices_Equal_int a b=some (a==b):=by
 unfold slices_Equal_int;by_cases h:a.length=b.length
 ·rw [if_neg (by omega)];rw [jV (step:=slices_Equal_int.s1 a b) a (fun i (_:Unit)=>i) (fun (r:Bool)=>Sum.inr r) (fun _=>Sum.inl ()) (fun i u x=>if x=b.getD i 0 then .inr u else .inl false) (fun _ _=>True) rfl ?_ ?_ trivial (by omega)]
  ·have key:∀ (xs ys:List Int) (i:Nat),b.drop i=ys→xs.length=ys.length→gV (ρ:=Bool) (fun i (u:Unit) x=>if x=b.getD i 0 then .inr u else .inl false) i xs ()=if xs=ys then .inr () else .inl false:=by
    intro xs
    induction xs with
    | nil=>intro ys i _ hy;cases ys with | nil=>rfl | cons _ _=>simp at hy
    | cons x xs ih =>
     intro ys i hd hy;cases ys with
     | nil=>simp at hy
     | cons y ys =>
      have hlt:i < b.length:=by have:=congrArg List.length hd;simp at this;omega
      rw [List.drop_eq_getElem_cons hlt] at hd;injection hd with h1 h2
      simp only [gV];have e1:b.getD i 0=y:=by rw [aO,aj hlt];exact h1
      rw [e1];by_cases hx:x=y
      ·simp only [hx,aF];rw [ih ys (i+1) h2 (by simpa using hy)];simp
      ·simp [hx]
   rw [key a b 0 (by simp) h];by_cases e:a=b
   ·simp [e]
   ·have:(a==b)=false:=by simpa using e
    simp [e,this]
  ·intro i hi u _;refine ⟨?_,fun _ _=>trivial⟩;simp only [slices_Equal_int.s1,iM hi,aF,jk hi,jk (show i < b.length by omega),ae];have e1:b.getD i 0=b[i]:=by rw [aO,aj (by omega)];rfl
   rw [e1];by_cases hx:a[i]=b[i]
   ·simp only [hx,cO,ax,aF];rw [wn (by omega)]
   ·simp [hx]
  ·intro u _;simp only [slices_Equal_int.s1,di,ax]
 ·rw [if_pos (by omega)];have:(a==b)=false:=by simp;intro q;exact h (by rw [q])
  rw [this]
end Go.Sh
set_option linter.all false
namespace Go.Sh
open Go.Lx
theorem X9 (e:List ah) (he:e.length < 1000):dO e=some (e.any odd):=by
 unfold dO aV;obtain ⟨k,hk⟩:=wH (step:=aV.s1 e) e odd (fun i=>Sum.inr i) (Sum.inl ()) (s:=0) rfl (fun i hi=>by
  simp only [aV.s1,iM hi,aF,jk hi,ae,qN];by_cases o:odd e[i]=true
  ·have:((e[i].Kind==8) || (e[i].Kind==9))=true:=o;simp only [this,o,aF]
  ·have:((e[i].Kind==8) || (e[i].Kind==9))=false:=ja o;simp only [this,o,ax,aG];rw [wn (by omega)]) (by simp only [aV.s1,di,ax]) (by omega)
 rw [hk];by_cases h:e.any odd=true
 ·simp only [h,aF,ae];simp
 ·have h':e.any odd=false:=ja h;simp only [h',aG,ax,ae];rfl
theorem UK (e:List ah) (he:e.length < 1000):iw (iJ.s1 e) 0=some (if e.any odd=true then .inr ([],15) else .inl ()):=by
 obtain ⟨k,hk⟩:=wH (step:=iJ.s1 e) e odd (fun i=>Sum.inr (([]:List (List Int)),(15:Int))) (Sum.inl ()) (s:=0) rfl (fun i hi=>by
  simp only [iJ.s1,iM hi,aF,jk hi,ae];unfold odd;by_cases h8:e[i].Kind=8
  ·simp [h8]
  ·by_cases h9:e[i].Kind=9
   ·simp [h9]
   ·simp only [h8,h9,ax];have e8:(e[i].Kind==8)=false:=by simpa using h8
    have e9:(e[i].Kind==9)=false:=by simpa using h9
    simp only [e8,e9,Bool.or_false,aG,ax];rw [wn (by omega)]) (by simp only [iJ.s1,di,ax]) (by omega)
 rw [hk]
structure Nod (i:Nat) (n:ah):Prop where
 ok:Ja i n
 k8:n.Kind≠8
 k9:n.Kind≠9
theorem Nj {e:List ah} (F:FP e) (ho:e.any odd=false) (i:Nat) (hi:i < e.length):Nod i e[i]:=by
 have:=List.any_eq_false.1 ho e[i] (dA hi);unfold odd at this;simp at this;exact ⟨X7 (F.node i hi),this.1,this.2⟩
theorem WH {l:List ag} {n:ah} {o:List (List Int)} {j:Int} (hl:l.length < 1000) (hq:∀ s,s∈n.Subscripts→s.List.length < 16777216) (hlen:o.length < 1000) :
  (if ¬ ((fA n.Var 0 (w ((l.length:Int) - 1)))=true) then (some (.inr (.inr (([]:List (List Int)),6))):Option (Sum (Int×List (List Int)) (Sum (List (List Int)) ((List (List Int))×Int))))
    else
     (at_ l n.Var).bind fun x19 =>
     (eH x19.Bounds n.Subscripts).bind fun x20 =>
     if ¬ x20.2=0 then
      some (.inr (.inr (([]:List (List Int)),x20.2)))
     else
      if (x20.1.Offsets.length:Int) > 60 then
       some (.inr (.inr (([]:List (List Int)),8)))
      else
       (app o ([x20.1.Extents]:List (List Int))).bind fun x23 =>
       some (.inl (j,x23)))=some (if (sZ l n.Var n.Subscripts).2=0 then .inl (j,o++[(sZ l n.Var n.Subscripts).1.Extents]) else .inr (.inr ([],(sZ l n.Var n.Subscripts).2))):=by
 rw [Hf,yK (by omega) (by omega)];unfold sZ;cases ha:at_ l n.Var with
 | none=>rw [if_pos (Dw.1 ha)];rfl
 | some a =>
  have:bW n.Var 0 ((l.length:Int) - 1)=true:=by
   have h1:=mt Dw.2 (by rw [ha];simp:¬ at_ l n.Var=none);simpa using h1
  rw [if_neg (by simp [this])];simp only [ae,Di a.Bounds n.Subscripts hq];by_cases h2:(pz a.Bounds n.Subscripts).2=0
  ·simp only [h2,cO,ax,aF];by_cases h3:(pz a.Bounds n.Subscripts).1.Offsets.length≤60
   ·rw [if_neg (by omega),kM (by omega)];simp [h3]
   ·rw [if_pos (by omega)];simp [h3]
  ·simp [h2]
theorem sU {b:List (List Int)} (k:Nat) (h:∀ x,x∈b→x.length≤7):(b.getD k []).length≤7:=by
 rw [aO];cases hk:b[k]? with
 | none=>simp
 | some x=>exact h x (bC hk)
theorem Ai {l:List ag} {v:Int} {q:List az} (h:(sZ l v q).2=0):∃ a,at_ l v=some a∧Sct a.Bounds (sZ l v q).1∧(sZ l v q).1.Offsets.length≤60∧sZ l v q=pz a.Bounds q:=by
 unfold sZ at h ⊢;cases ha:at_ l v with
 | none=>rw [ha] at h;cases h
 | some a =>
  rw [ha] at h;simp only at h ⊢;by_cases h2:(pz a.Bounds q).2=0
  ·simp only [h2,aF] at h ⊢;by_cases h3:(pz a.Bounds q).1.Offsets.length≤60
   ·exact ⟨a,rfl,Rw h2,h3,by simp [h3,← h2]⟩
   ·simp [h3] at h
  ·simp [h2] at h
theorem EP {l:List ag} {i:Nat} {b b':List (List Int)} {n:ah} (h:kJ l i b n = .inr b') (hb:∀ x,x∈b→x.length≤7):∀ x,x∈b'→x.length≤7:=by
 have key:∀ z:List Int,z.length≤7→∀ x,x∈b++[z]→x.length≤7:=by
  intro z hz x hx;simp only [aP,gQ] at hx;rcases hx with hx | hx
  ·exact hb x hx
  ·rw [hx];exact hz
 unfold kJ at h;split at h
 ·split at h
  ·cases h;exact key _ (by simp)
  ·cases h
 ·split at h
  ·split at h
   ·rename_i h2
    cases h;obtain ⟨a,_,hs,_⟩:=Ai h2;exact key _ hs.dims
   ·cases h
  ·split at h
   ·cases h;exact key _ (sU _ hb)
   ·split at h
    ·cases h
    ·cases h;refine key _ ?_;split
     ·exact sU _ hb
     ·exact sU _ hb
theorem WF {l:List ag} {e:List ah} (hl:l.length < 1000) (hs:Small e) (F:FP e) (ho:e.any odd=false) :
  iw (iJ.s2 l e) (0,[])=some (match shE l e with | .inl c => .inr ([],c) | .inr out => .inl out):=by
 unfold shE;rw [jV (step:=iJ.s2 l e) e (fun i b=>(i,b)) (fun (c:Int)=>Sum.inr (([]:List (List Int)),c)) (fun b=>Sum.inl b) (kJ l) (fun i b=>b.length=i∧∀ x,x∈b→x.length≤7) (a:=[]) rfl ?_ ?_ ⟨rfl,by simp⟩ (by have:=hs.1;omega)]
 ·cases gV (kJ l) 0 e []<;>rfl
 ·intro i hi b ⟨hb,h7s⟩;have hN:=Nj F ho i hi;have hlt:=hs.1;refine ⟨?_,fun b' h=>⟨by rw [Ee h,hb],EP h h7s⟩⟩;simp only [iJ.s2,iM hi,aF,jk hi,ae];have hq:=hs.2 e[i] (dA hi);generalize e[i]=n at *
  unfold kJ;by_cases h0:n.Kind=0
  ·simp only [h0,aF];rw [show kS n.Value=bW n.Value (-2147483648) 2147483647 from Hf _ _ _];by_cases hv:bW n.Value (-2147483648) 2147483647=true
   ·simp only [hv,cO,ax,aF];rw [kM (by omega),wn (by omega)];rfl
   ·simp [hv]
  ·by_cases h1:n.Kind=1
   ·simp only [h0,h1,aF,ax,Int.reduceEq];rw [WH hl hq (by omega),wn (by omega)];by_cases h2:(sZ l n.Var n.Subscripts).2=0<;>simp [h2]
   ·by_cases h7:n.Kind=7
    ·simp only [h0,h1,h7,aF,ax,Int.reduceEq];have hA:=hN.ok.A (.inl h7);rw [at_in (d:=[]) hA.1 (by omega)];simp only [ae];rw [kM (by omega),wn (by omega)];rfl
    ·simp only [h0,h1,h7,ax];have hb2:=PI hN.ok.kind h0 h1 h7 hN.k8 hN.k9;have hA:=hN.ok.A (.inr hb2);have hB:=hN.ok.B hb2;rw [at_in (d:=[]) hA.1 (by omega),at_in (d:=[]) hB.1 (by omega)];simp only [ae];have hxs:=sU n.A.toNat h7s;have hys:=sU n.B.toNat h7s;generalize b.getD n.A.toNat []=x at *
     generalize b.getD n.B.toNat []=y at *
     have la:∀ z:List Int,z.length≤7→((app b [z]).bind fun x35=>(some (.inl ((w ((i:Int)+1)),x35)):Option (Sum (Int×List (List Int)) (Sum (List (List Int)) ((List (List Int))×Int)))))=some (.inl (((i+1:Nat):Int),b++[z])):=by
      intro z _;rw [kM (by omega),wn (by omega)];rfl
     simp only [la x hxs,la y hys];cases x with
     | nil=>simp
     | cons x0 xr =>
      cases y with
      | nil=>simp;omega
      | cons y0 yr =>
       have e1:(decide (((x0::xr).length:Int) > 0)&&decide (((y0::yr).length:Int) > 0))=true:=by simp
       rw [if_pos e1,OH (by omega) (by omega)];have e2:¬ (((x0::xr).length:Int)=0):=by simp;omega
       by_cases he:x0::xr=y0::yr
       ·simp [he]
       ·have:(x0::xr==y0::yr)=false:=by simpa using he
        simp only [ae,this];simp [he]
 ·intro b hb;simp only [iJ.s2,di,ax]
theorem FB {l:List ag} {e:List ah} {out:List (List Int)} (h:shE l e = .inr out):out.length=e.length∧∀ x,x∈out→x.length≤7:=by
 have key:∀ (xs:List ah) (i:Nat) (b b':List (List Int)),gV (kJ l) i xs b = .inr b'→(∀ x,x∈b→x.length≤7)→b'.length=b.length+xs.length∧∀ x,x∈b'→x.length≤7:=by
  intro xs
  induction xs with
  | nil=>intro i b b' h hb;cases h;exact ⟨rfl,hb⟩
  | cons x xs ih =>
   intro i b b' h hb;simp only [gV] at h;cases hf:kJ l i b x with
   | inl c=>rw [hf] at h;cases h
   | inr b1 =>
    rw [hf] at h;have:=ih (i+1) b1 b' h (EP hf hb);rw [Ee hf] at this;exact ⟨by rw [this.1];simp;omega,this.2⟩
 have:=key e 0 [] out h (by simp);exact ⟨by simpa using this.1,this.2⟩
theorem U2 {l:List ag} {e:List ah} {c:Int} (h:shE l e = .inl c):c≠0:=by
 have key:∀ (xs:List ah) (i:Nat) (b:List (List Int)) (c:Int),gV (kJ l) i xs b = .inl c→c≠0:=by
  intro xs
  induction xs with
  | nil=>intro i b c h;cases h
  | cons x xs ih =>
   intro i b c h;simp only [gV] at h;cases hf:kJ l i b x with
   | inl c'=>rw [hf] at h;cases h;exact U3 hf
   | inr b1=>rw [hf] at h;exact ih _ _ _ h
 exact key _ _ _ _ h
theorem Nw {l:List ag} {e:List ah} (hl:l.length < 1000) (hs:Small e):iJ l e=some (if yC l e=0 then Qh l e else [],yC l e):=by
 unfold iJ yC Qh;rw [KW e hs.1];simp only [ae];by_cases hf:GK e=0
 ·simp only [hf,cO,ne_eq,ax];rw [UK e hs.1];by_cases ho:e.any odd=true
  ·simp [ho]
  ·have ho':e.any odd=false:=ja ho;simp only [ho',aG,ax,ae];rw [WF hl hs (OC hf) ho'];cases h:shE l e with
   | inl c=>simp [U2 h]
   | inr out=>simp
 ·simp [hf]
def sec (l:List ag) (n:ah):aB:=if n.Kind=1 then (sZ l n.Var n.Subscripts).1 else Bv
structure JP (l:List ag) (e:List ah) (i:Nat) (b:List aB×List (List Int)) (out:List (List Int)):Prop where
 secs:b.1=(e.take i).map (sec l)++List.replicate (e.length - i) Bv
 shs:b.2=out++List.replicate (e.length - i) []
 len:out.length=i
 small:∀ x,x∈out→x.length≤7
theorem Il {α:Type} (a:List α) (x d:α) {n i:Nat} (ha:a.length=i) (hi:i < n):(a++List.replicate (n - i) d).set i x=(a++[x])++List.replicate (n - (i+1)) d:=by
 have:n - i=(n - (i+1))+1:=by omega
 rw [this,List.replicate_succ,List.set_append_right _ _ (by omega),ha];simp
theorem Ku {α:Type} (a:List α) (d:α) {k n:Nat} (hk:k < a.length):(a++List.replicate n d).getD k d=a.getD k d:=by
 rw [aO,aO,bK hk]
theorem WP {α β:Type} (f:α→β) (e:List α) (i:Nat) (hi:i < e.length):(e.take (i+1)).map f=(e.take i).map f++[f e[i]]:=by
 rw [jA hi,List.map_append];rfl
theorem Xd {l:List ag} {e:List ah} (hl:l.length < 1000) (hs:Small e) {i:Nat} (hi:i < e.length) (hN:Nod i e[i]) {b:List aB×List (List Int)} {out:List (List Int)} (R:JP l e i b out) :
  ∃ c b2 b3,oW i e[i] l e b.1 b.2=some (c,b2,b3)∧(match kJ l i out e[i] with | .inl t=>c=t∧c≠0 | .inr out'=>c=0∧JP l e (i+1) (b2,b3) out'):=by
 obtain ⟨b2,b3⟩:=b;obtain ⟨r1,r2,r3,r4⟩:=R;simp only at r1 r2;have hlt:=hs.1;have h3l:b3.length=e.length:=by rw [r2];simp;omega
 have h2l:b2.length=e.length:=by rw [r1];simp;omega
 have hq:=hs.2 e[i] (dA hi);have tm:=WP (sec l) e i hi;have mk:∀ (z:List Int),z.length≤7→e[i].Kind≠1→JP l e (i+1) (b2,b3.set i z) (out++[z]):=by
  intro z hz h1;refine ⟨?_,?_,by simp [r3],?_⟩
  ·simp only;rw [tm,r1];have:sec l e[i]=Bv:=by unfold sec;rw [if_neg h1]
   rw [this];have:e.length - i=(e.length - (i+1))+1:=by omega
   rw [this,List.replicate_succ];simp
  ·simp only;rw [r2,Il out z [] r3 hi]
  ·intro x hx;simp only [aP,gQ] at hx;rcases hx with hx | hx
   ·exact r4 x hx
   ·rw [hx];exact hz
 unfold oW kJ;by_cases h0:e[i].Kind=0
 ·simp only [h0,aF,qO,ae];by_cases hv:bW e[i].Value (-2147483648) 2147483647=true
  ·simp only [hv,aF];refine ⟨_,_,_,rfl,rfl,?_⟩;have:=mk [] (by simp) (by omega);rw [r2,Il out [] [] r3 hi] at this;rw [r2];have e1:e.length - i=(e.length - (i+1))+1:=by omega
   have e2:out++List.replicate (e.length - i) []=(out++[([]:List Int)])++List.replicate (e.length - (i+1)) []:=by rw [e1,List.replicate_succ];simp
   rw [e2];exact this
  ·simp only [hv,ax];exact ⟨_,_,_,rfl,rfl,by simp⟩
 ·by_cases h1:e[i].Kind=1
  ·simp only [h0,h1,aF,ax,Int.reduceEq,Qy hl hq,ae];rw [jk (by omega),jk (by omega)];simp only [ae,kE];by_cases h2:(sZ l e[i].Var e[i].Subscripts).2=0
   ·obtain ⟨a,_,hsc,_⟩:=Ai h2;simp only [h2,aF];refine ⟨_,_,_,rfl,rfl,?_,?_,by simp [r3],?_⟩
    ·simp only;rw [tm,r1,Il _ _ Bv (by simp;omega) hi];have:sec l e[i]=(sZ l e[i].Var e[i].Subscripts).1:=by unfold sec;rw [if_pos h1]
     rw [this]
    ·simp only;rw [r2,Il out _ [] r3 hi]
    ·intro x hx;simp only [aP,gQ] at hx;rcases hx with hx | hx
     ·exact r4 x hx
     ·rw [hx];exact hsc.dims
   ·simp only [h2,ax];exact ⟨_,_,_,rfl,rfl,h2⟩
  ·by_cases h7:e[i].Kind=7
   ·have hA:=hN.ok.A (.inl h7);simp only [h0,h1,h7,aF,ax,Int.reduceEq];rw [at_in (d:=[]) hA.1 (by omega),jk (by omega)];simp only [ae,kE];refine ⟨_,_,_,rfl,rfl,?_⟩;have e1:b3.getD e[i].A.toNat []=out.getD e[i].A.toNat []:=by rw [r2];exact Ku out [] (by omega)
    rw [e1];exact mk _ (sU _ r4) h1
   ·have hb2:=PI hN.ok.kind h0 h1 h7 hN.k8 hN.k9;have hA:=hN.ok.A (.inr hb2);have hB:=hN.ok.B hb2;simp only [h0,h1,h7,ax];rw [at_in (d:=[]) hA.1 (by omega),at_in (d:=[]) hB.1 (by omega),jk (by omega)];simp only [ae,kE];have e1:b3.getD e[i].A.toNat []=out.getD e[i].A.toNat []:=by rw [r2];exact Ku out [] (by omega)
    have e2:b3.getD e[i].B.toNat []=out.getD e[i].B.toNat []:=by rw [r2];exact Ku out [] (by omega)
    rw [e1,e2];have hxs:=sU e[i].A.toNat r4;have hys:=sU e[i].B.toNat r4;generalize out.getD e[i].A.toNat []=x at *
    generalize out.getD e[i].B.toNat []=y at *
    unfold wI;cases x with
    | nil=>simp [qO];exact ⟨_,_,_,⟨rfl,rfl,rfl⟩,rfl,mk _ hys h1⟩
    | cons x0 xr =>
     rw [if_neg (by simp;omega)];cases y with
     | nil=>simp [qO];exact ⟨_,_,_,⟨rfl,rfl,rfl⟩,rfl,mk _ hxs h1⟩
     | cons y0 yr =>
      rw [if_neg (by simp;omega),Tz (by omega)];by_cases he:x0::xr=y0::yr
      ·simp [he,qO];rw [← he];exact ⟨_,_,_,⟨rfl,rfl,rfl⟩,rfl,mk _ hxs h1⟩
      ·have:(x0::xr==y0::yr)=false:=by simpa using he
       simp only [ae,this,qO];simp [he]
def c2F (l:List ag) (e:List ah) (i:Nat) (b:List aB×List (List Int)) (n:ah):Sum (Int×Int×List aB×List (List Int)) (List aB×List (List Int)) :=
 match oW i n l e b.1 b.2 with
 | some (c,b2,b3)=>if c=0 then .inr (b2,b3) else .inl ((i:Int),c,b2,b3)
 | none => .inr b
def sW (l:List ag) (e:List ah):dS:=dS.mk e (e.map (sec l)) (Qh l e)
theorem UE {l:List ag} {e:List ah} (hl:l.length < 1000) (hs:Small e):∃ x,uI l e=some (x,yC l e)∧(yC l e=0→x=some (sW l e)):=by
 unfold uI yC;rw [X9 e hs.1,QW e hs.1];simp only [ae,qO,ZA];have hlt:=hs.1;by_cases hf:GK e=0
 ·simp only [hf,aF,ne_eq,cO,ax];by_cases ho:e.any odd=true
  ·simp only [ho,nD,aG,ax,aF];exact ⟨none,by simp,by simp⟩
  ·have ho':e.any odd=false:=ja ho;have F:=OC hf;simp only [ho',Bool.not_false,aF,cO,ax,aG,Ju (show e.length≤16777216 by omega),ae];have step:∀ i (hi:i < e.length) b c,JP l e i b c→Su (fun (r:Int×Int×List aB×List (List Int))=>r.2.1) (JP l e (i+1)) (c2F l e i b e[i]) (kJ l i c e[i]):=by
    intro i hi b c hR;obtain ⟨k,b2,b3,h1,h2⟩:=Xd hl hs hi (Nj F ho' i hi) hR;unfold c2F;rw [h1];cases hsh:kJ l i c e[i] with
    | inl t=>rw [hsh] at h2;simp only [h2.2,ax];exact h2.1.symm
    | inr out'=>rw [hsh] at h2;simp only [h2.1,aF];exact h2.2
   have R0:JP l e 0 (List.replicate e.length Bv,List.replicate e.length []) []:=⟨by simp,by simp,rfl,by simp⟩
   have sim:=NG (f:=c2F l e) (g:=kJ l) (fun r=>r.2.1) (JP l e) e step e 0 _ [] rfl (by omega) R0;have hloop:iw (bG.s1 e l e) (0,List.replicate e.length Bv,List.replicate e.length [])=some (match gV (c2F l e) 0 e (List.replicate e.length Bv,List.replicate e.length []) with | .inl r => .inr r | .inr b => .inl b):=by
    rw [jV (step:=bG.s1 e l e) e (fun i b=>(i,b)) (fun r=>Sum.inr r) (fun b=>Sum.inl b) (c2F l e) (fun i b=>∃ c,JP l e i b c) (a:=(List.replicate e.length Bv,List.replicate e.length [])) rfl ?_ ?_ ⟨_,R0⟩ (by omega)]
    ·cases gV (c2F l e) 0 e (List.replicate e.length Bv,List.replicate e.length [])<;>rfl
    ·rintro i hi b ⟨c,hR⟩
     have hst:=step i hi b c hR;obtain ⟨k,b2,b3,h1,h2⟩:=Xd hl hs hi (Nj F ho' i hi) hR;refine ⟨?_,?_⟩
     ·simp only [bG.s1,iM hi,aF,jk hi,ae];unfold c2F;rw [h1];simp only [ae];by_cases hk:k=0
      ·simp only [hk,cO,ax,aF];rw [wn (by omega)]
      ·simp only [hk,aS,aF,ax]
     ·intro b' hb';rw [hb'] at hst;cases hsh:kJ l i c e[i] with
      | inl t=>rw [hsh] at hst;exact hst.elim
      | inr out'=>rw [hsh] at hst;exact ⟨out',hst⟩
    ·intro b hb;simp only [bG.s1,di,ax]
   unfold bG;rw [show (aB.mk [] [] false)=Bv from rfl,hloop];simp only [ae];unfold shE;cases hsc:gV (c2F l e) 0 e (List.replicate e.length Bv,List.replicate e.length []) with
   | inl r =>
    rw [hsc] at sim;cases hsh:gV (kJ l) 0 e [] with
    | inl t =>
     rw [hsh] at sim;have ht:t=r.2.1:=sim;have:=U2 hsh;exact ⟨_,by rw [ht];rfl,fun h=>absurd h this⟩
    | inr out=>rw [hsh] at sim;exact sim.elim
   | inr b =>
    rw [hsc] at sim;cases hsh:gV (kJ l) 0 e [] with
    | inl t=>rw [hsh] at sim;exact sim.elim
    | inr out =>
     rw [hsh] at sim;have hR:JP l e e.length b out:=sim;refine ⟨_,rfl,fun _=>?_⟩;have h1:=hR.secs;have h2:=hR.shs;simp at h1 h2;have ho:Qh l e=out:=by unfold Qh shE;rw [hsh]
     simp only [sW,ho,h1,h2]
 ·simp only [hf,ax,aS,aF,ne_eq];exact ⟨none,rfl,fun h=>h.elim⟩
end Go.Sh
set_option linter.all false
namespace Go.Sh
open Go.Lx
abbrev wr (x:Int):Int:=IntKind.i32.wrap x
def EU (x:Int):Prop := -2147483648≤x∧x≤2147483647
theorem Xy (x:Int):wr x=if 2147483648≤x % 4294967296 then x % 4294967296 - 4294967296 else x % 4294967296:=by
 simp only [wr,IntKind.wrap,IntKind.bits,IntKind.signed];simp
theorem ZN (x:Int):EU (wr x):=by
 rw [Xy];unfold EU;have:=Int.emod_nonneg x (b:=4294967296) (by omega);have:=Int.emod_lt_of_pos x (b:=4294967296) (by omega);split<;>omega
theorem Zd {x:Int} (h:EU x):wr x=x:=by
 rw [Xy];unfold EU at h;split<;>omega
def opV (k a b:Int):Int:=ng k a b
theorem WR (b:Bool):EU (oI b):=by unfold oI EU;split<;>omega
theorem Y2 (k a b:Int):EU (opV k a b):=by
 unfold opV ng
 repeat' split
 all_goals first | exact ZN _ | exact WR _
theorem Ya (a b c:Int):opV 7 a b=opV 7 a c:=by simp [opV,ng]
theorem JG {l:List ag} {i:Nat} {b b':List (List Int)} {n:ah} (h:kJ l i b n = .inr b'):∃ z,b'=b++[z]:=by
 unfold kJ at h
 repeat' split at h
 all_goals first | (cases h;exact ⟨_,rfl⟩) | (cases h;done)
theorem Xv {l:List ag}:∀ (xs:List ah) (i:Nat) (b b':List (List Int)),gV (kJ l) i xs b = .inr b'→∃ t,b'=b++t
 | [],i,b,b',h=>by cases h;exact ⟨[],by simp⟩
 | x::xs,i,b,b',h=>by
  simp only [gV] at h;cases hf:kJ l i b x with
  | inl c=>rw [hf] at h;cases h
  | inr b1 =>
   rw [hf] at h;obtain ⟨t,rfl⟩:=Xv xs (i+1) b1 b' h;obtain ⟨z,rfl⟩:=JG hf;exact ⟨z::t,by simp⟩
theorem Xu {l:List ag}:∀ (xs:List ah) (i:Nat) (b b':List (List Int)),gV (kJ l) i xs b = .inr b'→b.length=i→∀ k (hk:k < xs.length),kJ l (i+k) (b'.take (i+k)) xs[k] = .inr (b'.take (i+k+1))
 | [],i,b,b',h,hb,k,hk=>by simp at hk
 | x::xs,i,b,b',h,hb,k,hk=>by
  have h0:=h;simp only [gV] at h;cases hf:kJ l i b x with
  | inl c=>rw [hf] at h;cases h
  | inr b1 =>
   rw [hf] at h;have hl:=Ee hf;cases k with
   | zero =>
    obtain ⟨t,rfl⟩:=Xv xs (i+1) b1 b' h;obtain ⟨z,rfl⟩:=JG hf;simp only [oC,List.getElem_cons_zero];have e1:((b++[z])++t).take i=b:=by rw [List.append_assoc,List.take_append_of_le_length (by omega),fZ (by omega)]
    have e2:((b++[z])++t).take (i+1)=b++[z]:=by rw [List.take_append_of_le_length (by simp;omega),fZ (by simp;omega)]
    rw [e1,e2];exact hf
   | succ k =>
    have:=Xu xs (i+1) b1 b' h (by omega) k (by simpa using hk);rw [show i+(k+1)=i+1+k by omega];simpa using this
theorem Yi {l:List ag} {e:List ah} {out:List (List Int)} (h:shE l e = .inr out) (i:Nat) (hi:i < e.length):kJ l i (out.take i) e[i] = .inr (out.take (i+1)):=by
 have:=Xu e 0 [] out h rfl i hi;simpa using this
theorem Iu {b:List (List Int)} {i k:Nat} (hk:k < i):(b.take i).getD k []=b.getD k []:=by
 rw [aO,aO,bQ,if_pos hk]
theorem Kz {b:List (List Int)} {i:Nat} (hi:i < b.length) {z:List Int} (h:b.take (i+1)=b.take i++[z]):b.getD i []=z:=by
 rw [jA hi] at h;have:=List.append_cancel_left h;rw [aO,aj hi];simpa using this
theorem Wy {l:List ag} {e:List ah} {out:List (List Int)} (h:shE l e = .inr out) (F:FP e) (ho:e.any odd=false) {i:Nat} (hi:i < e.length) {j:Int} (hj:j∈fF e[i]) :
  0≤j∧j < i∧(out.getD j.toNat []=[]∨out.getD j.toNat []=out.getD i []):=by
 have hN:=Nj F ho i hi;have hl:=(FB h).1;have hst:=Yi h i hi;unfold fF at hj;unfold kJ at hst;by_cases hb:bV e[i].Kind=true
 ·rw [if_pos hb] at hj;have hA:=hN.ok.A (.inr hb);have hB:=hN.ok.B hb;have hk:e[i].Kind≠0∧e[i].Kind≠1∧e[i].Kind≠7:=by unfold bV at hb;simp at hb;omega
  rw [if_neg hk.1,if_neg hk.2.1,if_neg hk.2.2,Iu (by omega),Iu (by omega)] at hst;split at hst
  ·cases hst
  ·rename_i hc
   have hlast:=Kz (by omega) (Sum.inr.inj hst).symm;rw [hlast];simp only [gG,List.mem_nil_iff,or_false] at hj;rcases hj with rfl | rfl
   ·refine ⟨hA.1,hA.2,?_⟩;split
    ·rename_i q;exact .inl q
    ·exact .inr rfl
   ·refine ⟨hB.1,hB.2,?_⟩;split
    ·exact .inr rfl
    ·rename_i q
     by_cases q2:out.getD e[i].B.toNat []=[]
     ·exact .inl q2
     ·right;by_cases q3:out.getD e[i].A.toNat []=out.getD e[i].B.toNat []
      ·exact q3.symm
      ·exact absurd ⟨q,q2,q3⟩ hc
 ·rw [if_neg hb] at hj;split at hj
  ·rename_i h7
   have hA:=hN.ok.A (.inl h7);rw [if_neg (by omega),if_neg (by omega),if_pos h7,Iu (by omega)] at hst;have hlast:=Kz (by omega) (Sum.inr.inj hst).symm;simp only [gG,List.mem_nil_iff,or_false] at hj;subst hj;exact ⟨hA.1,hA.2, .inr hlast.symm⟩
  ·simp at hj
theorem QJ {b:List Int} {n:ah} {j:Nat} (h:∀ k,k∈fF n→k.toNat≠j):(SX b n).getD j 0=b.getD j 0:=by
 have key:∀ (ks:List Int) (b:List Int),(∀ k,k∈ks→k.toNat≠j)→(ks.foldl bump b).getD j 0=b.getD j 0:=by
  intro ks
  induction ks with
  | nil=>intro b _;rfl
  | cons k ks ih =>
   intro b hk;rw [dM,ih _ (fun x hx=>hk x (.tail _ hx))];have:=hk k (.head _);unfold bump;simp only [aO,jm this]
 exact key _ b h
theorem NI:∀ (xs:List ah) (i:Nat) (b b':List Int) (j:Nat),gV tC i xs b = .inr b'→(∀ n,n∈xs→∀ k,k∈fF n→k.toNat≠j)→b'.getD j 0=b.getD j 0
 | [],i,b,b',j,h,_=>by cases h;rfl
 | x::xs,i,b,b',j,h,hk=>by
  simp only [gV] at h;cases hf:tC i b x with
  | inl c=>rw [hf] at h;cases h
  | inr b1 =>
   rw [hf] at h;rw [NI xs (i+1) b1 b' j h (fun n hn=>hk n (.tail _ hn))];unfold tC at hf;split at hf
   ·cases hf;exact QJ (hk x (.head _))
   ·cases hf
theorem Xx (N:Nat):∀ (xs:List Int) (i:Nat),xJ N i xs=0→∀ k (hk:k < xs.length),i+k+1≠N→xs[k]=1
 | [],i,_,k,hk,_=>by simp at hk
 | x::xs,i,h,k,hk,hne=>by
  simp only [xJ] at h;split at h
  ·rename_i hc
   cases k with
   | zero =>
    simp only [List.getElem_cons_zero];rcases hc with hc | hc
    ·omega
    ·exact hc.2
   | succ k =>
    have:=Xx N xs (i+1) h k (by simpa using hk) (by omega);simpa using this
  ·cases h
theorem used {e:List ah} (F:FP e) (j:Nat) (hj:j+1 < e.length):∃ i,∃ hi:i < e.length,∃ k,k∈fF e[i]∧k.toNat=j:=by
 obtain ⟨b,h1,h2⟩:=F.use;have hl:=FC _ _ _ _ h1;simp only [mi] at hl;have h3:=Xx e.length b 0 h2 j (by omega) (by omega);refine Classical.byContradiction fun hn=>?_
 have h4:=NI e 0 _ b j h1 (fun n hn2 k hk q=>by
  obtain ⟨i,hi,rfl⟩:=List.mem_iff_getElem.1 hn2;exact hn ⟨i,hi,k,hk,q⟩)
 rw [aO,aj (by omega)] at h4;simp [h3,aO,List.getElem?_replicate] at h4;split at h4<;>simp at h4
theorem LC {l:List ag} {e:List ah} {out:List (List Int)} (h:shE l e = .inr out) (F:FP e) (ho:e.any odd=false):∀ (d j:Nat),j+d+1=e.length→out.getD j []=[]∨out.getD j []=out.getD (e.length - 1) []
 | 0,j,hj=>by right;congr 1;omega
 | d+1,j,hj=>by
  obtain ⟨i,hi,k,hk,hkj⟩:=used F j (by omega);obtain ⟨k0,k1,k2⟩:=Wy h F ho hi hk;rw [hkj] at k2;have hd:∃ d',d'≤d∧i+d'+1=e.length:=⟨e.length - 1 - i,by omega,by omega⟩
  obtain ⟨d',hd1,hd2⟩:=hd;rcases k2 with k2 | k2
  ·exact .inl k2
  ·rw [k2];exact LC h F ho d' i hd2
termination_by d=>d
end Go.Sh
set_option linter.all false
namespace Go.Sh
open Go.Lx
def pick (s:aB) (k:Int):Int:=if s.Extents=[] then s.Offsets.getD 0 0 else s.Offsets.getD k.toNat 0
def Y9 (l:List ag) (n:ah) (k:Int):Int :=
 match at_ l n.Var with
 | none=>0
 | some a=>a.Elements.getD (pick (sZ l n.Var n.Subscripts).1 k).toNat 0
def Lp (l:List ag) (k:Int) (out:List Int) (n:ah):Int :=
 if n.Kind=0 then n.Value else if n.Kind=1 then Y9 l n k else opV n.Kind (out.getD n.A.toNat 0) (out.getD n.B.toNat 0)
def vals (l:List ag) (k:Int) (e:List ah):List Int:=e.foldl (fun out n=>out++[Lp l k out n]) []
def value (l:List ag) (e:List ah) (k:Int):Int:=(vals l k e).getD (e.length - 1) 0
def wC (l:List ag) (e:List ah):List Int:=(Qh l e).getD (e.length - 1) []
def xM (l:List ag):Prop:=l.length < 1000∧∀ a,a∈l→XC a
structure EQ (l:List ag) (e:List ah) (k:Int):Prop where
 st:xM l
 sm:Small e
 pl:yC l e=0
 k0:0≤k
 k1:wC l e=[]∨k < P (wC l e)
theorem BC {l:List ag} {e:List ah} (h:yC l e=0):FP e∧e.any odd=false∧shE l e = .inr (Qh l e):=by
 unfold yC at h;by_cases hf:GK e=0
 ·simp only [hf,ne_eq,cO,ax] at h;by_cases ho:e.any odd=true
  ·simp [ho] at h
  ·have ho':e.any odd=false:=ja ho;simp only [ho',aG,ax] at h;refine ⟨OC hf,ho',?_⟩;unfold Qh;cases hs:shE l e with
   | inl c=>rw [hs] at h;exact absurd h (U2 hs)
   | inr out=>rfl
 ·simp [hf] at h
theorem isInt {x:Int} (h:eF x=true):EU x:=by
 unfold eF bz at h;simp at h;exact h
theorem KO {l:List ag} {e:List ah} {k:Int} (H:EQ l e k) {i:Nat} (hi:i < e.length) (h1:e[i].Kind=1) :
  ∃ a,at_ l e[i].Var=some a∧(∀ q,q=(sZ l e[i].Var e[i].Subscripts).1→qM q k=some (pick q k))∧0≤pick (sZ l e[i].Var e[i].Subscripts).1 k∧pick (sZ l e[i].Var e[i].Subscripts).1 k < a.Elements.length ∧
   EU (Y9 l e[i] k)∧sZ l e[i].Var e[i].Subscripts=pz a.Bounds e[i].Subscripts:=by
 obtain ⟨F,ho,hsh⟩:=BC H.pl;have hst:=Yi hsh i hi;have hl:=(FB hsh).1;unfold kJ at hst;rw [if_neg (by omega),if_pos h1] at hst;split at hst
 ·rename_i h2
  have hlast:=Kz (by omega) (Sum.inr.inj hst).symm;obtain ⟨a,ha,sc,_,hse⟩:=Ai h2;have hva:XC a:=by
   have:a∈l:=by
    unfold at_ at ha;split at ha
    ·exact bC ha
    ·cases ha
   exact H.st.2 a this
  have hsz:pick (sZ l e[i].Var e[i].Subscripts).1 k∈(sZ l e[i].Var e[i].Subscripts).1.Offsets∧qM (sZ l e[i].Var e[i].Subscripts).1 k=some (pick (sZ l e[i].Var e[i].Subscripts).1 k):=by
   have hlen:=sc.len;generalize (sZ l e[i].Var e[i].Subscripts).1=s at *
   unfold pick qM;have hn:((s.Extents.length:Int)=0)=(s.Extents=[]):=by cases s.Extents<;>simp<;>omega
   simp only [hn];by_cases hx:s.Extents=[]
   ·rw [hx] at hlen;simp [P] at hlen;simp only [hx,aF];have h0:0 < s.Offsets.length:=by omega
    refine ⟨?_,?_⟩
    ·rw [aO,aj h0];exact dA h0
    ·have:=at_in (xs:=s.Offsets) (k:=0) (d:=0) (by omega) (by omega);rw [this];rfl
   ·simp only [hx,ax];have hS:s.Extents=wC l e:=by
     have:=LC hsh F ho (e.length - 1 - i) i (by omega);rw [hlast] at this;rcases this with q | q
     ·exact absurd q hx
     ·exact q
    have hk:k < s.Offsets.length:=by
     rcases H.k1 with q | q
     ·rw [← hS] at q;exact absurd q hx
     ·rw [← hS] at q;omega
    have hk0:=H.k0;refine ⟨?_,?_⟩
    ·rw [aO,aj (by omega)];exact dA _
    ·rw [at_in (d:=0) hk0 hk];rfl
  have hr:=sc.range _ hsz.1;have hle:=hva.len;refine ⟨a,ha,fun q hq=>by rw [hq];exact hsz.2,hr.1,by omega,?_,hse⟩;unfold Y9;rw [ha];simp only;rw [aO,aj (by omega)];exact isInt (hva.int _ (dA _))
 ·cases hst
theorem aad {l:List ag} {e:List ah} {k:Int} (H:EQ l e k) {i:Nat} (hi:i < e.length) (h0:e[i].Kind=0):EU e[i].Value:=by
 obtain ⟨F,ho,hsh⟩:=BC H.pl;have hst:=Yi hsh i hi;unfold kJ at hst;rw [if_pos h0] at hst;split at hst
 ·rename_i q;have:=oQ.1 q;exact this
 ·cases hst
theorem Pq {l:List ag} {e:List ah} {k:Int} (H:EQ l e k) {i:Nat} (hi:i < e.length) (b:List Int):EU (Lp l k b e[i]):=by
 unfold Lp;split
 ·rename_i h0;exact aad H hi h0
 ·split
  ·rename_i h1;obtain ⟨a,_,_,_,_,h,_⟩:=KO H hi h1;exact h
  ·exact Y2 _ _ _
theorem getD_in {b:List Int} (k:Nat) (h:∀ x,x∈b→EU x):EU (b.getD k 0):=by
 rw [aO];cases hk:b[k]? with
 | none=>simp [EU]
 | some x=>exact h x (bC hk)
theorem Xm {b:List Int} {z:Int} (h:∀ x,x∈b→EU x) (hz:EU z):∀ x,x∈b++[z]→EU x:=by
 intro x hx;simp only [aP,gQ] at hx;rcases hx with hx | hx
 ·exact h x hx
 ·rw [hx];exact hz
theorem WT (l:List ag) (k:Int) (e:List ah):(vals l k e).length=e.length:=by
 have key:∀ (xs:List ah) (b:List Int),(xs.foldl (fun out n=>out++[Lp l k out n]) b).length=b.length+xs.length:=by
  intro xs
  induction xs with
  | nil=>intro b;rfl
  | cons x xs ih=>intro b;rw [dM,ih];simp;omega
 have:=key e [];simpa [vals] using this
theorem Vf {l:List ag} {e:List ah} {k:Int} (H:EQ l e k):∀ x,x∈vals l k e→EU x:=by
 have key:∀ (xs:List ah) (i:Nat) (b:List Int),e.drop i=xs→(∀ x,x∈b→EU x)→∀ x,x∈xs.foldl (fun out n=>out++[Lp l k out n]) b→EU x:=by
  intro xs
  induction xs with
  | nil=>intro i b _ hb;exact hb
  | cons x xs ih =>
   intro i b hd hb;have hlt:i < e.length:=by have:=congrArg List.length hd;simp at this;omega
   rw [List.drop_eq_getElem_cons hlt] at hd;injection hd with h1 h2
   rw [dM];refine ih (i+1) _ h2 (Xm hb ?_);rw [← h1];exact Pq H hlt b
 exact key e 0 [] rfl (by simp)
theorem WU {l:List ag} {e:List ah} {k:Int} (H:EQ l e k):EU (value l e k):=getD_in _ (Vf H)
theorem YN {n:ah} (h:clean n=true) (h7:n.Kind=7):n.B=0:=by
 unfold clean at h;simp [h7,bV] at h;exact h.1.1.2
theorem zM {l:List ag} {e:List ah} {k:Int} (H:EQ l e k):iH (some (sW l e)) l k=some (value l e k):=by
 obtain ⟨F,ho,hsh⟩:=BC H.pl;have hlt:=H.sm.1;unfold iH;simp only [ae,sW];rw [Ju (by omega)];simp only [ae];rw [lZ (step:=iH.s1 l k (dS.mk e (e.map (sec l)) (Qh l e))) e (fun i b=>(i,b++List.replicate (e.length - b.length) 0)) (fun b=>b++List.replicate (e.length - b.length) 0) (fun b n=>b++[Lp l k b n]) (fun i b=>b.length=i∧∀ x,x∈b→EU x) (a:=[]) (by simp) ?_ ?_ ⟨rfl,by simp⟩ (by omega)]
 ·have hl:=WT l k e;have hp:=F.pos
  show ((some (vals l k e++List.replicate (e.length - (vals l k e).length) 0)).bind fun z17=>(at_ z17 (w ((z17.length:Int) - 1))).bind fun x18=>some (w x18))=_
  rw [hl,Nat.sub_self,List.replicate_zero,mg];simp only [ae];rw [yK (by omega) (by omega),at_in (d:=0) (by omega) (by omega)];simp only [ae,value];have e1:(((vals l k e).length:Int) - 1).toNat=e.length - 1:=by omega
  rw [e1];have hv:=getD_in (e.length - 1) (Vf H);unfold EU at hv;rw [yK (by omega) (by omega)]
 ·rintro i hi b ⟨hb,hin⟩
  have hN:=Nj F ho i hi;refine ⟨?_,by simp [hb],Xm hin (Pq H hi b)⟩;have hbl:(b++List.replicate (e.length - b.length) (0:Int)).length=e.length:=by simp;omega
  have hset:∀ z:Int,(b++List.replicate (e.length - b.length) (0:Int)).set i z=(b++[z])++List.replicate (e.length - (b++[z]).length) 0:=by
   intro z;rw [hb,Il b z 0 hb hi];simp [hb]
  have hgetD:∀ j:Int,0≤j→j < i→(b++List.replicate (e.length - b.length) (0:Int)).getD j.toNat 0=b.getD j.toNat 0:=by
   intro j h0 h1;rw [aO,aO,bK (by omega)]
  simp only [iH.s1,iM hi,aF,jk hi,ae,kE,hset];rw [jk (show i < (b++List.replicate (e.length - b.length) (0:Int)).length by omega)];simp only [ae];rw [wn (by omega)];by_cases h0:e[i].Kind=0
  ·have:=Zd (aad H hi h0);simp only [wr] at this;simp only [h0,aF,Lp,this]
  ·by_cases h1:e[i].Kind=1
   ·obtain ⟨a,ha,hof,g0,g1,hin2,hse⟩:=KO H hi h1;simp only [h0,h1,aF,ax,Int.reduceEq,ha,ae];rw [jk (show i < (e.map (sec l)).length by simp;exact hi)];have hsec:(e.map (sec l))[i]'(by simp;exact hi)=(sZ l e[i].Var e[i].Subscripts).1:=by simp [sec,h1]
    simp only [ae,hsec,hof _ rfl];rw [at_in (d:=0) g0 g1];simp only [ae];have hv:Lp l k b e[i]=a.Elements.getD (pick (sZ l e[i].Var e[i].Subscripts).1 k).toNat 0:=by simp only [Lp,h1,Y9,ha,aF,ax,Int.reduceEq]
    have hw:=Pq H hi b;rw [hv] at hw ⊢;have:=Zd hw;simp only [wr] at this;rw [this]
   ·have hB0:0≤e[i].B∧e[i].B < e.length∧(e[i].Kind≠7→e[i].B < i):=by
     by_cases h7:e[i].Kind=7
     ·have:=YN hN.ok.cl h7;have:=F.pos;omega
     ·have hb2:=PI hN.ok.kind h0 h1 h7 hN.k8 hN.k9;have:=hN.ok.B hb2;omega
    have hA:0≤e[i].A∧e[i].A < i:=by
     by_cases h7:e[i].Kind=7
     ·exact hN.ok.A (.inl h7)
     ·exact hN.ok.A (.inr (PI hN.ok.kind h0 h1 h7 hN.k8 hN.k9))
    simp only [h0,h1,ax];rw [at_in (d:=0) hA.1 (by omega),at_in (d:=0) hB0.1 (by omega)];simp only [ae];rw [hgetD _ hA.1 hA.2];have hv:Lp l k b e[i]=opV e[i].Kind (b.getD e[i].A.toNat 0) (b.getD e[i].B.toNat 0):=by simp only [Lp,h0,h1,ax]
    rw [hv];by_cases h7:e[i].Kind=7
    ·rw [h7];rw [show ng 7 (b.getD e[i].A.toNat 0) ((b++List.replicate (e.length - b.length) (0:Int)).getD e[i].B.toNat 0)=opV 7 (b.getD e[i].A.toNat 0) (b.getD e[i].B.toNat 0) from Ya _ _ _]
    ·rw [hgetD _ hB0.1 (hB0.2.2 h7)];rfl
 ·rintro b ⟨hb,hin⟩
  simp only [iH.s1,di,ax]
end Go.Sh
set_option linter.all false
namespace Go.Sh
open Go.Lx
theorem xx {α:Type} (p:α→Bool):∀ xs:List α,xs.findSome? (fun a=>if p a=true then (none:Option Bool) else some false)=if xs.all p=true then none else some false
 | []=>rfl
 | x::xs=>by
  rw [List.findSome?_cons,oz];by_cases h:p x=true
  ·simp only [h,aF,iZ];exact xx p xs
  ·simp [h]
def YR (a:ag):Bool:=decide (a.Bounds.length≤9)&&decide (a.Elements.length≤40)
def few (l:List ag):Bool:=decide (l.length≤8)&&l.all YR
theorem YS (l:List ag):qK l=some (few l):=by
 unfold qK few;by_cases h:l.length≤8
 ·rw [if_neg (by omega)];rw [oV (step:=qK.s1 l) l (fun a=>if YR a=true then (none:Option Bool) else some false) (fun c=>Sum.inr c) (Sum.inl ()) rfl ?_ ?_ (by omega),xx]
  ·simp only [h,decide_true,iZ];cases l.all YR<;>rfl
  ·intro i hi;simp only [qK.s1,iM hi,aF,jk hi,ae,YR];by_cases h1:l[i].Bounds.length≤9
   ·rw [if_neg (by omega)];by_cases h2:l[i].Elements.length≤40
    ·rw [if_neg (by omega),wn (by omega)];simp [h1,h2]
    ·rw [if_pos (by omega)];simp [h2]
   ·rw [if_pos (by omega)];simp [h1]
  ·simp only [qK.s1,di,ax]
 ·rw [if_pos (by omega)];simp [h]
def NP (s:az):Bool:=decide (s.List.length≤20)
def short (q:List az):Bool:=decide (q.length≤9)&&q.all NP
theorem QA (q:List az):mM q=some (short q):=by
 unfold mM short;by_cases h:q.length≤9
 ·rw [if_neg (by omega)];rw [oV (step:=mM.s1 q) q (fun a=>if NP a=true then (none:Option Bool) else some false) (fun c=>Sum.inr c) (Sum.inl ()) rfl ?_ ?_ (by omega),xx]
  ·simp only [h,decide_true,iZ];cases q.all NP<;>rfl
  ·intro i hi;simp only [mM.s1,iM hi,aF,jk hi,ae,NP];by_cases h1:q[i].List.length≤20
   ·rw [if_neg (by omega),wn (by omega)];simp [h1]
   ·rw [if_pos (by omega)];simp [h1]
  ·simp only [mM.s1,di,ax]
 ·rw [if_pos (by omega)];simp [h]
def MF (s:bH):Bool:=decide (s.Coefs.length≤9)
def EC (q:List bH):Bool:=decide (q.length≤9)&&q.all MF
theorem VQ (q:List bH):nN q=some (EC q):=by
 unfold nN EC;by_cases h:q.length≤9
 ·rw [if_neg (by omega)];rw [oV (step:=nN.s1 q) q (fun a=>if MF a=true then (none:Option Bool) else some false) (fun c=>Sum.inr c) (Sum.inl ()) rfl ?_ ?_ (by omega),xx]
  ·simp only [h,decide_true,iZ];cases q.all MF<;>rfl
  ·intro i hi;simp only [nN.s1,iM hi,aF,jk hi,ae,MF];by_cases h1:q[i].Coefs.length≤9
   ·rw [if_neg (by omega),wn (by omega)];simp [h1]
   ·rw [if_pos (by omega)];simp [h1]
  ·simp only [nN.s1,di,ax]
 ·rw [if_pos (by omega)];simp [h]
def NQ (n:ah):Bool:=short n.Subscripts&&EC n.Forms
def small (e:List ah):Bool:=decide (e.length≤42)&&(!(decide (20 < e.length)&&decide (e.length≤40))&&e.all NQ)
theorem WL (e:List ah):lI e=some (small e):=by
 unfold lI small;by_cases h:((decide (20 < e.length)&&decide (e.length≤40)) || decide (42 < e.length))=true
 ·have:((decide ((e.length:Int) > 20)&&decide ((e.length:Int)≤40)) || decide ((e.length:Int) > 42))=true:=by simp at h ⊢;omega
  rw [if_pos this]
  congr 1
  symm;simp at h ⊢;omega
 ·have:¬ ((decide ((e.length:Int) > 20)&&decide ((e.length:Int)≤40)) || decide ((e.length:Int) > 42))=true:=by simp at h ⊢;omega
  rw [if_neg this];have h42:e.length≤42:=by simp at h;omega
  have hm:(decide (20 < e.length)&&decide (e.length≤40))=false:=by simp at h ⊢;omega
  rw [oV (step:=lI.s1 e) e (fun a=>if NQ a=true then (none:Option Bool) else some false) (fun c=>Sum.inr c) (Sum.inl ()) rfl ?_ ?_ (by omega),xx]
  ·simp only [h42,hm,decide_true,iZ,Bool.not_false];cases e.all NQ<;>rfl
  ·intro i hi;simp only [lI.s1,iM hi,aF,jk hi,ae,QA,VQ,NQ];by_cases h1:short e[i].Subscripts=true
   ·by_cases h2:EC e[i].Forms=true
    ·simp only [h1,h2,cO,ax,Bool.and_self,aF];rw [wn (by omega)]
    ·simp [h1,h2]
   ·simp [h1]
  ·simp only [lI.s1,di,ax]
def uV (s:aC):Bool:=short s.Subscripts&&(small s.Value&&(small s.Mask&&small s.Else))
theorem SQ (s:aC):vU s=some (uV s):=by
 unfold vU uV;simp only [QA,WL,ae];cases short s.Subscripts<;>cases small s.Value<;>cases small s.Mask<;>simp
theorem FH {q:List az} (h:short q=true):q.length≤9∧∀ s,s∈q→s.List.length < 16777216:=by
 unfold short NP at h;simp at h;exact ⟨h.1,fun s hs=>by have:=h.2 s hs;omega⟩
theorem VR {q:List bH} (h:EC q=true):q.length≤9∧∀ s,s∈q→s.Coefs.length≤9:=by
 unfold EC MF at h;simp at h;exact h
theorem FI {e:List ah} (h:small e=true):e.length≤42∧(∀ n,n∈e→short n.Subscripts=true∧EC n.Forms=true)∧Small e:=by
 unfold small NQ at h;simp at h;refine ⟨h.1,h.2.2,by omega,fun n hn s hs=>?_⟩;exact (FH (h.2.2 n hn).1).2 s hs
theorem DC {l:List ag} (h:few l=true):l.length≤8∧∀ a,a∈l→a.Bounds.length≤9∧a.Elements.length≤40:=by
 unfold few YR at h;simp at h;exact h
theorem Eu {l:List ag} (h:few l=true):gW l=some l:=by
 obtain ⟨h1,h2⟩:=DC h;unfold gW;rw [vC (step:=gW.s1 l) l (fun a=>a) (fun i b=>(i,b)) (fun b=>b) rfl ?_ ?_ (by omega)]
 ·simp
 ·intro i hi b hb;have:=h2 l[i] (dA hi);simp only [gW.s1,iM hi,aF,jk hi,ae];rw [Rq (by omega) (by omega)];simp only [ae];rw [kM (by omega),wn (by omega)];rfl
 ·intro b;simp only [gW.s1,di,ax]
theorem LW {q:List bH} (h:EC q=true):jC q=some q:=by
 obtain ⟨h1,h2⟩:=VR h;unfold jC;rw [vC (step:=jC.s1 q) q (fun a=>a) (fun i b=>(i,b)) (fun b=>b) rfl ?_ ?_ (by omega)]
 ·simp
 ·intro i hi b hb;have:=h2 q[i] (dA hi);simp only [jC.s1,iM hi,aF,jk hi,ae];rw [ui (by omega)];simp only [ae];rw [kM (by omega),wn (by omega)];rfl
 ·intro b;simp only [jC.s1,di,ax]
theorem Bc {e:List ah} (h:small e=true):jl e=some e:=by
 obtain ⟨h1,h2,_⟩:=FI h;unfold jl;rw [vC (step:=jl.s1 e) e (fun a=>a) (fun i b=>(i,b)) (fun b=>b) rfl ?_ ?_ (by omega)]
 ·simp
 ·intro i hi b hb;obtain ⟨k1,k2⟩:=h2 e[i] (dA hi);have hs:=FH k1;simp only [jl.s1,iM hi,aF,jk hi,ae];rw [xm (by omega) hs.2,LW k2];simp only [ae];rw [kM (by omega),wn (by omega)];rfl
 ·intro b;simp only [jl.s1,di,ax]
theorem Gi {s:aC} (h:uV s=true):kK s=some s:=by
 unfold uV at h;simp only [bn] at h;have hs:=FH h.1;unfold kK;rw [xm (by omega) hs.2,Bc h.2.1,Bc h.2.2.1,Bc h.2.2.2];rfl
def stE (l:List ag):Int:=if 6 < l.length then 8 else match l.findSome? (fun a=>if (chk a).2=0 then none else some (chk a).2) with | some c=>c | none=>0
theorem Qr:∀ (l:List ag) (i:Nat),gV (fun _ (u:Unit) (a:ag)=>if (chk a).2=0 then Sum.inr u else Sum.inl (chk a).2) i l ()=(match l.findSome? (fun a=>if (chk a).2=0 then none else some (chk a).2) with | some r => .inl r | none => .inr ())
 | [],i=>rfl
 | x::xs,i=>by
  simp only [gV,List.findSome?_cons];by_cases h:(chk x).2=0
  ·simp only [h,aF];exact Qr xs (i+1)
  ·simp only [h,ax]
theorem Pj {l:List ag} (h:few l=true):rG l=some (stE l):=by
 obtain ⟨h1,h2⟩:=DC h;unfold rG stE;by_cases h6:6 < l.length
 ·rw [if_pos (by omega),if_pos h6]
 ·rw [if_neg (by omega),if_neg h6];have hfind:∃ k,bM l=some (k,match l.findSome? (fun a=>if (chk a).2=0 then none else some (chk a).2) with | some c=>c | none=>0):=by
   unfold bM;rw [jV (step:=bM.s1 l) l (fun i (_:Unit)=>i) (fun (r:Int×Int)=>Sum.inr r) (fun _=>Sum.inl ()) (fun i u a=>if (chk a).2=0 then .inr u else .inl ((i:Int),(chk a).2)) (fun _ _=>True) (a:=()) rfl ?_ ?_ trivial (by omega)]
   ·have h3:=zV (f:=fun i (u:Unit) (a:ag)=>if (chk a).2=0 then Sum.inr u else Sum.inl ((i:Int),(chk a).2)) (g:=fun _ (u:Unit) (a:ag)=>if (chk a).2=0 then Sum.inr u else Sum.inl (chk a).2) (fun r=>r.2) (fun _=>True) l.length (fun i u a _ _=>by
     by_cases h:(chk a).2=0<;>simp [h]) l 0 () (by simp) trivial
    rw [Qr] at h3;cases hs:gV (fun i (u:Unit) (a:ag)=>if (chk a).2=0 then Sum.inr u else Sum.inl ((i:Int),(chk a).2)) 0 l () with
    | inl r =>
     rw [hs] at h3;simp only at h3;cases hf:l.findSome? (fun a=>if (chk a).2=0 then none else some (chk a).2) with
     | some c=>rw [hf] at h3;cases h3;exact ⟨r.1,rfl⟩
     | none=>rw [hf] at h3;cases h3
    | inr u =>
     rw [hs] at h3;simp only at h3;cases hf:l.findSome? (fun a=>if (chk a).2=0 then none else some (chk a).2) with
     | some c=>rw [hf] at h3;cases h3
     | none=>exact ⟨0,rfl⟩
   ·intro i hi u _;have:=h2 l[i] (dA hi);refine ⟨?_,fun _ _=>trivial⟩;simp only [bM.s1,iM hi,aF,jk hi,ae,qQ];rw [J4 (by omega)];simp only [ae];by_cases hc:(chk l[i]).2=0
    ·simp only [hc,cO,ax,aF];rw [wn (by omega)]
    ·simp only [hc,aS,aF,ax]
   ·intro u _;simp only [bM.s1,di,ax]
  obtain ⟨k,hk⟩:=hfind;rw [hk];rfl
theorem I8 {l:List ag} (h:few l=true):jW l=some (stE l):=by
 obtain ⟨h1,h2⟩:=DC h;unfold jW stE;by_cases h6:6 < l.length
 ·rw [if_pos (by omega),if_pos h6]
 ·rw [if_neg (by omega),if_neg h6];rw [oV (step:=jW.s1 l) l (fun a=>if (chk a).2=0 then none else some (chk a).2) (fun c=>Sum.inr c) (Sum.inl ()) rfl ?_ ?_ (by omega)]
  ·cases l.findSome? (fun a=>if (chk a).2=0 then none else some (chk a).2)<;>rfl
  ·intro i hi;have:=h2 l[i] (dA hi);simp only [jW.s1,iM hi,aF,jk hi,ae];rw [UJ (by omega)];simp only [ae];by_cases hc:(chk l[i]).2=0
   ·simp only [hc,cO,ax,aF];rw [wn (by omega)]
   ·simp only [hc,aS,aF,ax]
  ·simp only [jW.s1,di,ax]
theorem ZJ {l:List ag} (h:stE l=0):xM l:=by
 unfold stE at h;split at h
 ·cases h
 ·rename_i h6
  refine ⟨by omega,fun a ha=>Tc ?_⟩;cases hf:l.findSome? (fun a=>if (chk a).2=0 then none else some (chk a).2) with
  | some c =>
   rw [hf] at h;obtain ⟨b,_,hb⟩:=List.exists_of_findSome?_eq_some hf;simp only at h;split at hb
   ·cases hb
   ·cases hb;rename_i q;exact absurd h q
  | none =>
   have:=List.findSome?_eq_none_iff.1 hf a ha;simpa using this
end Go.Sh
set_option linter.all false
namespace Go.Sh
open Go.Lx
theorem XF:yg=some true:=by decide +kernel
structure Shp (x:List Int):Prop where
 dims:x.length≤7
 ext:∀ e,e∈x→0≤e∧e≤512
 p0:0≤P x
 p1:P x≤60
theorem Shp.nil:Shp []:=⟨by simp,by simp,by simp [P],by simp [P]⟩
theorem Fp {b:List (List Int)} (k:Nat) (h:∀ x,x∈b→Shp x):Shp (b.getD k []):=by
 rw [aO];cases hk:b[k]? with
 | none=>exact Shp.nil
 | some x=>exact h x (bC hk)
theorem RI {l:List ag} {i:Nat} {b b':List (List Int)} {n:ah} (h:kJ l i b n = .inr b') (hb:∀ x,x∈b→Shp x):∀ x,x∈b'→Shp x:=by
 have key:∀ z:List Int,Shp z→∀ x,x∈b++[z]→Shp x:=by
  intro z hz x hx;simp only [aP,gQ] at hx;rcases hx with hx | hx
  ·exact hb x hx
  ·rw [hx];exact hz
 unfold kJ at h;split at h
 ·split at h
  ·cases h;exact key _ Shp.nil
  ·cases h
 ·split at h
  ·split at h
   ·rename_i h2
    cases h;obtain ⟨a,_,hs,h60,_⟩:=Ai h2;have:=hs.len;exact key _ ⟨hs.dims,hs.ext,by omega,by omega⟩
   ·cases h
  ·split at h
   ·cases h;exact key _ (Fp _ hb)
   ·split at h
    ·cases h
    ·cases h;refine key _ ?_;split
     ·exact Fp _ hb
     ·exact Fp _ hb
theorem Yb {l:List ag} {e:List ah} {out:List (List Int)} (h:shE l e = .inr out):∀ x,x∈out→Shp x:=by
 have key:∀ (xs:List ah) (i:Nat) (b b':List (List Int)),gV (kJ l) i xs b = .inr b'→(∀ x,x∈b→Shp x)→∀ x,x∈b'→Shp x:=by
  intro xs
  induction xs with
  | nil=>intro i b b' h hb;cases h;exact hb
  | cons x xs ih =>
   intro i b b' h hb;simp only [gV] at h;cases hf:kJ l i b x with
   | inl c=>rw [hf] at h;cases h
   | inr b1=>rw [hf] at h;exact ih (i+1) b1 b' h (RI hf hb)
 exact key e 0 [] out h (by simp)
theorem Qq {l:List ag} {e:List ah} (h:yC l e=0):Shp (wC l e):=Fp _ (Yb (BC h).2.2)
theorem WI {l:List ag} {e:List ah} (hs:Small e) (h:yC l e=0):qf (some (sW l e))=some (wC l e):=by
 obtain ⟨F,_,hsh⟩:=BC h;have hl:=(FB hsh).1;have hp:=F.pos;have:=hs.1;unfold qf;simp only [ae,sW];rw [yK (by omega) (by omega),at_in (d:=[]) (by omega) (by omega)];simp only [ae,wC]
 congr 2
 omega
end Go.Sh
set_option linter.all false
namespace Go.Sh
open Go.Lx
theorem Xc {α β:Type} (f:α→β) (l:List α) (k:Int):at_ (l.map f) k=(at_ l k).map f:=by
 unfold at_;split
 ·simp
 ·rfl
def bds (l:List ag):List (List ai):=l.map (·.Bounds)
theorem Xb {l m:List ag} (h:bds l=bds m) (k:Int):(at_ l k).map (·.Bounds)=(at_ m k).map (·.Bounds):=by
 rw [← Xc,← Xc];exact congrArg (fun x=>at_ x k) h
theorem Lc {l m:List ag} (h:bds l=bds m) (v:Int) (q:List az):sZ l v q=sZ m v q:=by
 have:=Xb h v;unfold sZ;cases ha:at_ l v with
 | none =>
  rw [ha] at this;cases hb:at_ m v with
  | none=>rfl
  | some b=>rw [hb] at this;cases this
 | some a =>
  rw [ha] at this;cases hb:at_ m v with
  | none=>rw [hb] at this;cases this
  | some b=>rw [hb] at this;simp only [iV,Option.some.injEq] at this;simp only [this]
theorem RH {l m:List ag} (h:bds l=bds m):kJ l=kJ m:=by
 funext i b n
 unfold kJ;rw [Lc h]
theorem U1 {l m:List ag} (h:bds l=bds m) (e:List ah):shE l e=shE m e:=by unfold shE;rw [RH h]
theorem UD {l m:List ag} (h:bds l=bds m) (e:List ah):yC l e=yC m e:=by unfold yC;rw [U1 h]
theorem Qi {l m:List ag} (h:bds l=bds m) (e:List ah):Qh l e=Qh m e:=by unfold Qh;rw [U1 h]
theorem UQ {l m:List ag} (h:bds l=bds m) (e:List ah):wC l e=wC m e:=by unfold wC;rw [Qi h]
theorem Rh {l m:List ag} (h:bds l=bds m) (e:List ah):sW l e=sW m e:=by
 unfold sW;rw [Qi h,show sec l=sec m from by funext n;unfold sec;rw [Lc h]]
theorem EQ.bds {l m:List ag} {e:List ah} {k:Int} (H:EQ l e k) (h:bds l=bds m) (hm:xM m):EQ m e k :=
 ⟨hm,H.sm,by rw [← UD h];exact H.pl,H.k0,by rw [← UQ h];exact H.k1⟩
def Dq (l:List ag) (e:List ah) (x:List Int):Int:=if yC l e=0 then (if wC l e=[]∨wC l e=x then 0 else 10) else yC l e
theorem DF {l:List ag} {e:List ah} (x:List Int) (hl:l.length < 1000) (hs:Small e):∃ y,pU l e x=some (y,Dq l e x)∧(Dq l e x=0→y=some (sW l e)):=by
 obtain ⟨y,h1,h2⟩:=UE (e:=e) hl hs;unfold pU Dq;rw [h1];simp only [ae];by_cases hp:yC l e=0
 ·have hy:=h2 hp;have hd:=(Qq hp).dims;simp only [hp,cO,ax,aF,hy,WI hs hp,ae];by_cases h0:wC l e=[]
  ·simp only [h0,kY,Int.natCast_zero,aF,qO,ae,true_or];exact ⟨_,rfl,fun _=>rfl⟩
  ·have:¬ ((wC l e).length:Int)=0:=by
    intro q;exact h0 (List.length_eq_zero_iff.1 (by omega))
   simp only [this,ax,Tz (show (wC l e).length < 16777216 by omega),ae,qO,h0,false_or,kF];exact ⟨_,rfl,fun _=>rfl⟩
 ·simp only [hp,aS,aF,ax];exact ⟨none,rfl,fun h=>h.elim⟩
theorem D8 {l:List ag} {e:List ah} {x:List Int} (hx:x.length < 16777216) (hl:l.length < 1000) (hs:Small e):uu l e x=some (Dq l e x):=by
 unfold uu Dq;rw [Nw hl hs];simp only [ae];by_cases hp:yC l e=0
 ·have hd:=(Qq hp).dims;obtain ⟨F,_,hsh⟩:=BC hp;have hol:=(FB hsh).1;have hpos:=F.pos;have hlt:=hs.1;simp only [hp,cO,ax,aF];rw [yK (by omega) (by omega),at_in (d:=[]) (by omega) (by omega)];have hr:(Qh l e).getD (((Qh l e).length:Int) - 1).toNat []=wC l e:=by unfold wC;congr 1;omega
  simp only [ae,hr];by_cases h0:wC l e=[]
  ·simp [h0]
  ·have:((wC l e).length:Int) > 0:=by
    have:=mt List.length_eq_zero_iff.1 h0;omega
   simp only [this,aF,OH (show (wC l e).length < 16777216 by omega) hx,ae,h0,false_or,kF];by_cases h1:wC l e=x<;>simp [h1]
 ·simp only [hp,aS,aF,ax]
theorem Xi {l:List ag} {e:List ah} {x:List Int} (h:Dq l e x=0):yC l e=0∧(wC l e=[]∨wC l e=x):=by
 unfold Dq at h;split at h
 ·rename_i q
  split at h
  ·rename_i r;exact ⟨q,r⟩
  ·cases h
 ·rename_i q;exact absurd h q
def sS (l:List ag) (s:aC):aB:=(sZ l s.Var s.Subscripts).1
def opE (l:List ag) (s:aC):Int :=
 if stE l=0 then
  if (sZ l s.Var s.Subscripts).2=0 then
   if (sS l s).ManyOne=true then 23
   else if Dq l s.Value (sS l s).Extents=0 then
    if s.Mask≠[]∧Dq l s.Mask (sS l s).Extents≠0 then Dq l s.Mask (sS l s).Extents
    else if s.Else=[] then 0
    else if s.Mask=[] then 3
    else Dq l s.Else (sS l s).Extents
   else Dq l s.Value (sS l s).Extents
  else (sZ l s.Var s.Subscripts).2
 else stE l
def mkA (l:List ag) (s:aC):aX :=
 aX.mk l s.Var (sS l s).Offsets (some (sW l s.Value)) (if s.Mask=[] then none else some (sW l s.Mask)) (if s.Else=[] then none else some (sW l s.Else))
theorem G8 {α:Type} {xs:List α}:((xs.length:Int) > 0)=(xs≠[]):=by cases xs<;>simp
theorem V7 {α:Type} {xs:List α}:((xs.length:Int)=0)=(xs=[]):=by cases xs<;>simp<;>omega
theorem JZ {s:aC} (h:uV s=true):(∀ q,q∈s.Subscripts→q.List.length < 16777216)∧Small s.Value∧Small s.Mask∧Small s.Else:=by
 unfold uV at h;simp only [bn] at h;exact ⟨(FH h.1).2,(FI h.2.1).2.2,(FI h.2.2.1).2.2,(FI h.2.2.2).2.2⟩
theorem KL {l:List ag} {s:aC} (hf:few l=true) (hb:uV s=true):∃ y,lg l s=some (y,opE l s)∧(opE l s=0→y=some (mkA l s)):=by
 have hl:l.length < 1000:=by have:=(DC hf).1;omega
 obtain ⟨hq,hv,hm,he⟩:=JZ hb;unfold lg opE;rw [Pj hf];simp only [ae];by_cases h0:stE l=0
 ·simp only [h0,cO,ax,aF,Qy hl hq,ae,qO,ZA];by_cases h1:(sZ l s.Var s.Subscripts).2=0
  ·simp only [h1,aF];by_cases h2:(sS l s).ManyOne=true
   ·have:(sZ l s.Var s.Subscripts).1.ManyOne=true:=h2;simp only [this,h2,nD,aG,ax,aF];exact ⟨none,rfl,by simp⟩
   ·have h2':(sZ l s.Var s.Subscripts).1.ManyOne=false:=by simpa [sS] using h2
    simp only [h2',h2,Bool.not_false,aF,cO,ax];obtain ⟨y,y1,y2⟩:=DF (sZ l s.Var s.Subscripts).1.Extents hl hv;rw [y1];simp only [ae];rw [show (sZ l s.Var s.Subscripts).1=sS l s from rfl] at *
    by_cases h3:Dq l s.Value (sS l s).Extents=0
    ·have hy:=y2 h3;simp only [h3,cO,ax,aF,G8];have key:∀ (a:Option dS),a=(if s.Mask=[] then none else some (sW l s.Mask))→∃ z,lg.j1 l s (sZ l s.Var s.Subscripts) (y,Dq l s.Value (sS l s).Extents) a=some (z,if s.Else=[] then 0 else if s.Mask=[] then 3 else Dq l s.Else (sS l s).Extents)∧((if s.Else=[] then 0 else if s.Mask=[] then 3 else Dq l s.Else (sS l s).Extents)=0→z=some (mkA l s)):=by
      intro a ha;unfold lg.j1;simp only [G8];by_cases h5:s.Else=[]
      ·simp only [h5,ne_eq,cO,ax,aF];refine ⟨_,rfl,fun _=>?_⟩;unfold mkA;rw [hy,ha];simp only [h5,aF];rfl
      ·simp only [h5,ne_eq,aS,aF,ax];by_cases h6:s.Mask=[]
       ·simp only [ha,h6,aF,Option.isNone_none];exact ⟨none,rfl,by simp⟩
       ·simp only [ha,h6,ax,Option.isNone_some,aG];obtain ⟨u,u1,u2⟩:=DF (sZ l s.Var s.Subscripts).1.Extents hl he;rw [u1];simp only [ae];rw [show (sZ l s.Var s.Subscripts).1=sS l s from rfl] at *
        by_cases h7:Dq l s.Else (sS l s).Extents=0
        ·simp only [h7,cO,ax];refine ⟨_,rfl,fun _=>?_⟩;unfold mkA;rw [hy,u2 h7];simp only [h5,h6,ax]
        ·simp only [h7,aS,aF];exact ⟨none,rfl,fun h=>h.elim⟩
     by_cases h4:s.Mask=[]
     ·simp only [h4,ne_eq,cO,ax,false_and] at key ⊢;rw [h3] at key;exact key none rfl
     ·simp only [h4,ne_eq,aS,aF,true_and] at key ⊢;obtain ⟨u,u1,u2⟩:=DF (sS l s).Extents hl hm;rw [u1];simp only [ae];by_cases h7:Dq l s.Mask (sS l s).Extents=0
      ·simp only [h7,cO,ax];rw [h3] at key;exact key u (u2 h7)
      ·simp only [h7,aS,aF,aG,ax];exact ⟨none,rfl,fun h=>h.elim⟩
    ·simp only [h3,aS,aF,ax,aG];exact ⟨none,rfl,fun h=>h.elim⟩
  ·simp only [h1,ax,aS,aF];exact ⟨none,rfl,fun h=>h.elim⟩
 ·simp only [h0,aS,aF,ax];exact ⟨none,rfl,fun h=>h.elim⟩
theorem Yf {l:List ag} {v:Int} {q:List az} {a:ag} (ha:at_ l v=some a):(sZ l v q).2=if (pz a.Bounds q).2=0 then (if (pz a.Bounds q).1.Offsets.length≤60 then 0 else 8) else (pz a.Bounds q).2:=by
 unfold sZ;rw [ha]
theorem Nu {l:List ag} {s:aC} (hf:few l=true) (hb:uV s=true):mV l s=some (if opE l s=0 then sS l s else Bv,opE l s):=by
 have hl:l.length < 1000:=by have:=(DC hf).1;omega
 obtain ⟨hq,hv,hm,he⟩:=JZ hb;unfold mV opE;rw [I8 hf];simp only [ae];by_cases h0:stE l=0
 ·simp only [h0,cO,ax,aF];rw [yK (by omega) (by omega),Hf];cases ha:at_ l s.Var with
  | none =>
   have h6:(sZ l s.Var s.Subscripts).2=6:=by unfold sZ;rw [ha]
   rw [if_pos (Dw.1 ha),h6];rfl
  | some a =>
   have hin:bW s.Var 0 ((l.length:Int) - 1)=true:=by
    have h1:=mt Dw.2 (by rw [ha];simp:¬ at_ l s.Var=none);simpa using h1
   have hs1:(sZ l s.Var s.Subscripts).1=(pz a.Bounds s.Subscripts).1:=by unfold sZ;rw [ha]
   have hs2:=Yf (q:=s.Subscripts) ha;simp only [hin,cO,ax,ae,Di a.Bounds s.Subscripts hq];by_cases h1:(pz a.Bounds s.Subscripts).2=0
   ·simp only [h1,aF] at hs2;simp only [h1,cO,ax];by_cases h60:(pz a.Bounds s.Subscripts).1.Offsets.length≤60
    ·simp only [h60,aF] at hs2;have hsct:=(Ai hs2)
     obtain ⟨_,_,sc,_,_⟩:=hsct;have hd:=sc.dims;rw [if_neg (by omega)];unfold sS;rw [← hs1];simp only [hs2,aF];by_cases h2:(sZ l s.Var s.Subscripts).1.ManyOne=true
     ·simp only [h2,aF];rfl
     ·simp only [h2,ax,aG,D8 (show (sZ l s.Var s.Subscripts).1.Extents.length < 16777216 by omega) hl hv,ae];by_cases h3:Dq l s.Value (sZ l s.Var s.Subscripts).1.Extents=0
      ·simp only [h3,cO,ax,aF,G8];have key:mV.j1 l s (pz a.Bounds s.Subscripts) ()=some (if (if s.Else=[] then 0 else if s.Mask=[] then 3 else Dq l s.Else (sZ l s.Var s.Subscripts).1.Extents)=0 then (sZ l s.Var s.Subscripts).1 else Bv,if s.Else=[] then 0 else if s.Mask=[] then 3 else Dq l s.Else (sZ l s.Var s.Subscripts).1.Extents):=by
        unfold mV.j1;simp only [G8,V7,← hs1];by_cases h5:s.Else=[]
        ·simp only [h5,ne_eq,cO,ax,aF]
        ·simp only [h5,ne_eq,aS,aF,ax];by_cases h6:s.Mask=[]
         ·simp only [h6,aF];rfl
         ·simp only [h6,ax,D8 (show (sZ l s.Var s.Subscripts).1.Extents.length < 16777216 by omega) hl he,ae];by_cases h7:Dq l s.Else (sZ l s.Var s.Subscripts).1.Extents=0
          ·simp only [h7,cO,ax,aF]
          ·simp only [h7,aS,aF,ax];rfl
       by_cases h4:s.Mask=[]
       ·simp only [h4,ne_eq,cO,ax,false_and,aF] at key ⊢;exact key
       ·simp only [h4,ne_eq,aS,aF,true_and,ax,D8 (show (sZ l s.Var s.Subscripts).1.Extents.length < 16777216 by omega) hl hm,ae] at key ⊢;by_cases h7:Dq l s.Mask (sZ l s.Var s.Subscripts).1.Extents=0
        ·simp only [h7,cO,ax];exact key
        ·simp only [h7,aS,aF,ax];rfl
      ·simp only [h3,aS,aF,ax];rfl
    ·simp only [h60,ax] at hs2;rw [if_pos (by omega),hs2];rfl
   ·simp only [h1,ax] at hs2;simp only [h1,aS,aF,hs2,ax];rfl
 ·simp only [h0,aS,aF,ax];rfl
end Go.Sh
set_option linter.all false
namespace Go.Sh
open Go.Lx
structure Asg (l:List ag) (s:aC):Prop where
 st:xM l
 arr:∃ a,at_ l s.Var=some a∧Sct a.Bounds (sS l s)
 n60:(sS l s).Offsets.length≤60
 many:(sS l s).ManyOne=false
 va:Small s.Value∧Dq l s.Value (sS l s).Extents=0
 ma:Small s.Mask∧(s.Mask≠[]→Dq l s.Mask (sS l s).Extents=0)
 el:Small s.Else∧(s.Else≠[]→s.Mask≠[]∧Dq l s.Else (sS l s).Extents=0)
theorem asg {l:List ag} {s:aC} (hb:uV s=true) (h:opE l s=0):Asg l s:=by
 obtain ⟨hq,hv,hm,he⟩:=JZ hb;unfold opE at h;split at h
 ·rename_i h0
  split at h
  ·rename_i h1
   split at h
   ·cases h
   ·rename_i h2
    split at h
    ·rename_i h3
     split at h
     ·rename_i h4;exact absurd h h4.2
     ·rename_i h4
      obtain ⟨a,ha,sc,h60,_⟩:=Ai h1;refine ⟨ZJ h0,⟨a,ha,sc⟩,h60,by simpa using h2,⟨hv,h3⟩,⟨hm,fun q=>?_⟩,he,fun q=>?_⟩
      ·exact Classical.byContradiction fun r=>h4 ⟨q,r⟩
      ·rw [if_neg q] at h;split at h
       ·cases h
       ·rename_i r;exact ⟨r,h⟩
    ·rename_i h3;exact absurd h h3
  ·rename_i h1;exact absurd h h1
 ·rename_i h0;exact absurd h h0
def nC (l:List ag) (s:aC):Nat:=(sS l s).Offsets.length
theorem OB {l:List ag} {s:aC} (A:Asg l s) {e:List ah} (hs:Small e) (h:Dq l e (sS l s).Extents=0) {k:Int} (h0:0≤k) (h1:k < nC l s):EQ l e k:=by
 obtain ⟨p1,p2⟩:=Xi h;obtain ⟨a,_,sc⟩:=A.arr;have:=sc.len;unfold nC at h1;refine ⟨A.st,hs,p1,h0,?_⟩;rcases p2 with q | q
 ·exact .inl q
 ·right;rw [q];omega
def chs (l:List ag) (s:aC) (k:Int):List ah:=if s.Mask≠[]∧value l s.Mask k=0 then s.Else else s.Value
theorem XU {l:List ag} {e:List ah} {x:List Int} (h:Dq l e x=0):e≠[]:=by
 intro q;have:=(BC (Xi h).1).1.pos;rw [q] at this;simp at this
theorem LQ {l:List ag} {s:aC} (A:Asg l s) {k:Int} (h0:0≤k) (h1:k < nC l s) (hc:chs l s k≠[]):EQ l (chs l s k) k:=by
 unfold chs at hc ⊢;split at hc
 ·rename_i q
  rw [if_pos q];exact OB A A.el.1 (A.el.2 hc).2 h0 h1
 ·rename_i q
  rw [if_neg q];exact OB A A.va.1 A.va.2 h0 h1
theorem Cb {l:List ag} {s:aC} (A:Asg l s) {k:Int} (h0:0≤k) (h1:k < nC l s):iI (some (mkA l s)) k=some (if chs l s k=[] then none else some (sW l (chs l s k))):=by
 have hv:=XU A.va.2;unfold iI;simp only [ae,mkA];by_cases h4:s.Mask=[]
 ·have:chs l s k=s.Value:=by unfold chs;rw [if_neg (fun q=>q.1 h4)]
  rw [this];simp only [h4,aF,Option.isNone_none,hv,ax]
 ·simp only [h4,ax,Option.isNone_some,aG];rw [zM (OB A A.ma.1 (A.ma.2 h4) h0 h1)];simp only [ae];by_cases h5:value l s.Mask k=0
  ·have:chs l s k=s.Else:=by unfold chs;rw [if_pos ⟨h4,h5⟩]
   rw [this];simp only [h5,cO,ax]
  ·have:chs l s k=s.Value:=by unfold chs;rw [if_neg (fun q=>h5 q.2)]
   rw [this];simp only [h5,aS,aF,hv,ax]
def cellAt (l:List ag) (s:aC) (k:Int):Int:=(sS l s).Offsets.getD k.toNat 0
def Aj (m:List ag) (v:Int) (c x:Int):List ag :=
 match at_ m v with
 | none=>m
 | some a=>m.set v.toNat { a with Elements:=a.Elements.set c.toNat x }
def KQ (l:List ag) (s:aC) (n:List ag) (m:List ag) (k:Int):List ag :=
 if chs l s k=[] then m else Aj m s.Var (cellAt l s k) (value n (chs l s k) k)
structure Like (l m:List ag):Prop where
 b:bds l=bds m
 st:xM m
theorem Like.refl {l:List ag} (h:xM l):Like l l:=⟨rfl,h⟩
theorem at_mem {α:Type} {l:List α} {v:Int} {a:α} (h:at_ l v=some a):0≤v∧v.toNat < l.length∧l[v.toNat]?=some a:=by
 unfold at_ at h;split at h
 ·rename_i h0;exact ⟨h0,(au.1 h).1,h⟩
 ·cases h
theorem XE {l m:List ag} (L:Like l m) {v:Int} {a:ag} (h:at_ l v=some a):∃ b,at_ m v=some b∧b.Bounds=a.Bounds:=by
 have:=Xb L.b v;rw [h] at this;cases hb:at_ m v with
 | none=>rw [hb] at this;cases this
 | some b=>rw [hb] at this;simp only [iV,Option.some.injEq] at this;exact ⟨b,rfl,this.symm⟩
theorem Like.set {l m:List ag} (L:Like l m) {v c x:Int} (hx:EU x):Like l (Aj m v c x):=by
 unfold Aj;cases ha:at_ m v with
 | none=>exact L
 | some a =>
  obtain ⟨h0,h1,h2⟩:=at_mem ha;simp only;refine ⟨?_,?_,?_⟩
  ·rw [L.b];unfold bds;rw [List.map_set];symm;apply lL ;intro i;rw [jO];split
   ·rename_i q
    subst q;simp only [iy,h1,aF,bu,h2,iV]
   ·rfl
  ·simpa using L.st.1
  ·intro b hb;rcases List.mem_or_eq_of_mem_set hb with q | q
   ·exact L.st.2 b q
   ·have hv:=L.st.2 a (bC h2);subst q;refine ⟨hv.b,by simpa using hv.len,fun y hy=>?_⟩;rcases List.mem_or_eq_of_mem_set hy with r | r
    ·exact hv.int y r
    ·subst r;unfold EU at hx;unfold eF bz;simp;omega
theorem Fq {l:List ag} {s:aC} (A:Asg l s) {n m:List ag} (N:Like l n) (M:Like l m) {k:Int} (h0:0≤k) (h1:k < nC l s):Like l (KQ l s n m k):=by
 unfold KQ;split
 ·exact M
 ·rename_i hc
  exact M.set (WU ((LQ A h0 h1 hc).bds N.b N.st))
theorem Dx {l:List ag} {s:aC} (A:Asg l s) {k:Int} (h0:0≤k) (h1:k < nC l s):cellAt l s k∈(sS l s).Offsets∧at_ (sS l s).Offsets k=some (cellAt l s k):=by
 unfold nC at h1;unfold cellAt;refine ⟨?_,at_in h0 h1⟩;rw [aO,aj (by omega)];exact dA _
theorem PG {l:List ag} {s:aC} (A:Asg l s) {m:List ag} (M:Like l m) {k:Int} (h0:0≤k) (h1:k < nC l s) :
  ∃ a,at_ m s.Var=some a∧0≤cellAt l s k∧cellAt l s k < a.Elements.length∧(∀ x,m.set s.Var.toNat { a with Elements:=a.Elements.set (cellAt l s k).toNat x }=Aj m s.Var (cellAt l s k) x):=by
 obtain ⟨a,ha,sc⟩:=A.arr;obtain ⟨b,hb,hbb⟩:=XE M ha;have hr:=sc.range _ (Dx A h0 h1).1;have hv:=M.st.2 b (bC (at_mem hb).2.2);have hle:=hv.len;rw [hbb] at hle;refine ⟨b,hb,hr.1,by omega,fun x=>?_⟩;unfold Aj;rw [hb]
def qh (n:Nat):List Int:=(List.range n).map fun k:Nat=>(k:Int)
def QS (l:List ag) (s:aC):List ag:=(qh (nC l s)).foldl (KQ l s l) l
def ZE (l:List ag) (s:aC) (o:List Int):List ag:=o.foldl (fun m k=>KQ l s m m k) l
theorem XI (xs:List ai) (h:xs.length≤16777216):lH xs=some xs:=by unfold lH;rw [JU h];rfl
theorem XJ (xs:List Int) (h:xs.length≤16777216):slices_Clone_int xs=some xs:=by unfold slices_Clone_int;rw [JU h];rfl
theorem Jh {l:List ag} (h:few l=true):lu l=some l:=by
 obtain ⟨h1,h2⟩:=DC h;unfold lu;rw [vC (step:=lu.s1 l) l (fun a=>a) (fun i b=>(i,b)) (fun b=>b) rfl ?_ ?_ (by omega)]
 ·simp
 ·intro i hi b hb;have:=h2 l[i] (dA hi);simp only [lu.s1,iM hi,aF,jk hi,ae,XI l[i].Bounds (by omega),XJ l[i].Elements (by omega)];rw [kM (by omega),wn (by omega)];rfl
 ·intro b;simp only [lu.s1,di,ax]
theorem Om {l:List ag} {s:aC} (hf:few l=true) (hb:uV s=true):jF l s=some (if opE l s=0 then QS l s else [],opE l s):=by
 obtain ⟨y,y1,y2⟩:=KL hf hb;unfold jF;rw [y1];simp only [ae];by_cases h:opE l s=0
 ·have A:=asg hb h;have hn:nC l s≤60:=A.n60;simp only [h,cO,ax,Jh hf,ae,y2 h,aF];rw [lZ (step:=jF.s1 l (some (mkA l s),0) (mkA l s)) (qh (nC l s)) (fun i b=>(i,b)) (fun b=>b) (KQ l s l) (fun _ m=>Like l m) rfl ?_ ?_ (Like.refl A.st) (by simp [qh];omega)]
  ·rfl
  ·intro i hi m M;have hi':i < nC l s:=by simpa [qh] using hi
   have hpi:(qh (nC l s))[i]=(i:Int):=by simp [qh]
   rw [hpi];refine ⟨?_,Fq A (Like.refl A.st) M (by omega) (by omega)⟩;have hlt:((i:Int) < ((mkA l s).cells.length:Int))=True:=eq_true (by show (i:Int) < (nC l s:Int);omega);have hc:=(Dx A (show (0:Int)≤i by omega) (by omega)).2;have hc2:at_ (mkA l s).cells i=some (cellAt l s i):=hc;simp only [jF.s1,hlt,aF,hc2,ae,Cb A (show (0:Int)≤i by omega) (by omega)];unfold KQ;by_cases h5:chs l s i=[]
   ·simp only [h5,aF,Option.isSome_none,aG,ax];rw [wn (by omega)]
   ·obtain ⟨a,a1,a2,a3,a4⟩:=PG A M (show (0:Int)≤i by omega) (show (i:Int) < nC l s by omega);have a1':at_ m (mkA l s).at_=some a:=a1;simp only [h5,ax,Option.isSome_some,aF,a1',ae];rw [zM (LQ A (by omega) (by omega) h5)];simp only [ae];rw [at_in (d:=0) a2 a3];simp only [ae];rw [wn (by omega)];have:=a4 (value l (chs l s i) i);rw [show (mkA l s).at_=s.Var from rfl,this]
  ·intro m M;have:¬ (((qh (nC l s)).length:Int) < ((mkA l s).cells.length:Int)):=by
    show ¬ _ < (nC l s:Int)
    simp [qh]
   simp only [jF.s1,this,ax]
 ·simp only [h,aS,aF,ax]
theorem at_range {α:Type} (f:Nat→α) {n:Nat} {k:Int} (h0:0≤k) (h1:k < n):at_ ((List.range n).map f) k=some (f k.toNat):=by
 unfold at_;rw [if_pos h0,bu,List.getElem?_range (by omega)];rfl
theorem Pm {m:List ag} (h:xM m) {a:ag} (ha:a∈m):a.Bounds.length < 16777216∧a.Elements.length < 16777216:=by
 have hv:=h.2 a ha;have ok:=zn hv.b;have:=ok.size;have hl:=hv.len;have hd:=ok.len;unfold exs at hl;omega
theorem JE {m:List ag} (h:xM m):jf m m=some true:=by
 have:=h.1;unfold jf;rw [if_neg (by simp)];rw [oV (step:=jf.s1 m m) m (fun _=>(none:Option Bool)) (fun c=>Sum.inr c) (Sum.inl ()) rfl ?_ ?_ (by omega)]
 ·have:m.findSome? (fun _=>(none:Option Bool))=none:=by simp
  rw [this];rfl
 ·intro i hi;obtain ⟨h1,h2⟩:=Pm h (dA hi);simp only [jf.s1,iM hi,aF,jk hi,ae];rw [UW h1 h2];simp only [ae,cO,ax];rw [wn (by omega)]
 ·simp only [jf.s1,di,ax]
theorem LZ {l:List ag} {s:aC} (A:Asg l s):∀ (o:List Int) (m:List ag),Like l m→(∀ k,k∈o→0≤k∧k < nC l s)→Like l (o.foldl (KQ l s l) m)
 | [],m,M,_=>M
 | k::o,m,M,h=>by
  rw [dM];exact LZ A o _ (Fq A (Like.refl A.st) M (h k (.head _)).1 (h k (.head _)).2) (fun j hj=>h j (.tail _ hj))
theorem Qk (n:Nat):∀ k,k∈qh n→0≤k∧k < n:=by
 intro k hk;unfold qh at hk;obtain ⟨i,hi,rfl⟩:=iC.1 hk;simp only [jY] at hi;omega
end Go.Sh
set_option linter.all false
namespace Go.Sh
open Go.Lx
def UI (l:List ag) (k v c:Int) (n:ah):Bool:=(n.Kind==1)&&((n.Var==v)&&(pick (sZ l n.Var n.Subscripts).1 k==c))
def OW (l:List ag) (e:List ah) (k v c:Int):Bool:=e.any (UI l k v c)
theorem WE {l:List ag} {s:aC} (A:Asg l s) {k:Int} (h0:0≤k) (h1:k < nC l s) (c:Int):fU (some (mkA l s)) k c=some (OW l (chs l s k) k s.Var c):=by
 unfold fU;rw [Cb A h0 h1];simp only [ae];by_cases h5:chs l s k=[]
 ·simp only [h5,aF,Option.isNone_none];rfl
 ·have H:=LQ A h0 h1 h5;have hlt:=H.sm.1;simp only [h5,ax,Option.isNone_some,aG,ae];generalize chs l s k=e at *
  obtain ⟨j,hj⟩:=wH (step:=fU.s1 (some (mkA l s)) k c (sW l e)) e (UI l k s.Var c) (fun _=>Sum.inr true) (Sum.inl ()) (s:=0) rfl (fun i hi=>by
   have hlt':((i:Int) < ((sW l e).e.length:Int))=True:=iM hi;have hat:at_ (sW l e).e i=some e[i]:=jk hi;simp only [fU.s1,hlt',aF,hat,ae,UI];by_cases h1:e[i].Kind=1
   ·obtain ⟨a,ha,hof,_⟩:=KO H hi h1;have hsec:at_ (sW l e).sections i=some (sZ l e[i].Var e[i].Subscripts).1:=by
     show at_ (e.map (sec l)) i=_
     rw [jk (by simpa using hi)];simp [sec,h1]
    have hv:(mkA l s).at_=s.Var:=rfl;simp only [h1,aF,hsec,ae,hof _ rfl,mX,iZ,hv];by_cases h2:e[i].Var=s.Var
    ·simp only [h2,aF,mX,iZ,kF];split
     ·rfl
     ·rw [wn (by omega)]
    ·have:(e[i].Var==s.Var)=false:=by simpa using h2
     simp only [h2,ax,this,Bool.false_and,aG];rw [wn (by omega)]
   ·have:(e[i].Kind==1)=false:=by simpa using h1
    simp only [h1,ax,this,Bool.false_and,aG];rw [wn (by omega)]) (by
    have:¬ ((e.length:Int) < ((sW l e).e.length:Int)):=by show ¬ ((e.length:Int) < (e.length:Int));omega
    simp only [fU.s1,this,ax]) (by omega)
  rw [hj];unfold OW;by_cases h:e.any (UI l k s.Var c)=true
  ·simp [h]
  ·simp [h]
def conf (l:List ag) (s:aC) (w r:Nat):Bool :=
 decide (w≠r)&&(!(chs l s (w:Int)).isEmpty&&(!(chs l s (r:Int)).isEmpty&&OW l (chs l s (r:Int)) (r:Int) s.Var (cellAt l s (w:Int))))
def zo (l:List ag) (s:aC) (w r:Nat):List ay:=if conf l s w r=true then [ay.mk (w:Int) (r:Int)] else []
def vM (l:List ag) (s:aC):List ay:=(List.range (nC l s)).flatMap fun w=>(List.range (nC l s)).flatMap (zo l s w)
theorem foldl_flat {α β:Type} (g:α→List β):∀ (xs:List α) (acc:List β),xs.foldl (fun b x=>b++g x) acc=acc++xs.flatMap g
 | [],acc=>by simp
 | x::xs,acc=>by rw [dM,foldl_flat g xs];simp
theorem MS {τ β:Type} {step:Int×List β→Option (Sum (Int×List β) τ)} (n:Nat) (g:Nat→List β) (m:Nat) (fin:List β→τ) {acc:List β} (hn:n < 1000)
  (hg:∀ i,i < n→(g i).length≤m)
  (h:∀ i,i < n→∀ b:List β,b.length≤acc.length+i * m→step ((i:Int),b)=some (.inl (((i+1:Nat):Int),b++g i)))
  (hend:∀ b,step ((n:Int),b)=some (.inr (fin b))):iw step (0,acc)=some (fin (acc++(List.range n).flatMap g)):=by
 have hl:(List.range n).length=n:=lM;rw [lZ (step:=step) (List.range n) (fun i b=>(i,b)) fin (fun b x=>b++g x) (fun i b=>b.length≤acc.length+i * m) (a:=acc) rfl ?_ ?_ (by simp) (by omega),foldl_flat]
 ·intro i hi b hb;rw [hl] at hi;have e:(List.range n)[i]=i:=by simp
  rw [e];refine ⟨h i hi b hb,?_⟩;have:=hg i hi;rw [kX,Nat.succ_mul];omega
 ·intro b _;rw [hl];exact hend b
theorem LV (l:List ag) (s:aC) (w r:Nat):(zo l s w r).length≤1:=by unfold zo;split<;>simp
theorem Kr {α β:Type} (g:α→List β) (m:Nat):∀ (xs:List α),(∀ x,x∈xs→(g x).length≤m)→(xs.flatMap g).length≤xs.length * m
 | [],_=>by simp
 | x::xs,h=>by
  rw [List.flatMap_cons,kX,fE,Nat.succ_mul];have:=Kr g m xs (fun y hy=>h y (.tail _ hy));have:=h x (.head _);omega
theorem UR (l:List ag) (s:aC) (w:Nat):((List.range (nC l s)).flatMap (zo l s w)).length≤nC l s:=by
 have:=Kr (zo l s w) 1 (List.range (nC l s)) (fun r _=>LV l s w r);simpa using this
theorem zq {l:List ag} {s:aC} (A:Asg l s):(vM l s).length≤3600:=by
 have hn:nC l s≤60:=A.n60;have:=Kr (fun w=>(List.range (nC l s)).flatMap (zo l s w)) (nC l s) (List.range (nC l s)) (fun w _=>UR l s w);simp only [lM] at this;have h2:nC l s * nC l s≤60 * 60:=Nat.mul_le_mul hn hn;unfold vM;omega
theorem WG {l:List ag} {s:aC} {w:Nat} (h:chs l s (w:Int)=[]):(List.range (nC l s)).flatMap (zo l s w)=[]:=by
 have:∀ r,zo l s w r=[]:=fun r=>by unfold zo conf;rw [h];simp
 have h2:zo l s w=fun _=>[]:=funext this
 rw [h2];generalize List.range (nC l s)=xs
 induction xs with
 | nil=>rfl
 | cons x xs ih=>rw [List.flatMap_cons,ih];rfl
theorem zt {l:List ag} {s:aC} (A:Asg l s):bT (some (mkA l s))=some (vM l s):=by
 have hn:nC l s≤60:=A.n60;have hcl:((mkA l s).cells.length:Int)=(nC l s:Int):=rfl;unfold bT;simp only [ae];rw [MS (step:=bT.s1 (some (mkA l s)) (mkA l s)) (nC l s) (fun w=>(List.range (nC l s)).flatMap (zo l s w)) (nC l s) (fun b=>b) (by omega) (fun w _=>UR l s w) ?_ ?_]
 ·rfl
 ·intro i hi b hb;have hb2:b.length≤3600:=by
   have:i * nC l s≤60 * 60:=Nat.mul_le_mul (by omega) hn;simp only [kY] at hb;omega
  have hlt:((i:Int) < ((mkA l s).cells.length:Int))=True:=eq_true (by rw [hcl];omega);have hc:at_ (mkA l s).cells i=some (cellAt l s i):=(Dx A (show (0:Int)≤i by omega) (by omega)).2;simp only [bT.s1,hlt,aF,hc,ae,Cb A (show (0:Int)≤i by omega) (by omega)];by_cases h5:chs l s i=[]
  ·simp only [h5,aF,Option.isNone_none];rw [wn (by omega),WG h5,mg]
  ·simp only [h5,ax,Option.isNone_some,aG];rw [MS (step:=bT.s2 (some (mkA l s)) (mkA l s) ((i:Int),b) (cellAt l s i)) (nC l s) (zo l s i) 1 (fun b=>b) (by omega) (fun r _=>LV l s i r) ?_ ?_]
   ·simp only [ae];rw [wn (by omega)]
   ·intro j hj b' hb';have hlt2:((j:Int) < ((mkA l s).cells.length:Int))=True:=eq_true (by rw [hcl];omega);simp only [bT.s2,hlt2,aF];have e5:(chs l s i).isEmpty=false:=by simpa using h5
    by_cases hij:(j:Int)=i
    ·have:conf l s i j=false:=by unfold conf;simp;omega
     simp only [hij,cO,ax,zo,this,aG];rw [wn (by omega),mg]
     congr 3
     omega
    ·simp only [hij,aS,aF,WE A (show (0:Int)≤j by omega) (show (j:Int) < nC l s by omega),ae];have hne:decide (i≠j)=true:=by simp;omega
     have hcf:conf l s i j=OW l (chs l s j) j s.Var (cellAt l s i):=by
      unfold conf;rw [hne,e5];by_cases h6:chs l s j=[]
      ·rw [h6];rfl
      ·have e6:(chs l s j).isEmpty=false:=by simpa using h6
       rw [e6];rfl
     by_cases hr:OW l (chs l s j) j s.Var (cellAt l s i)=true
     ·simp only [hr,aF,zo,hcf];rw [kM (by omega),wn (by omega)];rfl
     ·simp only [hr,ax,zo,hcf,aG];rw [wn (by omega),mg]
   ·intro b';have:¬ ((nC l s:Int) < ((mkA l s).cells.length:Int)):=by rw [hcl];omega
    simp only [bT.s2,this,ax]
 ·intro b;have:¬ ((nC l s:Int) < ((mkA l s).cells.length:Int)):=by rw [hcl];omega
  simp only [bT.s1,this,ax]
theorem Gh {l:List ag} {s:aC} {c:ay}:c∈vM l s↔∃ w r:Nat,w < nC l s∧r < nC l s∧conf l s w r=true∧c=ay.mk (w:Int) (r:Int):=by
 unfold vM;simp only [List.mem_flatMap,jY];constructor
 ·rintro ⟨w,hw,r,hr,hc⟩
  unfold zo at hc;split at hc
  ·rename_i q;simp only [gQ] at hc;exact ⟨w,r,hw,hr,q,hc⟩
  ·cases hc
 ·rintro ⟨w,r,hw,hr,q,rfl⟩
  exact ⟨w,hw,r,hr,by unfold zo;rw [if_pos q];exact gQ.2 rfl⟩
end Go.Sh
set_option linter.all false
namespace Go.Sh
open Go.Lx
theorem xC (n:Nat):(qh n).length=n:=by simp [qh]
theorem KP (n:Nat):(qh n).Pairwise (·≤·):=by
 unfold qh;rw [List.pairwise_map];exact (List.pairwise_lt_range (n:=n)).imp (by intro a b h;omega)
theorem EL (n:Nat):(qh n).Nodup:=by
 unfold qh List.Nodup;rw [List.pairwise_map];exact (List.pairwise_lt_range (n:=n)).imp (by intro a b h;omega)
theorem vJ {n:Nat} {x:Int}:x∈qh n↔0≤x∧x < n:=by
 constructor
 ·exact Qk n x
 ·intro h;exact iC.2 ⟨x.toNat,jY.2 (by omega),by omega⟩
theorem BB:∀ {xs ys:List Int},xs.Nodup→(∀ x,x∈xs→x∈ys)→ys.length≤xs.length→ys.Perm xs
 | [],ys,_,_,h=>by
  have:ys=[]:=bZ (by simpa using h);subst this;exact .refl _
 | x::xs,ys,hn,hs,hl=>by
  rw [List.nodup_cons] at hn;have hx:=hs x (.head _);have p:=List.perm_cons_erase hx;refine p.trans (.cons x (BB hn.2 (fun z hz=>?_) ?_))
  ·have hne:z≠x:=fun e=>hn.1 (e ▸ hz)
   exact (List.mem_erase_of_ne hne).2 (hs z (.tail _ hz))
  ·have:=List.length_erase_of_mem hx;simp at hl;have:=List.length_pos_of_mem hx;omega
def EE (n:Nat) (o:List Int):Bool:=decide (o.length=n)&&(List.range n).all fun i=>o.any fun x=>x==(i:Int)
theorem vT {n:Nat} {o:List Int}:EE n o=true↔o.Perm (qh n):=by
 unfold EE;simp only [bn,iW,aW,jY,ku,kF];constructor
 ·rintro ⟨h1,h2⟩
  refine BB (EL n) (fun x hx=>?_) (by rw [xC];omega);obtain ⟨i,hi,rfl⟩:=iC.1 hx;obtain ⟨y,hy,rfl⟩:=h2 i (jY.1 hi);exact hy
 ·intro h;refine ⟨by rw [h.length_eq,xC],fun i hi=>⟨(i:Int),h.mem_iff.2 (vJ.2 (by omega)),rfl⟩⟩
theorem OI {n:Nat} {o:List Int}:Bi o=qh n↔o.Perm (qh n):=by
 constructor
 ·intro h;rw [← h];exact (xy o).symm
 ·intro h;exact (EG h.symm (KP n)).symm
theorem MK {n:Nat} {o:List Int} (hn:n < 1000) (h:o.length < 16777216):kT o (n:Int)=some (EE n o):=by
 unfold kT EE;by_cases hl:o.length=n
 ·rw [if_neg (by omega)];have key:=jV (ρ:=Unit) (β:=Unit) (τ:=Sum Unit Bool) (step:=kT.s1 o (n:Int)) (List.range n) (fun i (_:Unit)=>i) (fun _ => .inr false) (fun _ => .inl ())
   (fun _ _ (i:Nat)=>if (o.any fun x=>x==(i:Int))=true then .inr () else .inl ()) (fun _ _=>True) (a:=()) (s:=0) rfl ?_ ?_ trivial (by simp;omega)
  ·rw [key];have scan:∀ (xs:List Nat) (i:Nat),gV (ρ:=Unit) (fun _ (_:Unit) (i:Nat)=>if (o.any fun x=>x==(i:Int))=true then Sum.inr () else Sum.inl ()) i xs ()=if (xs.all fun i=>o.any fun x=>x==(i:Int))=true then .inr () else .inl ():=by
    intro xs
    induction xs with
    | nil=>intro i;rfl
    | cons x xs ih =>
     intro i;simp only [gV,oz];by_cases hx:(o.any fun y=>y==(x:Int))=true
     ·simp only [hx,aF,iZ];exact ih _
     ·simp only [hx,ax,aG,Bool.false_and]
   rw [scan];by_cases hq:((List.range n).all fun i=>o.any fun x=>x==(i:Int))=true
   ·simp only [hq,hl,aF,ae,decide_true,Bool.and_self]
   ·simp only [hq,hl,ax,ae,aG,decide_true,iZ]
  ·intro i hi b _;refine ⟨?_,fun _ _=>trivial⟩;have hi':i < n:=by simpa using hi
   have e:(List.range n)[i]=i:=by simp
   have hle:((i:Int) < (n:Int))=True:=eq_true (by omega);simp only [kT.s1,hle,aF,e];rw [has_eq h];simp only [ae];by_cases hx:(o.any fun y=>y==(i:Int))=true
   ·simp only [hx,aF,cO,ax];rw [wn (by omega)]
   ·simp only [hx,ax,aF,aS,aG]
  ·intro b _;have hle:(((List.range n).length:Int) < (n:Int))=False:=eq_false (by simp);simp only [kT.s1,hle,ax]
 ·rw [if_pos (by omega)];simp [hl]
theorem Qs:∀ (xs:List Int) (i:Nat) (b:Bool),gV (ρ:=Unit) (fun i b x => .inr (b&&(x==(i:Int)))) i xs b = .inr (b&&(xs==(List.range xs.length).map fun j:Nat=>((i+j:Nat):Int)))
 | [],i,b=>by simp [gV]
 | x::xs,i,b=>by
  simp only [gV];rw [Qs xs (i+1)];have hmap:(List.range (x::xs).length).map (fun j:Nat=>((i+j:Nat):Int))=(i:Int)::(List.range xs.length).map (fun j:Nat=>((i+1+j:Nat):Int)):=by
   rw [fE,List.range_succ_eq_map,gB,List.map_map]
   congr 1
   apply List.map_congr_left;intro j _;simp only [Function.comp];omega
  rw [hmap]
  congr 1
  rw [Bool.and_assoc];rfl
def Rk (l:List ag) (s:aC) (o:List Int):Int:=if opE l s=0 then (if EE (nC l s) o=true then 0 else 3) else opE l s
theorem EJ {l:List ag} {s:aC} {o:List Int} (hf:few l=true) (hb:uV s=true) (ho:o.length < 1000):∃ y,je l s o=some (y,Rk l s o)∧(Rk l s o=0→y=some (mkA l s)):=by
 obtain ⟨y,y1,y2⟩:=KL hf hb;unfold je Rk;rw [y1];simp only [ae];by_cases h:opE l s=0
 ·have A:=asg hb h;have hn:nC l s≤60:=A.n60;have hsl:=(xy o).length_eq;simp only [h,cO,ax,y2 h,ae,aF];have hs:iK o=some (Bi o):=by unfold iK Ei;rw [if_pos (by omega)]
  rw [hs];simp only [ae];rw [jV (ρ:=Unit) (step:=je.s1 (Bi o)) (Bi o) (fun i b=>(b,i)) (fun _=>false) (fun b=>b) (fun i b x => .inr (b&&(x==(i:Int)))) (fun _ _=>True) rfl ?_ ?_ trivial (by omega),Qs]
  ·simp only [ae,qO];have he:(((o.length:Int)==((mkA l s).cells.length:Int))&&(Bi o==(List.range (Bi o).length).map fun j:Nat=>((0+j:Nat):Int)))=EE (nC l s) o:=by
    have e1:((o.length:Int)==((mkA l s).cells.length:Int))=decide (o.length=nC l s):=by
     show ((o.length:Int)==(nC l s:Int))=_
     rw [Bool.eq_iff_iff];simp only [kF,iW];omega
    rw [e1,hsl];have e2:((List.range o.length).map fun j:Nat=>((0+j:Nat):Int))=qh o.length:=by unfold qh;simp
    rw [e2];rw [Bool.eq_iff_iff,vT,bn,iW,kF,OI];constructor
    ·rintro ⟨q1,q2⟩;rw [q1] at q2;exact q2
    ·intro q;have:=q.length_eq;rw [xC] at this;exact ⟨this,by rw [this];exact q⟩
   rw [he];exact ⟨_,rfl,fun _=>rfl⟩
  ·intro i hi b _;refine ⟨?_,fun _ _=>trivial⟩;simp only [je.s1,iM hi,aF,jk hi,ae];rw [wn (by omega)]
  ·intro b _;simp only [je.s1,di,ax]
 ·simp only [h,aS,aF,ax];exact ⟨none,rfl,fun q=>q.elim⟩
theorem Y3 {n:Nat} {o:List Int} (h:EE n o=true):∀ k,k∈o→0≤k∧k < n:=fun k hk=>vJ.1 ((vT.1 h).mem_iff.1 hk)
theorem QZ {l:List ag} {s:aC} {o:List Int} (hf:few l=true) (hb:uV s=true) (ho:o.length < 1000):jo l s o=some (if Rk l s o=0 then ZE l s o else [],Rk l s o):=by
 obtain ⟨y,y1,y2⟩:=EJ hf hb ho;unfold jo;rw [y1];simp only [ae];by_cases h:Rk l s o=0
 ·have h':=h;unfold Rk at h';split at h'
  ·rename_i h0
   split at h'
   ·rename_i h1
    have A:=asg hb h0;have hin:=Y3 h1;simp only [h,cO,ax,Jh hf,ae,y2 h,aF];rw [lZ (step:=jo.s1 o (some (mkA l s),0)) o (fun i b=>(i,b)) (fun b=>b) (fun m k=>KQ l s m m k) (fun _ m=>Like l m) rfl ?_ ?_ (Like.refl A.st) (by omega)]
    ·rfl
    ·intro i hi m M;obtain ⟨k0,k1⟩:=hin o[i] (dA hi);refine ⟨?_,Fq A M M k0 k1⟩;simp only [jo.s1,iM hi,aF,jk hi,ae,Cb A k0 k1];generalize o[i]=k at *
     unfold KQ;by_cases h5:chs l s k=[]
     ·simp only [h5,aF,Option.isSome_none,aG,ax];rw [wn (by omega)]
     ·obtain ⟨a,a1,a2,a3,a4⟩:=PG A M k0 k1;have a1':at_ m (mkA l s).at_=some a:=a1;have hc2:at_ (mkA l s).cells k=some (cellAt l s k):=(Dx A k0 k1).2;simp only [h5,ax,Option.isSome_some,aF,a1',ae,hc2];rw [Rh M.b,zM ((LQ A k0 k1 h5).bds M.b M.st)];simp only [ae];rw [at_in (d:=0) a2 a3];simp only [ae];rw [wn (by omega)];have:=a4 (value m (chs l s k) k);rw [show (mkA l s).at_=s.Var from rfl,this]
    ·intro m M;simp only [jo.s1,di,ax]
   ·cases h'
  ·rename_i h0;exact absurd h' h0
 ·simp only [h,aS,aF,ax]
def idx (v:Int):List Int→Nat→Int
 | [],_ => -1
 | x::xs,i=>if v=x then (i:Int) else idx v xs (i+1)
theorem PZ {o:List Int} {v:Int} (h:o.length < 1000):slices_Index_int o v=some (idx v o 0):=by
 unfold slices_Index_int;rw [jV (ρ:=Nat) (step:=slices_Index_int.s1 o v) o (fun i (_:Unit)=>i) (fun k=>Sum.inr (k:Int)) (fun _=>Sum.inl ()) (fun i _ x=>if v=x then .inl i else .inr ()) (fun _ _=>True) (a:=()) rfl ?_ ?_ trivial (by omega)]
 ·have key:∀ (xs:List Int) (i:Nat),(gV (ρ:=Nat) (fun i (_:Unit) x=>if v=x then .inl i else .inr ()) i xs () = .inr ()∧idx v xs i = -1)∨∃ k:Nat,gV (ρ:=Nat) (fun i (_:Unit) x=>if v=x then .inl i else .inr ()) i xs () = .inl k∧idx v xs i=(k:Int):=by
   intro xs
   induction xs with
   | nil=>intro i;exact .inl ⟨rfl,rfl⟩
   | cons x xs ih =>
    intro i;simp only [gV,idx];by_cases hx:v=x
    ·simp only [hx,aF];exact .inr ⟨i,rfl,rfl⟩
    ·simp only [hx,ax];exact ih (i+1)
  rcases key o 0 with ⟨h1,h2⟩ | ⟨k,h1,h2⟩
  ·rw [h1,h2];rfl
  ·rw [h1,h2];rfl
 ·intro i hi _ _;refine ⟨?_,fun _ _=>trivial⟩;simp only [slices_Index_int.s1,iM hi,aF,jk hi,ae];by_cases hx:v=o[i]
  ·simp only [hx,aF]
  ·simp only [hx,ax];rw [wn (by omega)]
 ·intro _ _;simp only [slices_Index_int.s1,di,ax]
def bef (c:ay):List Int→Bool
 | []=>false
 | x::xs=>if x=c.Reader then false else if x=c.Writer then true else bef c xs
theorem TT {v:Int}:∀ {xs:List Int} (i:Nat),v∈xs→(i:Int)≤idx v xs i
 | [],i,h=>by cases h
 | x::xs,i,h=>by
  unfold idx;split
  ·omega
  ·rename_i hx
   rcases gG.1 h with q | q
   ·exact absurd q hx
   ·have:=TT (i+1) q;omega
theorem SG {c:ay}:∀ {xs:List Int} (i:Nat),c.Writer∈xs→c.Reader∈xs→decide (idx c.Writer xs i < idx c.Reader xs i)=bef c xs
 | [],i,h,_=>by cases h
 | x::xs,i,hw,hr=>by
  have gw:=TT i hw;unfold bef;by_cases h1:x=c.Reader
  ·have:idx c.Reader (x::xs) i=i:=by unfold idx;rw [if_pos h1.symm]
   rw [if_pos h1,this];simp;exact gw
  ·rw [if_neg h1];have hr2:c.Reader∈xs:=by
    rcases gG.1 hr with q | q
    ·exact absurd q.symm h1
    ·exact q
   have er:idx c.Reader (x::xs) i=idx c.Reader xs (i+1):=by rw [idx,if_neg (fun q=>h1 q.symm)]
   rw [er];by_cases h2:x=c.Writer
   ·have:idx c.Writer (x::xs) i=i:=by unfold idx;rw [if_pos h2.symm]
    have:=TT (i+1) hr2;rw [if_pos h2];simp;omega
   ·rw [if_neg h2];have hw2:c.Writer∈xs:=by
     rcases gG.1 hw with q | q
     ·exact absurd q.symm h2
     ·exact q
    have ew:idx c.Writer (x::xs) i=idx c.Writer xs (i+1):=by rw [idx,if_neg (fun q=>h2 q.symm)]
    rw [ew];exact SG (i+1) hw2 hr2
def NC (c:List ay) (o:List Int):Bool:=!(c.any fun x=>bef x o)
theorem Ua {l:List ag} {s:aC} {o:List Int} (hf:few l=true) (hb:uV s=true) (ho:o.length < 1000):nH l s o=some (if Rk l s o=0 then NC (vM l s) o else false,Rk l s o):=by
 obtain ⟨y,y1,y2⟩:=EJ hf hb ho;unfold nH;rw [y1];simp only [ae];by_cases h:Rk l s o=0
 ·have h':=h;unfold Rk at h';split at h'
  ·rename_i h0
   split at h'
   ·rename_i h1
    have A:=asg hb h0;have hp:=vT.1 h1;have hcl:=zq A;simp only [h,cO,ax,y2 h,aF,zt A,ae];unfold fC aY;obtain ⟨k,hk⟩:=wH (step:=aY.s1 (vM l s) o) (vM l s) (fun x=>bef x o) (fun i=>Sum.inr i) (Sum.inl ()) (s:=0) rfl (fun i hi=>by
     obtain ⟨cw,cr,hw,hr,_,hc⟩:=Gh.1 (dA hi);simp only [aY.s1,iM hi,aF,jk hi,ae,oM,PZ ho];rw [SG 0 (by rw [hc];exact hp.mem_iff.2 (vJ.2 (by simp;omega))) (by rw [hc];exact hp.mem_iff.2 (vJ.2 (by simp;omega)))];by_cases hq:bef (vM l s)[i] o=true
     ·simp only [hq,aF]
     ·simp only [hq,ax,aG];rw [wn (by omega)]) (by simp only [aY.s1,di,ax]) (by omega)
    rw [hk];unfold NC;by_cases hq:(vM l s).any (fun x=>bef x o)=true
    ·simp [hq]
    ·simp [hq]
   ·cases h'
  ·rename_i h0;exact absurd h' h0
 ·simp only [h,aS,aF,ax]
end Go.Sh
set_option linter.all false
namespace Go.Sh
open Go.Lx
def aft (C:List ay) (r:Int):List Int:=(C.filter fun c=>c.Reader==r).map (·.Writer)
def zh (n:Nat) (C:List ay):List (List Int):=(List.range n).map fun r:Nat=>aft C (r:Int)
theorem Fg (n:Nat) (C:List ay):(zh n C).length=n:=by simp [zh]
theorem NZ {n:Nat} {C:List ay} {r:Int} (h0:0≤r) (h1:r < n):at_ (zh n C) r=some (aft C r):=by
 unfold zh;rw [at_range _ h0 h1]
 congr 2
 omega
theorem Vy (C:List ay) (c:ay) (r:Int):aft (C++[c]) r=if c.Reader=r then aft C r++[c.Writer] else aft C r:=by
 unfold aft;rw [List.filter_append,List.map_append];by_cases h:c.Reader=r
 ·rw [if_pos h];simp [h]
 ·rw [if_neg h];simp [h]
theorem Vw {n:Nat} {C:List ay} {c:ay} (h0:0≤c.Reader) (h1:c.Reader < n):(zh n C).set c.Reader.toNat (aft C c.Reader++[c.Writer])=zh n (C++[c]):=by
 apply lL;intro i;rw [jO];unfold zh;simp only [iy,lM,bu];by_cases hi:i < n
 ·rw [List.getElem?_range hi];simp only [iV,Vy];by_cases e:c.Reader.toNat=i
  ·rw [if_pos e,if_pos (by omega),if_pos (by omega)];rw [show c.Reader=(i:Int) by omega]
  ·rw [if_neg e,if_neg (by omega)]
 ·have:(List.range n)[i]?=none:=iY (by simpa using hi);rw [this];split
  ·rename_i e;rw [if_neg (by omega)];rfl
  ·rfl
def inC (n:Nat) (C:List ay):Prop:=∀ c,c∈C→(0≤c.Writer∧c.Writer < n)∧(0≤c.Reader∧c.Reader < n)∧c.Writer≠c.Reader
theorem J5 (l:List ag) (s:aC):inC (nC l s) (vM l s):=by
 intro c hc;obtain ⟨w,r,hw,hr,hcf,rfl⟩:=Gh.1 hc;simp only;refine ⟨by omega,by omega,fun e=>?_⟩;unfold conf at hcf;simp at hcf;omega
theorem JQ (C:List ay) (r:Int):(aft C r).length≤C.length:=by
 unfold aft;rw [iy];exact List.length_filter_le _ _
theorem Vz {l:List ag} {s:aC} (A:Asg l s):fJ (some (mkA l s))=some (zh (nC l s) (vM l s)):=by
 have hn:nC l s≤60:=A.n60;have hcl:=zq A;have hin:=J5 l s;unfold fJ;simp only [ae];rw [show ((mkA l s).cells.length:Int)=(nC l s:Int) from rfl,Ju (by omega),zt A];simp only [ae];generalize vM l s=C at *
 generalize nC l s=n at *
 obtain ⟨t,ht,rfl⟩:=MR (step:=fJ.s1 C) (fun x=>∃ i:Nat,i≤C.length∧x=((i:Int),zh n (C.take i))) (fun x=>C.length - x.1.toNat) (fun t=>t=zh n C) (fun x hx=>by
  obtain ⟨i,hi,rfl⟩:=hx;by_cases h:i < C.length
  ·left;have hc:=hin C[i] (dA h);have hal:=JQ (C.take i) C[i].Reader;rw [List.length_take] at hal;refine ⟨(((i+1:Nat):Int),zh n (C.take (i+1))),?_,⟨i+1,h,rfl⟩,by simp only [kE];omega⟩;simp only [fJ.s1,iM h,aF,jk h,ae,NZ hc.2.1.1 hc.2.1.2];rw [kM (by omega),wn (by omega)];simp only [ae];rw [Vw hc.2.1.1 hc.2.1.2,jA h]
  ·right;have:i=C.length:=by omega
   subst this;refine ⟨zh n C,?_,rfl⟩;simp only [fJ.s1,di,ax,List.take_length]) (x:=(0,List.replicate n [])) ⟨0,by omega,by
    rw [List.take_zero]
    congr 1
    apply List.ext_getElem
    ·simp [zh]
    ·intro i h1 h2;simp [zh,aft]⟩ (by have:=JJ;simp;omega)
 rw [ht];rfl
theorem MC:∀ (ks:List Int) (b:List Int) (i:Nat),(∀ k,k∈ks→0≤k∧k < b.length)→i < b.length→0≤b.getD i 0→b.getD i 0+ks.length < 1000000→(ks.foldl bump b).getD i 0=b.getD i 0+ks.count (i:Int)
 | [],b,i,_,_,_,_=>by simp
 | k::ks,b,i,h,hi,h0,hb=>by
  simp only [fE] at hb;have hk:=h k (.head _);have hg:(bump b k).getD i 0=b.getD i 0+if k=(i:Int) then 1 else 0:=by
   unfold bump;rw [aO,jO];by_cases e:k.toNat=i
   ·rw [if_pos e,if_pos (by omega),if_pos (by omega),e];simp only [jJ];rw [yK (by omega) (by omega)]
   ·rw [if_neg e,if_neg (by omega),← aO];simp
  rw [dM,MC ks (bump b k) i (fun j hj=>by rw [BV];exact h j (.tail _ hj)) (by rw [BV];exact hi) (by rw [hg];split<;>omega) (by rw [hg];split<;>omega),hg,List.count_cons];by_cases e:k=(i:Int)
  ·simp [e];omega
  ·simp [e]
def dec (b:List Int) (k:Int):List Int:=b.set k.toNat (w (b.getD k.toNat 0 - 1))
theorem J7 (b:List Int) (k:Int):(dec b k).length=b.length:=by simp [dec]
theorem PX:∀ (ks:List Int) (b:List Int) (i:Nat),(∀ k,k∈ks→0≤k∧k < b.length)→i < b.length→b.getD i 0 < 1000000 → -1000000 < b.getD i 0 - ks.length→(ks.foldl dec b).getD i 0=b.getD i 0 - ks.count (i:Int)
 | [],b,i,_,_,_,_=>by simp
 | k::ks,b,i,h,hi,h0,hb=>by
  simp only [fE] at hb;have hk:=h k (.head _);have hg:(dec b k).getD i 0=b.getD i 0 - if k=(i:Int) then 1 else 0:=by
   unfold dec;rw [aO,jO];by_cases e:k.toNat=i
   ·rw [if_pos e,if_pos (by omega),if_pos (by omega),e];simp only [jJ];rw [yK (by omega) (by omega)]
   ·rw [if_neg e,if_neg (by omega),← aO];simp
  rw [dM,PX ks (dec b k) i (fun j hj=>by rw [J7];exact h j (.tail _ hj)) (by rw [J7];exact hi) (by rw [hg];split<;>omega) (by rw [hg];split<;>omega),hg,List.count_cons];by_cases e:k=(i:Int)
  ·simp [e];omega
  ·simp [e]
def Xe (C:List ay) (out:List Int) (i:Int):Nat:=(C.filter fun c=>(c.Writer==i)&&!(out.contains c.Reader)).length
def wtF (C:List ay) (out:List Int) (i:Int):Int:=if i∈out then -1 else (Xe C out i:Int)
def wt (n:Nat) (C:List ay) (out:List Int):List Int:=(List.range n).map fun i:Nat=>wtF C out (i:Int)
theorem IA (n:Nat) (C:List ay) (out:List Int):(wt n C out).length=n:=by simp [wt]
theorem PS {a b:List Int} (hl:a.length=b.length) (h:∀ i,i < a.length→a.getD i 0=b.getD i 0):a=b:=by
 apply List.ext_getElem hl;intro i h1 h2;have:=h i h1;rw [aO,aO,aj h1,aj h2] at this;simpa using this
theorem Pv {n:Nat} {C:List ay} {out:List Int} {i:Nat} (h:i < n):(wt n C out).getD i 0=wtF C out (i:Int):=by
 rw [aO];unfold wt;rw [bu,List.getElem?_range h];rfl
theorem Vx (C:List ay) (c:ay) (r:Int):aft (c::C) r=if c.Reader=r then c.Writer::aft C r else aft C r:=by
 unfold aft;rw [List.filter_cons];by_cases h:c.Reader=r
 ·simp [h]
 ·simp [h]
theorem Qz {x:Int}:∀ {L:List (List Int)} {r:Nat} {a:List Int},L[r]?=some a→(L.set r (x::a)).flatten.Perm (x::L.flatten)
 | [],r,a,h=>by simp at h
 | y::L,0,a,h=>by
  simp only [List.getElem?_cons_zero,Option.some.injEq] at h;subst h;simp
 | y::L,r+1,a,h=>by
  simp only [kW] at h;simp only [List.set_cons_succ,List.flatten_cons];exact ((Qz h).append_left y).trans List.perm_middle
theorem Sv {n:Nat} {C:List ay} {c:ay} (h0:0≤c.Reader) (h1:c.Reader < n):zh n (c::C)=(zh n C).set c.Reader.toNat (c.Writer::aft C c.Reader):=by
 symm;apply lL;intro i;rw [jO];unfold zh;simp only [iy,lM,bu];by_cases hi:i < n
 ·rw [List.getElem?_range hi];simp only [iV,Vx];by_cases e:c.Reader.toNat=i
  ·rw [if_pos e,if_pos (by omega),if_pos (by omega)];rw [show c.Reader=(i:Int) by omega]
  ·rw [if_neg e,if_neg (by omega)]
 ·have:(List.range n)[i]?=none:=iY (by simpa using hi);rw [this];split
  ·rename_i e;rw [if_neg (by omega)];rfl
  ·rfl
theorem MB {n:Nat}:∀ {C:List ay},inC n C→(zh n C).flatten.Perm (C.map (·.Writer))
 | [],_=>by
  have:(zh n []).flatten=[]:=by
   unfold zh aft;simp
  rw [this];exact .refl _
 | c::C,h=>by
  have hc:=h c (.head _);rw [Sv hc.2.1.1 hc.2.1.2];have hg:(zh n C)[c.Reader.toNat]?=some (aft C c.Reader):=(at_mem (NZ hc.2.1.1 hc.2.1.2)).2.2;exact (Qz hg).trans (.cons _ (MB (fun x hx=>h x (.tail _ hx))))
theorem GH (f:List Int→Int→List Int):∀ (L:List (List Int)) (b:List Int),L.foldl (fun b xs=>xs.foldl f b) b=L.flatten.foldl f b
 | [],b=>rfl
 | x::L,b=>by rw [dM,GH f L,List.flatten_cons,List.foldl_append]
theorem Tj (C:List ay) (i:Int):(C.map (·.Writer)).count i=Xe C [] i:=by
 unfold Xe;rw [List.count_eq_countP,List.countP_map,List.countP_eq_length_filter]
 congr 1
 apply List.filter_congr;intro c _;simp
theorem WV {n:Nat} {C:List ay} (hn:n≤60) (hC:C.length≤3600) (hin:inC n C):iw (bP.s1 (zh n C)) (0,List.replicate n 0)=some (wt n C []):=by
 have hal:=Fg n C;have hp:=MB hin;have hmem:∀ k,k∈(zh n C).flatten→0≤k∧k < n:=by
  intro k hk;have:=hp.mem_iff.1 hk;obtain ⟨c,hc,rfl⟩:=iC.1 this;exact (hin c hc).1
 rw [lZ (step:=bP.s1 (zh n C)) (zh n C) (fun i b=>(i,b)) (fun b=>b) (fun b xs=>xs.foldl bump b) (fun _ b=>b.length=n) rfl ?_ ?_ (by simp) (by omega),GH]
 ·congr 1
  have hl:((zh n C).flatten.foldl bump (List.replicate n 0)).length=n:=by rw [uD];simp
  refine PS (by rw [hl,IA]) (fun i hi=>?_);rw [hl] at hi;have hr:(List.replicate n (0:Int)).getD i 0=0:=by
   rw [aO,List.getElem?_replicate];split<;>rfl
  have hfl:(zh n C).flatten.length=C.length:=by rw [hp.length_eq,iy]
  rw [MC _ _ i (by simpa using hmem) (by simpa using hi) (by rw [hr];omega) (by rw [hr,hfl];omega),hr,Pv hi,hp.count_eq,Tj];unfold wtF;simp
 ·intro i hi b hb;have hmi:∀ k,k∈(zh n C)[i]→0≤k∧k < n:=fun k hk=>hmem k (List.mem_flatten.2 ⟨_,dA hi,hk⟩)
  have hli:(zh n C)[i].length≤3600:=by
   have:(zh n C)[i]=aft C (i:Int):=by simp [zh]
   rw [this];exact Nat.le_trans (JQ C _) hC
  refine ⟨?_,by rw [uD];exact hb⟩;simp only [bP.s1,iM hi,aF,jk hi,ae];generalize (zh n C)[i]=xs at *
  rw [lZ (step:=bP.s2 xs) xs (fun i b=>(i,b)) (fun b=>b) bump (fun _ b=>b.length=n) rfl ?_ ?_ hb (by omega)]
  ·simp only [ae];rw [wn (by omega)]
  ·intro j hj b' hb';obtain ⟨k0,k1⟩:=hmi xs[j] (dA hj);refine ⟨?_,by rw [BV];exact hb'⟩;simp only [bP.s2,iM hj,aF,jk hj,ae];rw [at_in (d:=0) k0 (by omega)];simp only [ae];rw [wn (by omega)];rfl
  ·intro b' _;simp only [bP.s2,di,ax]
 ·intro b _;simp only [bP.s1,di,ax]
def free (C:List ay) (out:List Int) (i:Nat):Bool:=!(out.contains (i:Int))&&C.all fun c=>(c.Writer != (i:Int)) || out.contains c.Reader
def Lj (p:Nat→Bool):Nat→Nat→Int
 | _,0 => -1
 | i,k+1=>if p i=true then (i:Int) else Lj p (i+1) k
theorem TS (f:Nat→Int):∀ (k i j:Nat),idx 0 ((List.range' i k).map f) j=(if Lj (fun i=>f i==0) i k < 0 then -1 else Lj (fun i=>f i==0) i k - i+j)
 | 0,i,j=>by simp [idx,Lj]
 | k+1,i,j=>by
  rw [List.range'_succ,gB,idx];unfold Lj;by_cases h:f i=0
  ·have:(f i==0)=true:=by simpa using h
   simp only [h,mX,aF];rw [if_neg (by omega)];omega
  ·have:(f i==0)=false:=by simpa using h
   rw [if_neg (fun q=>h q.symm),this,TS f k (i+1) (j+1)];simp only [aG,ax];by_cases hA:Lj (fun i=>f i==0) (i+1) k < 0
   ·simp only [hA,aF]
   ·simp only [hA,ax];omega
theorem TK (p:Nat→Bool):∀ (k i:Nat),Lj p i k = -1∨((i:Int)≤Lj p i k∧Lj p i k < i+k∧p (Lj p i k).toNat=true)
 | 0,i => .inl rfl
 | k+1,i=>by
  unfold Lj;by_cases h:p i=true
  ·right;rw [if_pos h];exact ⟨by omega,by omega,by simpa using h⟩
  ·rw [if_neg h];rcases TK p k (i+1) with q | ⟨q1,q2,q3⟩
   ·exact .inl q
   ·exact .inr ⟨by omega,by omega,q3⟩
theorem MG {p q:Nat→Bool}:∀ (k i:Nat),(∀ j,j < i+k→p j=q j)→Lj p i k=Lj q i k
 | 0,i,_=>rfl
 | k+1,i,h=>by
  unfold Lj;rw [h i (by omega),MG k (i+1) (fun j hj=>h j (by omega))]
theorem Yo (C:List ay) (out:List Int) (i:Nat):(wtF C out (i:Int)==0)=free C out i:=by
 unfold wtF free;by_cases h:(i:Int)∈out
 ·have:out.contains (i:Int)=true:=by simpa using h
  rw [if_pos h,this];rfl
 ·have:out.contains (i:Int)=false:=by simpa using h
  rw [if_neg h,this,Bool.eq_iff_iff];unfold Xe;simp only [kF,Bool.not_false,iZ,aW,kV,bne_iff_ne];constructor
  ·intro q c hc;have q2:(C.filter fun c=>(c.Writer==(i:Int))&&!(out.contains c.Reader))=[]:=bZ (by omega);have:=(List.filter_eq_nil_iff.1 q2) c hc;simp at this;by_cases e:c.Writer=i
   ·right;simpa using this e
   ·exact .inl e
  ·intro q;have:(C.filter fun c=>(c.Writer==(i:Int))&&!(out.contains c.Reader))=[]:=by
    rw [List.filter_eq_nil_iff];intro c hc;rcases q c hc with r | r
    ·simp [r]
    ·simp at r;simp [r]
   rw [this];rfl
def nxt (n:Nat) (C:List ay) (out:List Int):Int:=Lj (free C out) 0 n
theorem X8 {n:Nat} {C:List ay} {out:List Int}:idx 0 (wt n C out) 0=nxt n C out:=by
 unfold wt nxt;rw [List.range_eq_range',TS (fun i:Nat=>wtF C out (i:Int)) n 0 0];rw [MG (q:=free C out) n 0 (fun j _=>Yo C out j)];rcases TK (free C out) n 0 with q | ⟨q,_⟩
 ·rw [q];rfl
 ·rw [if_neg (by omega)];omega
def Qe (n:Nat) (C:List ay):Nat→List Int→Option (List Int)
 | 0,out=>some out
 | k+1,out=>if nxt n C out < 0 then none else Qe n C k (out++[nxt n C out])
def closed (C:List ay) (out:List Int):Prop:=∀ c,c∈C→c.Writer∈out→c.Reader∈out
theorem Fz {n:Nat} {C:List ay} {out:List Int} (h:¬ nxt n C out < 0):0≤nxt n C out∧nxt n C out < n∧nxt n C out∉out∧∀ c,c∈C→c.Writer=nxt n C out→c.Reader∈out:=by
 unfold nxt at *
 rcases TK (free C out) n 0 with q | ⟨q1,q2,q3⟩
 ·omega
 ·have e:(((Lj (free C out) 0 n).toNat:Nat):Int)=Lj (free C out) 0 n:=by omega
  generalize Lj (free C out) 0 n=r at *
  unfold free at q3;simp only [bn,aW] at q3;rw [e] at q3;refine ⟨by omega,by omega,by simpa using q3.1,fun c hc hw=>?_⟩;have:=q3.2 c hc;simpa [hw] using this
theorem Oe {n:Nat} {C:List ay} {out:List Int} (hc:closed C out) (h:¬ nxt n C out < 0):closed C (out++[nxt n C out]):=by
 intro c hcC hw;obtain ⟨_,_,_,h4⟩:=Fz h;rcases aP.1 hw with q | q
 ·exact aP.2 (.inl (hc c hcC q))
 ·exact aP.2 (.inl (h4 c hcC (by simpa using q)))
theorem Ti (C:List ay) (r i:Int):(aft C r).count i=(C.filter fun c=>(c.Writer==i)&&(c.Reader==r)).length:=by
 unfold aft;rw [List.count_eq_countP,List.countP_map,List.countP_filter,List.countP_eq_length_filter];rfl
theorem Td {C:List ay} {out:List Int} {r:Int} (hr:r∉out) (i:Int):Xe C out i=Xe C (out++[r]) i+(aft C r).count i:=by
 rw [Ti];unfold Xe
 induction C with
 | nil=>rfl
 | cons c C ih =>
  simp only [List.filter_cons];by_cases hw:c.Writer=i
  ·by_cases h1:c.Reader=r
   ·have a1:out.contains r=false:=by simpa using hr
    have a2:(out++[r]).contains r=true:=by simp
    simp only [hw,a1,a2,h1,mX,Bool.not_false,Bool.and_self,aF,nD,Bool.and_false,aG,ax,fE];omega
   ·have a3:(c.Reader==r)=false:=by simpa using h1
    by_cases h2:c.Reader∈out
    ·have a1:out.contains c.Reader=true:=by simpa using h2
     have a2:(out++[r]).contains c.Reader=true:=by simp [h2]
     simp only [a1,a2,a3,nD,Bool.and_false,aG,ax];exact ih
    ·have a1:out.contains c.Reader=false:=by simpa using h2
     have a2:(out++[r]).contains c.Reader=false:=by simp [h2,h1]
     simp only [hw,a1,a2,a3,mX,Bool.not_false,Bool.and_self,aF,Bool.and_false,aG,ax,fE];omega
  ·have a0:(c.Writer==i)=false:=by simpa using hw
   simp only [a0,Bool.false_and,aG,ax];exact ih
theorem N7 {C:List ay} {r k:Int} (h:k∈aft C r):∃ c,c∈C∧c.Reader=r∧c.Writer=k:=by
 unfold aft at h;obtain ⟨c,hc,rfl⟩:=iC.1 h;simp only [List.mem_filter,kF] at hc;exact ⟨c,hc.1,hc.2,rfl⟩
theorem xX:∀ (ks b:List Int),(ks.foldl dec b).length=b.length
 | [],b=>rfl
 | k::ks,b=>by rw [dM,xX ks,J7]
theorem Yp {n:Nat} {C:List ay} {out:List Int} (hn:n≤60) (hC:C.length≤3600) (hin:inC n C) (hc:closed C out) (h:¬ nxt n C out < 0) :
  (aft C (nxt n C out)).foldl dec ((wt n C out).set (nxt n C out).toNat (-1))=wt n C (out++[nxt n C out]):=by
 obtain ⟨h0,h1,h2,h3⟩:=Fz h;generalize nxt n C out=r at *
 have hl:((wt n C out).set r.toNat (-1)).length=n:=by rw [aU,IA]
 have hal:=JQ C r;refine PS (by rw [xX,hl,IA]) (fun i hi=>?_);rw [xX,hl] at hi;have hg:((wt n C out).set r.toNat (-1)).getD i 0=if r=(i:Int) then -1 else wtF C out (i:Int):=by
  rw [aO,jO];by_cases e:r.toNat=i
  ·rw [if_pos e,if_pos (by rw [IA];omega),if_pos (by omega)];rfl
  ·rw [if_neg e,if_neg (by omega),← aO,Pv hi]
 have hcw:Xe C out (i:Int)≤3600:=Nat.le_trans (List.length_filter_le _ _) hC;have hb1 : -1≤wtF C out (i:Int)∧wtF C out (i:Int)≤3600:=by unfold wtF;split<;>omega
 rw [PX _ _ i (fun k hk=>by
  obtain ⟨c,hcC,_,rfl⟩:=N7 hk;rw [hl];exact (hin c hcC).1) (by rw [hl];exact hi) (by rw [hg];split<;>omega) (by rw [hg];split<;>omega),hg,Pv hi]
 have nomem:∀ (q:(i:Int)=r∨(i:Int)∈out),(aft C r).count (i:Int)=0:=by
  intro q;rw [List.count_eq_zero];intro hm;obtain ⟨c,hcC,hcr,hcw⟩:=N7 hm;rcases q with q | q
  ·exact (hin c hcC).2.2 (by rw [hcw,hcr,q])
  ·have:=hc c hcC (by rw [hcw];exact q);rw [hcr] at this;exact h2 this
 by_cases e:r=(i:Int)
 ·rw [if_pos e,nomem (.inl e.symm)];unfold wtF;rw [if_pos (by simp [e])];rfl
 ·rw [if_neg e];unfold wtF;by_cases e2:(i:Int)∈out
  ·rw [nomem (.inr e2),if_pos e2,if_pos (by simp [e2])];rfl
  ·rw [if_neg e2,if_neg (by simp [e2];omega),Td h2 (i:Int)];omega
theorem UV {n:Nat} {C:List ay} (hn:n≤60) (hC:C.length≤3600) (hin:inC n C) :
  iw (bP.s3 (zh n C)) (0,wt n C [],[])=some (match Qe n C n [] with | some r => .inl r | none => .inr ([],25)):=by
 have hal:=Fg n C;obtain ⟨t,ht,rfl⟩:=MR (step:=bP.s3 (zh n C)) (fun x=>∃ (i:Nat) (out:List Int),i≤n∧out.length=i∧closed C out∧x=((i:Int),wt n C out,out)∧Qe n C (n - i) out=Qe n C n []) (fun x=>n - x.1.toNat) (fun t=>t=(match Qe n C n [] with | some r => .inl r | none => .inr ([],25))) (fun x hx=>by
  obtain ⟨i,out,hi,hl,hc,rfl,ho⟩:=hx;by_cases h:i < n
  ·have hlt:((i:Int) < ((zh n C).length:Int))=True:=eq_true (by rw [hal];omega);obtain ⟨k,hk⟩:∃ k,n - i=k+1:=⟨n - i - 1,by omega⟩
   rw [hk,Qe] at ho;have hix:slices_Index_int (wt n C out) 0=some (nxt n C out):=by rw [PZ (by rw [IA];omega),X8]
   by_cases hx:nxt n C out < 0
   ·right;rw [if_pos hx] at ho;refine ⟨_,?_,by rw [← ho]⟩;simp only [bP.s3,hlt,aF,hix,ae,hx]
   ·left;rw [if_neg hx] at ho;obtain ⟨n0,n1,_,_⟩:=Fz hx;refine ⟨(((i+1:Nat):Int),wt n C (out++[nxt n C out]),out++[nxt n C out]),?_,⟨i+1,_,h,by simp [hl],Oe hc hx,rfl,by rw [← ho];congr 1;omega⟩,by simp only [kE];omega⟩;simp only [bP.s3,hlt,aF,hix,ae,hx,ax];rw [kM (by omega),at_in (d:=0) n0 (by rw [IA];exact n1),NZ n0 n1];simp only [ae];have hal2:=JQ C (nxt n C out);rw [lZ (step:=bP.s4 (aft C (nxt n C out))) (aft C (nxt n C out)) (fun i b=>(i,b)) (fun b=>b) dec (fun _ b=>b.length=n) rfl ?_ ?_ (by rw [aU,IA]) (by omega),Yp hn hC hin hc hx]
    ·simp only [ae];rw [wn (by omega)]
    ·intro j hj b hb;obtain ⟨c,hcC,_,hcw⟩:=N7 (dA hj);have hw:=(hin c hcC).1;rw [hcw] at hw;refine ⟨?_,by rw [J7];exact hb⟩;simp only [bP.s4,iM hj,aF,jk hj,ae];rw [at_in (d:=0) hw.1 (by omega)];simp only [ae];rw [wn (by omega)];rfl
    ·intro b _;simp only [bP.s4,di,ax]
  ·right;have hin2:i=n:=by omega
   subst hin2;rw [Nat.sub_self,Qe] at ho;refine ⟨_,?_,by rw [← ho]⟩;have hlt:¬ ((out.length:Int) < ((zh out.length C).length:Int)):=by rw [Fg];omega
   subst hl;simp only [bP.s3,hlt,ax]) (x:=(0,wt n C [],[])) ⟨0,[],by omega,rfl,(fun c _ h=>by cases h),rfl,rfl⟩ (by have:=JJ;simp;omega)
 exact ht
theorem ND {l:List ag} {s:aC} (hf:few l=true) (hb:uV s=true):bP l s=some (if opE l s=0 then (match Qe (nC l s) (vM l s) (nC l s) [] with | some r=>(r,0) | none=>([],25)) else ([],opE l s)):=by
 obtain ⟨y,y1,y2⟩:=KL hf hb;unfold bP;rw [y1];simp only [ae];by_cases h:opE l s=0
 ·have A:=asg hb h;have hn:nC l s≤60:=A.n60;simp only [h,cO,ax,y2 h,aF,Vz A,ae,Fg];rw [Ju (by omega)];simp only [ae];rw [WV hn (zq A) (J5 l s)];simp only [ae];rw [UV hn (zq A) (J5 l s)];cases Qe (nC l s) (vM l s) (nC l s) []<;>rfl
 ·simp only [h,aS,aF,ax]
end Go.Sh
set_option linter.all false
namespace Go.Sh
open Go.Lx
theorem SE {c:ay}:∀ {xs t:List Int},c.Reader∈xs→bef c (xs++t)=bef c xs
 | [],t,h=>by cases h
 | x::xs,t,h=>by
  rw [jh,bef,bef];by_cases h1:x=c.Reader
  ·rw [if_pos h1,if_pos h1]
  ·rw [if_neg h1,if_neg h1];by_cases h2:x=c.Writer
   ·rw [if_pos h2,if_pos h2]
   ·rw [if_neg h2,if_neg h2];refine SE ?_;rcases gG.1 h with q | q
    ·exact absurd q.symm h1
    ·exact q
theorem SH {c:ay} {i:Int} (hi:i≠c.Writer):∀ {xs:List Int},bef c (xs++[i])=bef c xs
 | []=>by
  rw [jD];simp only [bef,if_neg hi];split<;>rfl
 | x::xs=>by rw [jh,bef,bef,SH hi]
theorem Uw {n:Nat} {C:List ay}:∀ (k:Nat) (out r:List Int),Qe n C k out=some r→out.Nodup→(∀ x,x∈out→0≤x∧x < n)→(∀ c,c∈C→bef c out=false) →
  r.Nodup∧(∀ x,x∈r→0≤x∧x < n)∧r.length=out.length+k∧∀ c,c∈C→bef c r=false
 | 0,out,r,h,h1,h2,h3=>by
  rw [Qe] at h;cases h;exact ⟨h1,h2,rfl,h3⟩
 | k+1,out,r,h,h1,h2,h3=>by
  rw [Qe] at h;split at h
  ·cases h
  ·rename_i hx
   obtain ⟨n0,n1,n2,n3⟩:=Fz hx;obtain ⟨r1,r2,r3,r4⟩:=Uw k _ r h (by
    rw [List.nodup_append];refine ⟨h1,by simp,fun a ha b hb=>?_⟩;simp only [gQ] at hb;intro e;rw [e,hb] at ha;exact n2 ha) (fun x hx=>by
    rcases aP.1 hx with q | q
    ·exact h2 x q
    ·simp only [gQ] at q;omega) (fun c hc=>by
    by_cases e:nxt n C out=c.Writer
    ·rw [SE (n3 c hc e.symm)];exact h3 c hc
    ·rw [SH e];exact h3 c hc)
   refine ⟨r1,r2,?_,r4⟩;rw [r3,kX,List.length_singleton];omega
theorem Ux {n:Nat} {C:List ay} {r:List Int} (h:Qe n C n []=some r):r.Perm (qh n)∧NC C r=true:=by
 obtain ⟨r1,r2,r3,r4⟩:=Uw n [] r h (by simp) (by simp) (fun c _=>rfl);refine ⟨(BB r1 (fun x hx=>vJ.2 (r2 x hx)) (by rw [xC,r3];simp)).symm,?_⟩;unfold NC;have:C.any (fun x=>bef x r)=false:=by
  rw [List.any_eq_false];intro c hc;rw [r4 c hc];simp
 rw [this];rfl
structure Keep (Q:Int→Int→Prop) (l m:List ag):Prop where
 el:∀ i a,at_ l i=some a→∃ b,at_ m i=some b∧b.Elements.length=a.Elements.length∧∀ k:Nat,¬ Q i (k:Int)→b.Elements[k]?=a.Elements[k]?
theorem JV {m:List ag} {v i:Int} {a b:ag} (h:at_ m v=some a):at_ (m.set v.toNat b) i=if i=v then some b else at_ m i:=by
 obtain ⟨h0,h1,_⟩:=at_mem h;unfold at_;by_cases hi:0≤i
 ·rw [if_pos hi,if_pos hi,jO];by_cases e:i=v
  ·subst e;simp [h1]
  ·rw [if_neg (by omega),if_neg e]
 ·rw [if_neg hi,if_neg hi,if_neg (by omega)]
def wrote (l:List ag) (s:aC) (pre:List Int) (i k:Int):Prop:=i=s.Var∧∃ j,j∈pre∧chs l s j≠[]∧cellAt l s j=k
theorem Keep.put {l:List ag} {s:aC} (A:Asg l s) {n m:List ag} {pre:List Int} (K:Keep (wrote l s pre) l m) {k:Int} (h0:0≤k) (h1:k < nC l s):Keep (wrote l s (pre++[k])) l (KQ l s n m k):=by
 have weak:Keep (wrote l s (pre++[k])) l m:=⟨fun i a h=>by
  obtain ⟨b,hb,hl,hk⟩:=K.el i a h;refine ⟨b,hb,hl,fun j hj=>hk j (fun q=>hj ?_)⟩;obtain ⟨q1,x,q2,q3⟩:=q;exact ⟨q1,x,aP.2 (.inl q2),q3⟩⟩
 unfold KQ;split
 ·exact weak
 ·rename_i hc
  unfold Aj;cases ha:at_ m s.Var with
  | none=>exact weak
  | some a =>
   simp only;refine ⟨fun i x hx=>?_⟩;obtain ⟨b,hb,hbl,hbk⟩:=weak.el i x hx;rw [JV ha];by_cases e:i=s.Var
   ·rw [if_pos e];rw [e,ha] at hb;cases hb;refine ⟨_,rfl,by simpa using hbl,fun j hj=>?_⟩;have hne:(cellAt l s k).toNat≠j:=by
     intro q;obtain ⟨a0,ha0,sc⟩:=A.arr;have:=(sc.range _ (Dx A h0 h1).1).1;exact hj ⟨e,k,aP.2 (.inr (gQ.2 rfl)),hc,by omega⟩
    rw [jm hne];exact hbk j hj
   ·rw [if_neg e];exact ⟨b,hb,hbl,hbk⟩
theorem RX {l m:List ag} {k:Int} {e:List ah} (h:∀ n,n∈e→∀ b,Lp m k b n=Lp l k b n):vals m k e=vals l k e:=by
 have key:∀ (xs:List ah) (b:List Int),(∀ n,n∈xs→∀ b,Lp m k b n=Lp l k b n)→xs.foldl (fun out n=>out++[Lp m k out n]) b=xs.foldl (fun out n=>out++[Lp l k out n]) b:=by
  intro xs
  induction xs with
  | nil=>intro b _;rfl
  | cons x xs ih =>
   intro b hx;rw [dM,dM,hx x (.head _),ih _ (fun n hn=>hx n (.tail _ hn))]
 exact key e [] h
theorem RY {l m:List ag} {s:aC} {pre:List Int} {e:List ah} {k:Int} (H:EQ l e k) (L:Like l m) (K:Keep (wrote l s pre) l m)
  (hr:∀ j,j∈pre→chs l s j≠[]→OW l e k s.Var (cellAt l s j)=false):value m e k=value l e k:=by
 unfold value;rw [RX (l:=l)];intro n hn b;obtain ⟨i,hi,rfl⟩:=List.mem_iff_getElem.1 hn;unfold Lp;split
 ·rfl
 ·split
  ·rename_i h1
   obtain ⟨a,ha,_,g0,g1,_⟩:=KO H hi h1;obtain ⟨b2,hb,hbl,hbk⟩:=K.el _ _ ha;unfold Y9;rw [ha,hb,← Lc L.b];simp only [aO];rw [hbk _ (fun q=>?_)];obtain ⟨q1,j,q2,q3,q4⟩:=q;have:=hr j q2 q3;unfold OW at this;rw [List.any_eq_false] at this;refine this e[i] (dA hi) ?_;unfold UI;rw [q4];simp only [h1,q1,mX,iZ,kF];rw [q1] at g0;rw [Int.toNat_of_nonneg g0]
  ·rfl
theorem SI {c:ay}:∀ {pre post:List Int},c.Writer∈pre→c.Reader∉pre→bef c (pre++post)=true
 | [],post,h,_=>by cases h
 | x::pre,post,h,hr=>by
  rw [jh,bef];rw [if_neg (fun q:x=c.Reader=>hr (by rw [← q];exact List.mem_cons_self))];by_cases h2:x=c.Writer
  ·rw [if_pos h2]
  ·rw [if_neg h2];refine SI ?_ (fun q=>hr (.tail _ q));rcases gG.1 h with q | q
   ·exact absurd q.symm h2
   ·exact q
theorem Qg {l:List ag} {s:aC} (A:Asg l s) {o:List Int} (hnd:o.Nodup) (hin:∀ k,k∈o→0≤k∧k < nC l s) (hsafe:NC (vM l s) o=true) :
  ∀ (post pre:List Int) (m:List ag),o=pre++post→Like l m→Keep (wrote l s pre) l m→post.foldl (fun m k=>KQ l s m m k) m=post.foldl (KQ l s l) m
 | [],pre,m,_,_,_=>rfl
 | k::post,pre,m,ho,L,K=>by
  obtain ⟨k0,k1⟩:=hin k (by rw [ho];simp);have hk:k∉pre:=by
   intro q;rw [ho,List.nodup_append] at hnd;exact hnd.2.2 k q k List.mem_cons_self rfl
  have heq:KQ l s m m k=KQ l s l m k:=by
   unfold KQ;split
   ·rfl
   ·rename_i hc
    rw [RY (s:=s) (pre:=pre) (LQ A k0 k1 hc) L K];intro j hj hcj;obtain ⟨j0,j1⟩:=hin j (by rw [ho];exact aP.2 (.inl hj));refine ja fun hr=>?_
    have hne:j≠k:=fun q=>hk (q ▸ hj)
    have hcf:conf l s j.toNat k.toNat=true:=by
     unfold conf;have e1:((j.toNat:Nat):Int)=j:=by omega
     have e2:((k.toNat:Nat):Int)=k:=by omega
     rw [e1,e2,hr];simp [hc,hcj];omega
    have hm:ay.mk j k∈vM l s:=Gh.2 ⟨j.toNat,k.toNat,by omega,by omega,hcf,by
     rw [show ((j.toNat:Nat):Int)=j by omega,show ((k.toNat:Nat):Int)=k by omega]⟩
    have hb:bef (ay.mk j k) o=true:=by rw [ho];exact SI hj hk
    unfold NC at hsafe;have:(vM l s).any (fun x=>bef x o)=false:=by simpa using hsafe
    rw [List.any_eq_false] at this;exact this _ hm hb
  rw [dM,dM,heq];exact Qg A hnd hin hsafe post (pre++[k]) _ (by rw [ho];simp) (Fq A (Like.refl A.st) L k0 k1) (K.put A k0 k1)
theorem PK {l:List ag} {s:aC} (A:Asg l s) {x y:Int} (x0:0≤x) (x1:x < nC l s) (y0:0≤y) (y1:y < nC l s) (h:cellAt l s x=cellAt l s y):x=y:=by
 obtain ⟨a,_,sc⟩:=A.arr;have hnd:=sc.nodup A.many;unfold cellAt at h;unfold nC at x1 y1;rw [aO,aO,aj (by omega),aj (by omega)] at h;simp only [jJ] at h;have:=(List.getElem_inj (xs:=(sS l s).Offsets) hnd).1 h;omega
theorem PL {l:List ag} {s:aC} (A:Asg l s) {x:Int} (x0:0≤x) (x1:x < nC l s):0≤cellAt l s x:=by
 obtain ⟨a,_,sc⟩:=A.arr;exact (sc.range _ (Dx A x0 x1).1).1
theorem set_comm {z:List ag} {v c d x y:Int} (h:c.toNat≠d.toNat):Aj (Aj z v c x) v d y=Aj (Aj z v d y) v c x:=by
 cases ha:at_ z v with
 | none =>
  have e:∀ c x,Aj z v c x=z:=fun c x=>by unfold Aj;rw [ha]
  rw [e,e,e]
 | some a =>
  have e:∀ c x,Aj z v c x=z.set v.toNat { a with Elements:=a.Elements.set c.toNat x }:=fun c x=>by unfold Aj;rw [ha]
  rw [e c x,e d y];unfold Aj;rw [JV ha,JV ha,if_pos rfl,if_pos rfl];simp only [List.set_set];rw [List.set_comm _ _ h]
theorem TB {l:List ag} {s:aC} (A:Asg l s) {o p:List Int} (h:o.Perm p) (hin:∀ k,k∈o→0≤k∧k < nC l s) (m:List ag):o.foldl (KQ l s l) m=p.foldl (KQ l s l) m:=by
 refine h.foldl_eq' (fun x hx y hy z=>?_) m;obtain ⟨x0,x1⟩:=hin x hx;obtain ⟨y0,y1⟩:=hin y hy;by_cases e:x=y
 ·rw [e]
 ·unfold KQ;by_cases c1:chs l s x=[]
  ·by_cases c2:chs l s y=[]
   ·simp only [c1,c2,aF]
   ·simp only [c1,c2,aF,ax]
  ·by_cases c2:chs l s y=[]
   ·simp only [c1,c2,aF,ax]
   ·simp only [c1,c2,ax];refine set_comm (fun q=>e ?_);have:=PL A x0 x1;have:=PL A y0 y1
    first
     | exact PK A x0 x1 y0 y1 (by omega)
     | exact (PK A y0 y1 x0 x1 (by omega)).symm
theorem UU {l:List ag} {s:aC} (A:Asg l s) {o:List Int} (hp:o.Perm (qh (nC l s))) (hs:NC (vM l s) o=true):ZE l s o=QS l s:=by
 have hin:∀ k,k∈o→0≤k∧k < nC l s:=fun k hk=>vJ.1 (hp.mem_iff.1 hk)
 have hnd:o.Nodup:=hp.nodup_iff.2 (EL _);unfold ZE QS;rw [Qg A hnd hin hs o [] l rfl (Like.refl A.st) ⟨fun i a h=>⟨a,h,rfl,fun _ _=>rfl⟩⟩];exact TB A hp hin l
theorem Tf {l:List ag} {s:aC} (hf:few l=true) (hb:uV s=true):nG l s=some (if opE l s=0 then vM l s else [],opE l s):=by
 obtain ⟨y,y1,y2⟩:=KL hf hb;unfold nG;rw [y1];simp only [ae];by_cases h:opE l s=0
 ·simp only [h,cO,ax,y2 h,aF,zt (asg hb h),ae]
 ·simp only [h,aS,aF,ax]
theorem IJ (l:List ag) (s:aC) (o:List Int):jB l s o=some true:=by
 unfold jB;rw [XF,YS];simp only [ae,cO,ax];by_cases hf:few l=true
 ·simp only [hf,cO,ax,SQ,ae];by_cases hb:((!uV s) || decide ((o.length:Int) > 60))=true
  ·simp only [hb,aF]
  ·simp only [hb,ax,aG];simp at hb;obtain ⟨hb,hl⟩:=hb;have hl':o.length≤60:=by omega
   simp only [Nu hf hb,ae];by_cases h:opE l s=0
   ·have A:=asg hb h;have hn:nC l s≤60:=A.n60;have hcl:=zq A;have hex:xM (QS l s):=(LZ A _ _ (Like.refl A.st) (Qk _)).st;have key:∀ p:List Int,p.length≤60→p.Perm (qh (nC l s))→NC (vM l s) p=true→jo l s p=some (QS l s,0)∧nH l s p=some (true,0):=by
     intro p hp1 hp2 hp3;have ho:Rk l s p=0:=by unfold Rk;rw [if_pos h,if_pos (vT.2 hp2)]
     rw [QZ hf hb (by omega),Ua hf hb (by omega)];simp only [ho,aF,UU A hp2 hp3,hp3,and_self]
    have tail:jB.j1 l s o (if opE l s=0 then sS l s else Bv,opE l s) (QS l s,0) ()=some true:=by
     unfold jB.j1;simp only [Eu hf,Gi hb,ae,Tf hf hb,h,aF,cO,ax,G8];by_cases h1:vM l s=[]
     ·simp only [h1,ne_eq,cO,ax];rw [show ((sS l s).Offsets.length:Int)=(nC l s:Int) from rfl,MK (by omega) (by omega)];simp only [ae];by_cases h2:EE (nC l s) o=true
      ·obtain ⟨k1,_⟩:=key o hl' (vT.1 h2) (by rw [h1];rfl);simp only [h2,cO,ax,ui (show o.length≤16777216 by omega),ae,k1,aF,JE hex]
      ·simp [h2]
     ·simp only [h1,ne_eq,aS,aF]
    simp only [h,aF] at tail;simp only [h,cO,ax,Eu hf,Gi hb,ae,Om hf hb,ND hf hb,aF];cases hr:Qe (nC l s) (vM l s) (nC l s) [] with
    | none=>simp only [Int.reduceEq,ax];exact tail
    | some r =>
     obtain ⟨p1,p2⟩:=Ux hr;have hrl:r.length≤60:=by rw [p1.length_eq,xC];exact hn
     obtain ⟨k1,k2⟩:=key r hrl p1 p2;simp only [aF,ui (show r.length≤16777216 by omega),ae,k1,k2,bne_self_eq_false,nD,Bool.or_self,aG,ax,JE hex,cO];exact tail
   ·simp only [h,aS,aF]
 ·simp [hf]
end Go.Sh
