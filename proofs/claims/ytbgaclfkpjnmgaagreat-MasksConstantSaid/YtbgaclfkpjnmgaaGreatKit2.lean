/- Values of the language, told by plain data; contracts of functions and operations, and how they are shown: part 2. -/
import Derived.Test.YtbgaclfkpjnmgaaGreatKit1
import Derived.MapKept
import Derived.Orders
set_option linter.all false
namespace Go.Lx
section
variable {P:Program} {V:View} {μ:Id→Pl} {w:World}
theorem NT {h:Id→Option Blk} {t:TypeId} {sz off:Nat} (hz:jb P t=some sz) {cs:List A} {vs:Array Value} {y:A} (hC:iM P V h μ cs vs.toList) (hp:rO (kZ P t) sz cs off=some y) :
  ∃ v,(part t vs off).run P w = .ok v w∧dQ P V h μ y v:=by
 rcases Eb hC hp with ⟨ha,ws,h1,h2,h3⟩ | ⟨ha,v,h1,h2,h3⟩
 ·refine ⟨.agg ws.toArray,?_,h3⟩;have hext:vs.extract off (off+sz)=ws.toArray:=by
   apply Array.ext';simp only [Array.toList_extract];apply List.ext_getElem?;intro j;rcases Nat.lt_or_ge j sz with q | q
   ·have hj:ws[j]?=some (ws[j]'(by omega)):=List.getElem?_eq_getElem (by omega);rw [hj];have:=h2 j _ hj;simp only [List.extract_eq_take_drop,List.getElem?_take,List.getElem?_drop];rw [if_pos (by omega)];exact this
   ·rw [List.getElem?_eq_none (l:=ws) (by omega)];rw [List.getElem?_eq_none];simp only [List.extract_eq_take_drop,List.length_take,List.length_drop];omega
  simp [part,qo hz,ha,eF hz,hext]
 ·refine ⟨v,?_,h2⟩;have:vs[off]?=some v:=by simpa using h1
  simp [part,qo hz,ha,this]
theorem JG {c:Cfg} {h:Id→Option Blk} {t:TypeId} {x ix y:A} {cv ci:Value} (e:CW c t x ix=some y) (H:dQ c.P V h μ x cv) (Hi:dQ c.P V h μ ix ci) :
  ∃ v,(Instr.index t cv ci).run c.P w = .ok v w∧dQ c.P V h μ y v:=by
 unfold CW at e;split at e
 ·rename_i len el cs k n hu
  have:=Jz Hi;subst this;split at e
  ·rename_i sz hsz
   split at e
   ·rename_i hn
    cases hpd:xU (kZ c.P el) sz cs (n.toNat * sz) with
    | none=>rw [hpd] at e;cases e
    | some z =>
     rw [hpd] at e;cases e;cases H.dOf with
     | agg _ vs hn' hh hp =>
      obtain ⟨v,h1,h2⟩:=NT (w:=w) hsz (kJ (h:=h) (μ:=μ) (.agg cs vs hn' hh hp)) (qK hpd);refine ⟨v,?_,h2⟩;unfold Instr.index;simp [asIntOf,bF hu,hn,eF hsz];exact h1
   ·cases e
  ·cases e
 ·cases e
theorem PN {c:Cfg} {s:S} (I:Inv c.P V s.get μ w) {t:TypeId} {ts:List TypeId} {ty:TypeId} {x:A} {cx:Value} {z:D} (e:Gm c s t x=some z) (H:dQ c.P V s.get μ x cx) :
  ∃ v,(Builtin.len_ (t::ts).toArray ty #[cx]).run c.P w = .ok v w∧fG c.P V z v:=by
 unfold Gm at e;split at e
 ·rename_i el xs hu
  cases e;cases H.dOf with
  | sl _ a cp b o sz ev hc ha hh hs hv=>exact ⟨_,by simp [Builtin.len_,bF hu,goInt], .int _ _⟩
 ·rename_i el hu
  cases e;cases H.dOf with
  | nilsl=>exact ⟨_,by simp [Builtin.len_,bF hu,goInt], .int _ _⟩
 ·rename_i el xs hu
  cases e;cases H with
  | tight _ a hd=>exact ⟨_,by simp [Builtin.len_,bF hu,goInt], .int _ _⟩
 ·rename_i el i off len full hu
  cases e;cases H with
  | ref _ _ _ _ sz l xs a cp hi hf hv=>exact ⟨_,by simp [Builtin.len_,bF hu,goInt], .int _ _⟩
 ·rename_i n el hu
  cases e;exact ⟨_,by simp [Builtin.len_,bF hu,goInt], .int _ _⟩
 ·rename_i k el kt es hu
  cases e;cases H.dOf with
  | mp _ _ r en clock hm hn hk hv ho hc hb =>
   have:=I.map _ _ _ hm;exact ⟨.int .i64 es.length,by simp [Builtin.len_,bF hu,goInt,MapKept.run_getObj_map this,hn], .int _ _⟩
 ·rename_i k el hu
  cases e;cases H.dOf with
  | mpnil=>exact ⟨_,by simp [Builtin.len_,bF hu,goInt], .int _ _⟩
 ·rename_i k el i hu
  split at e
  ·rename_i kt l es hi
   cases e;obtain ⟨h1,h3,en,h5,h6,h7,h8⟩:=I.blk i _ hi;cases H with
   | mref _ _ _ _ hi'=>exact ⟨.int .i64 es.length,by simp [Builtin.len_,bF hu,goInt,MapKept.run_getObj_map h5,h6], .int _ _⟩
  ·cases e
 ·cases e
theorem MQ {lo:Bool} {x y z:D} {cx cy:Value} (e:UU lo x y=some z) (Hx:fG P V x cx) (Hy:fG P V y cy) :
  ∃ v,(if lo=true then Builtin.min2 cx cy else Builtin.max2 cx cy).run P w = .ok v w∧fG P V z v:=by
 unfold UU at e;split at e
 ·rename_i k a k' b
  split at e
  ·rename_i hk
   subst hk;cases e;cases Hx;cases Hy;cases lo with
   | true=>exact ⟨_,by simp [Builtin.min2], .int _ _⟩
   | false=>exact ⟨_,by simp [Builtin.max2], .int _ _⟩
  ·cases e
 ·cases e
inductive dG (P:Program) (V:View) (h:Id→Option Blk) (μ:Id→Pl):List A→List Value→Prop where
 | nil:dG P V h μ [] []
 | cons (a:A) (v:Value) (as:List A) (vs:List Value) (ha:dQ P V h μ a v) (hr:dG P V h μ as vs):dG P V h μ (a::as) (v::vs)
theorem yO {lo:Bool} {h:Id→Option Blk}:∀ {rest:List A} {vs:List Value} {x z:D} {cx:Value},oV lo x rest=some z→fG P V x cx→dG P V h μ rest vs →
  ∃ v,(vs.foldlM (fun a b=>if lo=true then Builtin.min2 a b else Builtin.max2 a b) cx).run P w = .ok v w∧fG P V z v:=by
 intro rest
 induction rest with
 | nil =>
  intro vs x z cx e H R;cases R;simp only [oV] at e;cases e;exact ⟨cx,by simp,H⟩
 | cons a rest ih =>
  intro vs x z cx e H R;cases R with
  | cons _ v _ vs ha hr =>
   cases a with
   | d y =>
    simp only [oV] at e;cases hm:UU lo x y with
    | none=>rw [hm] at e;cases e
    | some q =>
     rw [hm] at e;obtain ⟨v1,h1,h2⟩:=MQ (w:=w) hm H ha.dOf;obtain ⟨v2,h3,h4⟩:=ih e h2 hr;exact ⟨v2,by simp only [List.foldlM_cons,Sem.run_bind,h1,Result.andThen_ok,h3],h4⟩
   | _=>simp [oV] at e
theorem Qm {h:Id→Option Blk} {ts:Array TypeId} {ty:TypeId} {x z:D} {rest:List A} {vs:List Value} (e:oV true x rest=some z) (R:dG P V h μ (.d x::rest) vs) :
  ∃ v,(Builtin.min_ ts ty vs.toArray).run P w = .ok v w∧fG P V z v:=by
 cases R with
 | cons _ cx _ vs ha hr =>
  obtain ⟨v,h1,h2⟩:=yO (w:=w) e ha.dOf hr;refine ⟨v,?_,h2⟩;simp only [if_true] at h1;simpa [Builtin.min_] using h1
theorem P6 {h:Id→Option Blk} {ts:Array TypeId} {ty:TypeId} {x z:D} {rest:List A} {vs:List Value} (e:oV false x rest=some z) (R:dG P V h μ (.d x::rest) vs) :
  ∃ v,(Builtin.max_ ts ty vs.toArray).run P w = .ok v w∧fG P V z v:=by
 cases R with
 | cons _ cx _ vs ha hr =>
  obtain ⟨v,h1,h2⟩:=yO (w:=w) e ha.dOf hr;refine ⟨v,?_,h2⟩;simp only [Bool.false_eq_true,if_false] at h1;simpa [Builtin.max_] using h1
def SE (k:Nat):A→A
 | .d (.sl xs) => .d (.sl (xs.take k))
 | .tight xs => .d (.sl (xs.take k))
 | .ref i off len full => .ref i off (min k len) full
 | x=>x
theorem Ox {xs:List D} {a:Option Addr} {n c:Nat} (k:Nat) (H:fG P V (.sl xs) (.slice a n c)):fG P V (.sl (xs.take k)) (.slice a (min k n) c):=by
 cases H with
 | sl _ _ _ b o sz ev hc ha hh hs hv =>
  have:=fG.sl (P:=P) (V:=V) (xs.take k) a c b o sz ev (by simp;omega) (by rcases ha with rfl | ha;exact .inl (by simp);exact .inr ha)
   (fun i d hd=>by rw [List.getElem?_take] at hd;split at hd;exact hh i d hd;cases hd) (fun i hi=>hs i (by simp at hi;omega)) (fun i hi=>hv i (by simp at hi;omega))
  rw [List.length_take] at this;exact this
theorem P9 {s:S} {k:Nat} {y:A} {a:Option Addr} {n c:Nat} {ys:List D} (H:dQ P V s.get μ y (.slice a n c)) (e:s.elems y=some ys) :
  dQ P V s.get μ (SE k y) (.slice a (min k n) c)∧s.elems (SE k y)=some (ys.take k):=by
 cases H with
 | d x v hd =>
  cases hd with
  | sl xs _ _ b o sz ev hc ha hh hs hv =>
   cases e;exact ⟨.d _ _ (Ox k (.sl ys a c b o sz ev hc ha hh hs hv)),rfl⟩
  | nilsl=>cases e;exact ⟨.d _ _ (by simpa using fG.nilsl),by simp [SE,S.elems]⟩
  | junk _ _=>cases e
 | tight xs _ hd=>cases e;exact ⟨.d _ _ (Ox k hd),rfl⟩
 | ref i off len full sz l xs _ _ hi hf hv =>
  simp only [S.elems,hi] at e;split at e
  ·rename_i hh
   cases e;refine ⟨.ref i off _ full sz l xs a c hi hf (fun q=>?_),?_⟩
   ·obtain ⟨a',c',e1,h2⟩:=hv q;cases e1;exact ⟨_,_,rfl,h2⟩
   ·simp only [SE,S.elems,hi];rw [if_pos ⟨hh.1,by omega⟩,List.take_take]
  ·cases e
 | unk v=>cases e
 | rcap=>cases e
 | bref=>cases e
 | nref=>cases e
 | tref=>cases e
theorem Bq (sz n:Nat) (a:Option Addr) (x y x' y':Nat):Builtin.firstCells sz n (.slice a x y)=Builtin.firstCells sz n (.slice a x' y'):=by cases a<;>rfl
theorem CS {s:S} (I:Inv P V s.get μ w) {i:Id} {sz off len c:Nat} {xs ys:List D} {yc:List Value} {a:Option Addr} (hi:s.get i=some (.arr sz false xs)) (hle:off+len≤xs.length)
  (hsv:uC (μ i) sz off len (.slice a len c)) (hY:dY P V sz ys yc) (hn:ys≠[]) (hl:ys.length≤len) :
  ∃ ad w',a=some ad∧(storeCells ad yc).run P w = .ok () w'∧Inv P V (s.set i (.arr sz false (splice xs off ys))).get μ w'∧Evo V s.get μ w V (s.set i (.arr sz false (splice xs off ys))).get μ w':=by
 have hy0:0 < ys.length:=List.length_pos_iff.2 hn;have hx:xs≠[]:=by rintro rfl;simp at hle;omega
 obtain ⟨g1,g2,cells,elem,g5,g6,g7,g8⟩:=Oa I hi hx;obtain ⟨a',c',e1,h2⟩:=hsv;cases e1;rcases h2 with ⟨q1,_⟩ | ⟨q1,q2,q3,q4,q5⟩
 ·rw [g1] at q1;cases q1
 ·have ha:=q5 (.inl (by omega));subst ha;have hcap:xs.length * sz≤cells.size:=by rw [g6];exact Nat.mul_le_mul_right _ g2
  have hfit:off * sz+yc.length≤xs.length * sz:=by rw [hY.1,← Nat.add_mul];exact Nat.mul_le_mul_right _ (by omega)
  obtain ⟨w',k1,k2,k3,k4,k5,k6,k7⟩:=lg (P:=P) (μ i).blk elem yc (off * sz) 0 cells w g5 (by omega) hY.2.1;obtain ⟨r1,r2,r3⟩:=MV g8 hY (off:=off) (by omega) hcap g7.1;obtain ⟨I',E'⟩:=Oj I hi (xs':=splice xs off ys) r3 g1 g5 (by simpa using k2) (by simpa using r2) k3 k4 k5 k6 k7 r1;exact ⟨_,w',rfl,k1,I',E'⟩
theorem zx {α:Type} (xs:List α) (off:Nat):splice xs off []=xs:=by simp [splice]
theorem BD {s:S} {i:Id} {b:Blk} (hi:s.get i=some b) (hone:b.one=true:=by rfl):(s.set i b).get=s.get:=by
 rw [(S.iY hi _ hone).1]
 funext j
 unfold upd;split
 ·rename_i e;rw [e,hi]
 ·rfl
theorem Nv {c:Cfg} {s:S} (I:Inv c.P V s.get μ w) {t:TypeId} {ts:List TypeId} {x y z:A} {dl:Delta} {cx cy:Value} (e:LW c s t x y=some (z,dl))
  (Hx:dQ c.P V s.get μ x cx) (Hy:dQ c.P V s.get μ y cy) (ty:TypeId):Done c.P V s μ w (dl.apply s) z ((Builtin.copy_ (t::ts).toArray ty #[cx,cy]).run c.P w):=by
 unfold LW at e;split at e
 ·rename_i el ys hel hys
  have hu:=lH hel;split at e
  ·rename_i sz i off len full hsz
   split at e
   ·rename_i sz' uu xs hi
    split at e
    ·rename_i hc
     obtain ⟨h1,h2,rfl,rfl,hall⟩:=hc;cases e;cases Hx with
     | ref _ _ _ _ sz2 l2 xs2 a cap hi2 hf hv =>
      rw [hi] at hi2;cases hi2;obtain ⟨b,n,c',rfl,hn,hnc,_⟩:=nG I Hy hys hall;obtain ⟨Hy',hys'⟩:=P9 (k:=len) Hy hys;have hall':(ys.take len).all (fun y=>decide (y.size=sz'))=true:=List.all_eq_true.2 (fun z hz=>List.all_eq_true.1 hall z (List.mem_of_mem_take hz));obtain ⟨b2,n2,c2,e2,hn2,_,yc,hyC,hyr⟩:=nG I Hy' hys' hall';cases e2;rw [Bq _ _ _ _ _ n c'] at hyr;have hmin:Nat.min n len=min len n:=Nat.min_comm _ _;have hz:(.int .i64 (min ys.length len:Nat):Value)=goInt ((min len n:Nat):Int):=by rw [← hn,Nat.min_comm];rfl
      by_cases he:ys.take len=[]
      ·rw [he] at hyC;have hyc:yc=[]:=List.eq_nil_of_length_eq_zero (by have:=hyC.1;simpa using this);subst hyc;rw [he,zx];refine ⟨goInt ((min len n:Nat):Int),w,V,μ,?_,?_,?_,?_,?_⟩
       ·simp only [Builtin.copy_];cases a with
        | none=>simp [bF hu,Builtin.lenOf,eF hsz,hyr,hmin]
        | some ad=>simp [bF hu,Builtin.lenOf,eF hsz,hyr,hmin,storeCells]
       ·rw [← hz];exact .d _ _ (.int _ _)
       ·simp only [Delta.apply];rw [BD hi];exact I
       ·simp only [Delta.apply];rw [BD hi];exact .refl _ _ _ _
       ·exact (S.iY hi _).2
      ·obtain ⟨ad,w',rfl,k1,I',E'⟩:=CS I hi (by omega) (hv h1) hyC he (by simp;omega);refine ⟨goInt ((min len n:Nat):Int),w',V,μ,?_,?_,I',E',(S.iY hi _).2⟩
       ·simp only [Builtin.copy_];simp [bF hu,Builtin.lenOf,eF hsz,hyr,hmin,k1]
       ·rw [← hz];exact .d _ _ (.int _ _)
    ·cases e
   ·cases e
  ·cases e
 ·cases e
theorem JB {c:Cfg} {s:S} (I:Inv c.P V s.get μ w) {t:TypeId} {ts:List TypeId} {x z:A} {dl:Delta} {cx:Value} (e:JW c s t x=some (z,dl))
  (Hx:dQ c.P V s.get μ x cx) (ty:TypeId):Done c.P V s μ w (dl.apply s) z ((Builtin.clear_ (t::ts).toArray ty #[cx]).run c.P w):=by
 unfold JW at e;split at e
 ·rename_i el i off len full hel
  have hu:=lH hel;split at e
  ·rename_i sz zd sz' uu xs hsz hzd hi
   split at e
   ·rename_i hc
    obtain ⟨h1,h2,rfl,rfl,hzz⟩:=hc;cases e;obtain ⟨zv,hzv,hzr⟩:=qM hzd w;have hzc:zv.cells.size=sz':=by rw [(hzr V).cells.1,hzz]
    have R0:∀ s',dQ c.P V s' μ (.tup []) (.tuple #[]):=fun s' => .tup [] #[] rfl (fun i d v h=>by simp at h)
    cases Hx with
    | ref _ _ _ _ sz2 l2 xs2 a cap hi2 hf hv =>
     rw [hi] at hi2;cases hi2;cases hlen:len with
     | zero =>
      subst hlen;refine ⟨.tuple #[],w,V,μ,?_,R0 _,?_,?_,?_⟩
      ·simp only [Builtin.clear_];cases a<;>simp [bF hu]
      ·simp only [Delta.apply,List.replicate_zero,zx];rw [BD hi];exact I
      ·simp only [Delta.apply,List.replicate_zero,zx];rw [BD hi];exact .refl _ _ _ _
      ·exact (S.iY hi _).2
     | succ m =>
      subst hlen;obtain ⟨ad,w',rfl,k1,I',E'⟩:=CS I hi (by omega) (hv h1) (yg (hzr V) hzc (m+1)) (by simp) (by simp);refine ⟨.tuple #[],w',V,μ,?_,R0 _,I',E',(S.iY hi _).2⟩;simp only [Builtin.clear_];simp [bF hu,hzv];rw [k1];simp
   ·cases e
  ·cases e
 ·cases e
end
end Go.Lx
namespace Go.Lx
open Go.MapKept
section
variable {P:Program} {V:View} {μ:Id→Pl} {w:World}
theorem EY {kt:TypeId} {d:D} {v:Value} (h:xB P kt d=true) (H:fG P V d v):∃ desc,P.underlying kt=some desc∧IsKey desc v:=by
 unfold xB at h;split at h
 ·split at h
  ·rename_i k n k' hu
   cases H;exact ⟨_,hu,by simpa [IsKey] using h⟩
  ·cases h
 ·split at h
  ·rename_i hu;cases H;exact ⟨_,hu,trivial⟩
  ·cases h
 ·split at h
  ·rename_i hu;cases H;exact ⟨_,hu,trivial⟩
  ·cases h
 ·cases h
theorem Uk {kt:TypeId} {d d':D} {v v':Value} (h:xB P kt d=true) (h':xB P kt d'=true) (H:fG P V d v) (H':fG P V d' v'):D.beq d d'=true↔v=v':=by
 obtain ⟨desc,hu,hk⟩:=EY h H;obtain ⟨desc',hu',hk'⟩:=EY h' H';rw [hu] at hu';cases hu';cases H<;>cases desc<;>first | exact hk.elim | skip
 all_goals cases H'<;>first | exact hk'.elim | skip
 all_goals first | (simp [xB] at h;done) | (simp [xB] at h';done) | (simp_all [D.beq,bytes_beq,IsKey];done)
structure qx (P:Program) (V:View) (kt:TypeId) (es:List (D×D)) (en:List MapEntry):Prop where
 len:en.length=es.length
 rel:∀ (i:Nat) e m,es[i]?=some e→en[i]?=some m→fG P V e.1 m.key∧fG P V e.2 m.val
 ok:∀ e,e∈es→xB P kt e.1=true
def MX:List (D×D)→D→Option Nat
 | [],_=>none
 | (k,_)::rest,x=>if D.beq k x then some 0 else (MX rest x).map (·+1)
theorem qx.tail {kt:TypeId} {e:D×D} {m:MapEntry} {es:List (D×D)} {en:List MapEntry} (H:qx P V kt (e::es) (m::en)):qx P V kt es en :=
 ⟨by have:=H.len;simpa using this,fun i a b ha hb=>H.rel (i+1) a b (by simpa using ha) (by simpa using hb),fun a ha=>H.ok a (.tail _ ha)⟩
theorem FP {kt:TypeId} {x:D} {v:Value} {desc:TypeDesc} (hu:P.underlying kt=some desc) (hx:xB P kt x=true) (Hx:fG P V x v) :
  ∀ {es:List (D×D)} {en:List MapEntry},qx P V kt es en→∀ i0,
  (MX es x=none∧Ez es x=none∧(∀ y,Ep es x y=es++[(x,y)])∧Instr.findNow desc v en i0=some none) ∨
  (∃ j e m,MX es x=some j∧es[j]?=some e∧en[j]?=some m∧Ez es x=some e.2∧(∀ y,Ep es x y=es.set j (e.1,y))∧m.key=v∧Instr.findNow desc v en i0=some (some (i0+j,m.val))):=by
 intro es
 induction es with
 | nil =>
  intro en H i0;have:=H.len;cases en with
  | nil=>exact .inl ⟨rfl,rfl,fun _=>rfl,rfl⟩
  | cons _ _=>simp at this
 | cons e es ih =>
  intro en H i0;cases en with
  | nil=>have:=H.len;simp at this
  | cons m en =>
   obtain ⟨k,val⟩:=e;have hk:=H.ok (k,val) (.head _);have hr:=(H.rel 0 (k,val) m rfl rfl).1;obtain ⟨d1,hu1,ik1⟩:=EY hk hr;obtain ⟨d2,hu2,ik2⟩:=EY hx Hx;rw [hu] at hu1 hu2;cases hu1;cases hu2;obtain ⟨r,hs,hiff⟩:=sameNow_of_keys ik2 ik1;have hb:=Uk hk hx hr Hx;cases hbk:D.beq k x with
   | true =>
    right;have hv:m.key=v:=hb.1 hbk;have hrt:r=true:=hiff.2 hv.symm;subst hrt;exact ⟨0,(k,val),m,by simp [MX,hbk],rfl,rfl,by simp [Ez,hbk],fun y=>by simp [Ep,hbk],hv,by simp [Instr.findNow,hs]⟩
   | false =>
    have hv:¬ (v=m.key):=fun q=>by have:=hb.2 q.symm;rw [hbk] at this;cases this
    have hrt:r=false:=by cases r with | false=>rfl | true=>exact absurd (hiff.1 rfl) hv
    subst hrt;rcases ih H.tail (i0+1) with ⟨h1,h2,h3,h4⟩ | ⟨j,e',m',h1,h2,h3,h4,h5,h6,h7⟩
    ·exact .inl ⟨by simp [MX,hbk,h1],by simp [Ez,hbk,h2],fun y=>by simp [Ep,hbk,h3],by simp [Instr.findNow,hs,h4]⟩
    ·exact .inr ⟨j+1,e',m',by simp [MX,hbk,h1],by simpa using h2,by simpa using h3,by simp [Ez,hbk,h4],fun y=>by simp [Ep,hbk,h5],h6,by simp [Instr.findNow,hs,h7];omega⟩
theorem Ik {c:Cfg} {s:S} (I:Inv c.P V s.get μ w) {t:TypeId} {m k z:A} {ok:Bool} {cm ck:Value} (e:zk c s t m k ok=some z) (Hm:dQ c.P V s.get μ m cm) (Hk:dQ c.P V s.get μ k ck) :
  ∃ v,(Instr.lookup t cm ck ok).run c.P w = .ok v w∧dQ c.P V s.get μ z v:=by
 unfold zk at e;split at e
 ·rename_i kt el kd hu
  split at e
  ·rename_i hkd
   split at e
   ·rename_i zd es hzd hes
    cases e;obtain ⟨desc,huk,hisk⟩:=EY hkd Hk.dOf;obtain ⟨zv,hzv,hzr⟩:=qM hzd w;have key:∃ en:Array MapEntry,qx c.P V kt es en.toList∧((cm = .map none∧en=#[])∨∃ r clock,cm = .map (some r)∧w.heap[r]?=some (.map en clock)):=by
     cases Hm with
     | d x v hd =>
      cases hd with
      | mp kt' es' r en clock hm hn hk hv ho hc hb =>
       simp only at hes;split at hes
       ·rename_i q
        subst q;cases hes;exact ⟨en,⟨by simpa using hn,fun i a b ha hb=>⟨hk i a b ha (by simpa using hb),hv i a b ha (by simpa using hb)⟩,ho⟩, .inr ⟨r,clock,rfl,I.map _ _ _ hm⟩⟩
       ·cases hes
      | mpnil=>cases hes;exact ⟨#[],⟨rfl,fun i a b ha=>by simp at ha,fun a ha=>by cases ha⟩, .inl ⟨rfl,rfl⟩⟩
      | _=>cases hes
     | mref i kt' l es' hi =>
      simp only [hi] at hes;split at hes
      ·rename_i q
       subst q;cases hes;obtain ⟨h1,h3,en,h5,h6,h7,h8⟩:=I.blk i _ hi;exact ⟨en,⟨by simpa using h6,fun i a b ha hb=>⟨(h7 i a b ha (by simpa using hb)).1,(h7 i a b ha (by simpa using hb)).2.1⟩,h8⟩, .inr ⟨_,_,rfl,h5⟩⟩
      ·cases hes
     | _=>cases hes
    obtain ⟨en,hen,hcm⟩:=key;have fin:∀ r:Option (Nat×Value),Instr.findNow desc ck en.toList 0=some r→(Instr.lookup t cm ck ok).run c.P w = .ok (if ok then .tuple #[(match r with | some (_,v)=>v | none=>zv), .bool r.isSome] else (match r with | some (_,v)=>v | none=>zv)) w:=by
     intro r hr;rcases hcm with ⟨rfl,rfl⟩ | ⟨rr,clock,rfl,hh⟩
     ·cases hr;simp [Instr.lookup,bF hu,run_checkKey huk hisk,run_findKey huk (show Instr.findNow desc ck [] 0=some none from rfl),hzv]
     ·cases r with
      | none=>simp [Instr.lookup,bF hu,MapKept.run_getObj_map hh,run_checkKey huk hisk,run_findKey huk hr,hzv]
      | some q=>obtain ⟨j,v⟩:=q;simp [Instr.lookup,bF hu,MapKept.run_getObj_map hh,run_checkKey huk hisk,run_findKey huk hr]
    rcases FP huk hkd Hk.dOf hen 0 with ⟨h1,h2,h3,h4⟩ | ⟨j,e',m',h1,h2,h3,h4,h5,h6,h7⟩
    ·refine ⟨_,fin _ h4,?_⟩;rw [h2];cases ok with
     | true =>
      refine .tup _ _ rfl (fun i d v hd hv=>?_);rcases i with _ | _ | i
      ·simp at hd hv;subst hd hv;exact .d _ _ (hzr V)
      ·simp at hd hv;subst hd hv;exact .d _ _ (.bool _)
      ·simp at hd
     | false=>exact .d _ _ (hzr V)
    ·refine ⟨_,fin _ h7,?_⟩;rw [h4];have hv:=(hen.rel j e' m' h2 h3).2;cases ok with
     | true =>
      refine .tup _ _ rfl (fun i d v hd hv'=>?_);rcases i with _ | _ | i
      ·simp at hd hv';subst hd hv';exact .d _ _ hv
      ·simp at hd hv';subst hd hv';exact .d _ _ (.bool _)
      ·simp at hd
     | false=>exact .d _ _ hv
   ·cases e
  ·cases e
 ·cases e
theorem vV {c:Cfg} {s s':S} (I:Inv c.P V s.get μ w) {t:TypeId} {m k v:A} {cm ck cv:Value} (e:nI c s t m k v=some s') (Hm:dQ c.P V s.get μ m cm) (Hk:dQ c.P V s.get μ k ck) (Hv:dQ c.P V s.get μ v cv) :
  ∃ w' V',(Instr.mapUpdate t cm ck cv).run c.P w = .ok () w'∧Inv c.P V' s'.get μ w'∧Evo V s.get μ w V' s'.get μ w'∧s'.out=s.out:=by
 have hμ:∀ i,pJ μ i (μ i)=μ:=by intro i;funext j;unfold pJ;split<;>simp_all
 unfold nI at e;split at e
 ·rename_i kt el i kd hu
  cases ht:s.toD v with
  | none=>rw [ht] at e;cases e
  | some r =>
   obtain ⟨x,o⟩:=r;rw [ht] at e;simp only at e;obtain ⟨V',L,hd⟩:=La I ht Hv;cases Hm with
   | mref _ kt0 l0 es0 hi0 =>
    split at e
    ·rename_i kt' uu es hi
     split at e
     ·rename_i hc
      obtain ⟨rfl,rfl,hkd⟩:=hc;cases e;have Hkd:fG c.P V' kd ck:=Hk.dOf.mono L.evo.view;obtain ⟨desc,huk,hisk⟩:=EY hkd Hkd;obtain ⟨h1,h3,en,h5,h6,h7,h8⟩:=L.inv.blk i _ hi;have hen:qx c.P V' kt' es en.toList:=⟨by simpa using h6,fun i a b ha hb=>⟨(h7 i a b ha (by simpa using hb)).1,(h7 i a b ha (by simpa using hb)).2.1⟩,h8⟩
      obtain ⟨hget,hdep⟩:=S.iY hi (.map kt' false (Ep es kd x));have fin:∀ en':Array MapEntry,en'.size=(Ep es kd x).length →
        (∀ (i:Nat) e m,(Ep es kd x)[i]?=some e→en'[i]?=some m→fG c.P V' e.1 m.key∧fG c.P V' e.2 m.val∧m.born=i)→(∀ e,e∈Ep es kd x→xB c.P kt' e.1=true) →
        Inv c.P V' ((S.ok o s).set i (.map kt' false (Ep es kd x))).get μ { w with heap:=w.heap.setIfInBounds (μ i).blk (.map en' (Ep es kd x).length) } ∧
        Evo V s.get μ w V' ((S.ok o s).set i (.map kt' false (Ep es kd x))).get μ { w with heap:=w.heap.setIfInBounds (μ i).blk (.map en' (Ep es kd x).length) }:=by
       intro en' g1 g2 g3;obtain ⟨q1,q2⟩:=heap_set (o' := .map en' (Ep es kd x).length) h5;obtain ⟨I',E'⟩:=L.inv.KN (w':={ w with heap:=w.heap.setIfInBounds (μ i).blk (.map en' (Ep es kd x).length) }) hi (.map kt' false (Ep es kd x)) (μ i) (fun q => .inl ⟨rfl,q⟩)
        (fun k _ hk=>q2 k (hk.resolve_left (by rw [h1];simp)))
        (fun cc v _ hv=>by
         have:=L.inv.cell _ _ _ hv;unfold World.cell? at this;simp [h5] at this)
        (fun e c _ hv=>absurd hv (h3 rfl e c)) rfl rfl rfl (by simp) ⟨h1,fun _=>h3 rfl,en',q1,g1,g2,g3⟩ rfl
       rw [hμ] at I' E';rw [hget];exact ⟨I',L.evo.trans E'⟩
      rcases FP huk hkd Hkd hen 0 with ⟨f1,f2,f3,f4⟩ | ⟨j,e',m',f1,f2,f3,f4,f5,f6,f7⟩
      ·have hset:=f3 x;obtain ⟨I',E'⟩:=fin (en.push { key:=ck,val:=cv,born:=es.length }) (by rw [hset];simp [h6])
        (by
         intro n a b ha hb;rw [hset] at ha;rw [Array.getElem?_push] at hb;by_cases q:n=en.size
         ·rw [if_pos q] at hb;cases hb;have:n=es.length:=by omega
          subst this;simp at ha;subst ha;exact ⟨Hkd,hd,rfl⟩
         ·rw [if_neg q] at hb;have hlt:=(Array.getElem?_eq_some_iff.1 hb).1;rw [List.getElem?_append_left (by omega)] at ha;exact h7 n a b ha hb)
        (by
         intro a ha;rw [hset] at ha;rcases List.mem_append.1 ha with q | q
         ·exact h8 a q
         ·simp at q;subst q;exact hkd)
       refine ⟨_,V',?_,I',E',hdep.trans L.dep⟩;have hl:(Ep es kd x).length=es.length+1:=by rw [hset];simp
       rw [hl];simp [Instr.mapUpdate,bF hu,MapKept.run_getObj_map h5,run_checkKey huk hisk,run_findKey huk f4,run_setObj_map _ h5]
      ·have hset:=f5 x;have hj:en[j]?=some m':=by simpa using f3
       have hjl:j < es.length:=(List.getElem?_eq_some_iff.1 f2).1;obtain ⟨I',E'⟩:=fin (en.modify j fun e=>{ e with key:=ck,val:=cv }) (by rw [hset];simp [h6])
        (by
         intro n a b ha hb;rw [hset] at ha;rw [Array.getElem?_modify] at hb;by_cases q:j=n
         ·subst q;rw [if_pos rfl,hj] at hb;rw [List.getElem?_set_self hjl] at ha;cases ha;cases hb;obtain ⟨g1,g2,g3⟩:=h7 j e' m' f2 hj;exact ⟨by rw [← f6];exact g1,hd,g3⟩
         ·rw [if_neg q] at hb;rw [List.getElem?_set_ne q] at ha;exact h7 n a b ha hb)
        (by
         intro a ha;rw [hset] at ha;rcases List.mem_or_eq_of_mem_set ha with q | q
         ·exact h8 a q
         ·subst q;exact h8 e' (List.mem_of_getElem? f2))
       refine ⟨_,V',?_,I',E',hdep.trans L.dep⟩;have hl:(Ep es kd x).length=es.length:=by rw [hset];simp
       rw [hl];have f7':Instr.findNow desc ck en.toList 0=some (some (j,m'.val)):=by simpa using f7
       simp [Instr.mapUpdate,bF hu,MapKept.run_getObj_map h5,run_checkKey huk hisk,run_findKey huk f7',hj,f6,run_keyThatStays hisk,run_setObj_map _ h5]
     ·cases e
    ·cases e
 ·cases e
end
end Go.Lx
namespace Go.Lx
section
variable {P:Program} {V:View} {μ:Id→Pl} {w:World}
def oI (out:Out):S:=⟨[],out,[]⟩
theorem D9 (s:S):(oI (s.loc::s.cur)).get=s.get:=by
 funext i
 have hcl:s.cur.length=s.out.length:=ve _ _;have hd:(oI (s.loc::s.cur)).dep=s.dep+1:=by show (s.loc::s.cur).length=_;simp [S.dep,hcl]
 have hc:(oI (s.loc::s.cur)).cur=s.loc::s.cur:=by show je _ []=_;simp [je,oI]
 unfold S.get;rw [hd,hc];by_cases e0:i.d=s.dep+1
 ·rw [if_pos e0,if_neg (by omega),if_neg (by omega)];rfl
 ·rw [if_neg e0];by_cases e1:i.d=s.dep
  ·rw [if_pos e1,if_pos (by omega)];rw [show s.dep+1 - 1 - i.d=0 from by omega];simp
  ·rw [if_neg e1];by_cases e2:i.d < s.dep
   ·rw [if_pos (by omega),if_pos e2];obtain ⟨m,hm⟩:∃ m,s.dep - 1 - i.d=m:=⟨_,rfl⟩
    rw [show s.dep+1 - 1 - i.d=m+1 from by omega,hm];simp
   ·rw [if_neg (by omega),if_neg e2]
theorem AC:∀ (out:Out) (xs ys:List (Option Loc)),je (je out xs) ys=je out (zu xs ys)
 | out,[],ys=>by cases ys<;>simp [zu,je]
 | out,x::xs,[]=>by simp [zu,je]
 | [],x::xs,y::ys=>by simp [zu,je]
 | l::out,x::xs,y::ys=>by
  simp only [zu,je];rw [AC out xs ys];cases y<;>simp
def EN (s:S) (chg:List (Option Loc)):S :=
 match chg with
 | []=>s
 | l::out'=>{ s with loc:=l.getD s.loc,chg:=zu s.chg out' }
theorem QD (s:S) (chg:List (Option Loc)):(⟨[],s.loc::s.cur,chg⟩:S).get=(EN s chg).get∧(EN s chg).out=s.out:=by
 cases chg with
 | nil=>exact ⟨D9 s,rfl⟩
 | cons l out' =>
  refine ⟨?_,rfl⟩;have h1:(EN s (l::out')).cur=je s.cur out':=(AC s.out s.chg out').symm;have h2:=D9 (EN s (l::out'));rw [← h2,h1]
  funext i
  have:(⟨[],s.loc::s.cur,l::out'⟩:S).cur=(oI ((EN s (l::out')).loc::je s.cur out')).cur:=by
   show je (s.loc::s.cur) (l::out')=je _ []
   simp [je,EN,oI]
  unfold S.get;rw [this];have hd:(⟨[],s.loc::s.cur,l::out'⟩:S).dep=(oI ((EN s (l::out')).loc::je s.cur out')).dep:=by
   show (s.loc::s.cur).length=((EN s (l::out')).loc::je s.cur out').length
   simp [ve]
  rw [hd];rfl
theorem dG.mono {V':View} {h h':Id→Option Blk} {μ':Id→Pl} {w':World} {as:List A} {vs:List Value} (R:dG P V h μ as vs) (E:Evo V h μ w V' h' μ' w'):dG P V' h' μ' as vs:=by
 induction R with
 | nil=>exact .nil
 | cons a v as vs ha hr ih=>exact .cons a v as vs (E.wU ha) ih
theorem dG.length {h:Id→Option Blk} {as:List A} {vs:List Value} (R:dG P V h μ as vs):vs.length=as.length:=by
 induction R with
 | nil=>rfl
 | cons a v as vs ha hr ih=>simp [ih]
theorem dG.get {h:Id→Option Blk} {as:List A} {vs:List Value} (R:dG P V h μ as vs):∀ (i:Nat) a v,as[i]?=some a→vs[i]?=some v→dQ P V h μ a v:=by
 induction R with
 | nil=>intro i a v ha;simp at ha
 | cons a v as vs ha hr ih =>
  intro i a' v' h1 h2;cases i with
  | zero=>simp at h1 h2;subst h1 h2;exact ha
  | succ i=>exact ih i a' v' (by simpa using h1) (by simpa using h2)
theorem dG.of {h:Id→Option Blk}:∀ {as:List A} {vs:List Value},vs.length=as.length→(∀ (i:Nat) a v,as[i]?=some a→vs[i]?=some v→dQ P V h μ a v)→dG P V h μ as vs
 | [],[],_,_ => .nil
 | [],_::_,hn,_=>by simp at hn
 | _::_,[],hn,_=>by simp at hn
 | a::as,v::vs,hn,H => .cons a v as vs (H 0 a v rfl rfl) (.of (by simpa using hn) (fun i a v ha hv=>H (i+1) a v (by simpa using ha) (by simpa using hv)))
theorem dG.append {h:Id→Option Blk} {as bs:List A} {vs us:List Value} (R:dG P V h μ as vs) (R':dG P V h μ bs us):dG P V h μ (as++bs) (vs++us):=by
 induction R with
 | nil=>exact R'
 | cons a v as vs ha hr ih=>exact .cons a v _ _ ha ih
theorem PO {c:Cfg} {g:FuncId}:∀ (as:List A) {j:Nat} {s:S} {V:View} (_:Inv P V s.get μ w) {as':List A} {o:Option S} {vs:List Value},pY c g j s as=some (as',o)→dG P V s.get μ as vs →
  ∃ V',Tt P V s μ w o V'∧dG P V' (S.ok o s).get μ as' vs
 | [],j,s,V,I,as',o,vs,e,R=>by
  simp only [pY] at e;cases e;cases R;exact ⟨V, .none I, .nil⟩
 | a::as,j,s,V,I,as',o,vs,e,R=>by
  cases R with
  | cons _ v _ vs ha hr =>
   simp only [pY] at e;cases hx:(if c.byref g j=true then some (a,none) else s.vY a) with
   | none=>rw [hx] at e;cases e
   | some r =>
    obtain ⟨x',o1⟩:=r;rw [hx] at e;simp only at e;cases hr2:pY c g (j+1) (S.ok o1 s) as with
    | none=>rw [hr2] at e;cases e
    | some r2 =>
     obtain ⟨rest',o2⟩:=r2;rw [hr2] at e;cases e;have key:∃ V1,Tt P V s μ w o1 V1∧dQ P V1 (S.ok o1 s).get μ x' v:=by
      split at hx
      ·cases hx;exact ⟨V, .none I,ha⟩
      ·exact G5 a I hx ha
     obtain ⟨V1,L1,R1⟩:=key;obtain ⟨V2,L2,R2⟩:=PO as L1.inv hr2 (hr.mono L1.evo);have hok:S.ok (orS o2 o1) s=S.ok o2 (S.ok o1 s):=by cases o2<;>rfl
     refine ⟨V2,⟨by rw [hok];exact L2.inv,by rw [hok];exact L1.evo.trans L2.evo,by rw [hok];exact L2.dep.trans L1.dep⟩,?_⟩;rw [hok];exact .cons x' v _ _ (L2.evo.wU R1) R2
abbrev BZ:=Pl×Nat×List D
mutual
def bZ (P:Program) (V:View) (h:Id→Option Blk) (μ:Id→Pl):A→Value→List BZ→Prop
 | .own sz xs,v,gs=>∃ p,gs=[(p,sz,xs)]∧uC p sz 0 xs.length v
 | .agg cs,v,gs=>∃ vs,v = .agg vs∧(∀ (i:Nat) x,vs[i]?=some x→Plain x)∧iT P V h μ cs vs.toList gs
 | .tup cs,v,gs=>∃ vs,v = .tuple vs∧iT P V h μ cs vs.toList gs
 | a,v,gs=>gs=[]∧dQ P V h μ a v
def iT (P:Program) (V:View) (h:Id→Option Blk) (μ:Id→Pl):List A→List Value→List BZ→Prop
 | [],vs,gs=>vs=[]∧gs=[]
 | a::as,vs,gs=>∃ v vr g1 g2,vs=v::vr∧gs=g1++g2∧bZ P V h μ a v g1∧iT P V h μ as vr g2
end
structure Loose (P:Program) (V:View) (h:Id→Option Blk) (μ:Id→Pl) (w:World) (n:Nat) (gs:List BZ):Prop where
 rel:∀ g,g∈gs→C9 P V h μ w g.1 (.arr g.2.1 false g.2.2)
 free:∀ g,g∈gs→g.1.nil=false→¬ kQ h μ g.1.blk∧n≤g.1.blk∧g.1.blk < w.heap.size
 apart:gs.Pairwise fun a b=>a.1.nil=false→b.1.nil=false→a.1.blk≠b.1.blk
theorem Inv.UF {h:Id→Option Blk} (I:Inv P V h μ w) {i:Id} (hi:h i=none) {sz:Nat} {l:Bool} {xs:List D} {p:Pl} (hb:C9 P V h μ w p (.arr sz l xs)) (hf:p.nil=false→¬ kQ h μ p.blk) :
  Inv P V (upd h i (.arr sz l xs)) (pJ μ i p) w:=by
 have K:∀ j x,h j=some x→∃ x',upd h i (.arr sz l xs) j=some x'∧kY x (μ j) x' (pJ μ i p j):=by
  intro j x hx;have e:j≠i:=fun e=>by rw [e,hi] at hx;cases hx
  exact ⟨x,by rw [upd_ne _ _ e];exact hx,by rw [dM _ _ e];exact .refl _ _⟩
 refine ⟨?_,?_,I.cell,I.map,wC I.tidy⟩
 ·intro j x hx;by_cases e:j=i
  ·subst e;rw [upd_same] at hx;cases hx;rw [bY];exact hb
  ·rw [upd_ne _ _ e] at hx;rw [dM _ _ e];exact (I.blk j x hx).mono K
 ·intro j k x y hx hy hne n1 n2;by_cases e1:j=i
  ·subst e1;have e2:k≠j:=fun e=>hne e.symm
   rw [bY] at n1;rw [upd_ne _ _ e2] at hy;rw [dM _ _ e2] at n2;rw [bY,dM _ _ e2];exact fun q=>hf n1 ⟨k,y,hy,n2,q.symm⟩
  ·rw [upd_ne _ _ e1] at hx;rw [dM _ _ e1] at n1;rw [dM _ _ e1];by_cases e2:k=i
   ·subst e2;rw [bY] at n2;rw [bY];exact fun q=>hf n2 ⟨j,x,hx,n1,q⟩
   ·rw [upd_ne _ _ e2] at hy;rw [dM _ _ e2] at n2;rw [dM _ _ e2];exact I.apart j k x y hx hy hne n1 n2
theorem Evo.UF {h h0:Id→Option Blk} {V0:View} {μ0:Id→Pl} {w0:World} (E:Evo V0 h0 μ0 w0 V h μ w) {i:Id} (hi:h i=none) {b:Blk} {p:Pl} (hf:p.nil=false→w0.heap.size≤p.blk) :
  Evo V0 h0 μ0 w0 V (upd h i b) (pJ μ i p) w :=
 ⟨E.os,E.tape,E.output,E.size,E.rest,E.view,E.newc,E.newm,by
  intro j x hx n1;by_cases e:j=i
  ·subst e;rw [bY] at n1;rw [bY];exact .inr (hf n1)
  ·rw [upd_ne _ _ e] at hx;rw [dM _ _ e] at n1;rw [dM _ _ e];exact E.place j x hx n1,by
  intro j x hx;obtain ⟨x',h1,h2⟩:=E.keep j x hx;have e:j≠i:=fun e=>by rw [e,hi] at h1;cases h1
  exact ⟨x',by rw [upd_ne _ _ e];exact h1,by rw [dM _ _ e];exact h2⟩⟩
end
end Go.Lx
namespace Go.Lx
section
variable {P:Program} {V:View} {μ:Id→Pl} {w:World}
theorem S.O6 (s:S) (t n:Nat) (b:Blk) (hone:b.one=true:=by rfl):(s.plus [((t,n),b)]).get=upd s.get ⟨s.dep,t,n⟩ b:=by
 funext j
 unfold upd;have hd:(s.plus [((t,n),b)]).dep=s.dep:=rfl;by_cases ej:j.d=s.dep
 ·have h1:(s.plus [((t,n),b)]).get j=bg (((t,n),b)::s.loc) j.t j.n:=by
   unfold S.get;rw [hd,if_pos ej];rfl
  have h2:s.get j=bg s.loc j.t j.n:=by unfold S.get;exact if_pos ej
  rw [h1,h2];rw [gJ hone];by_cases e2:j=⟨s.dep,t,n⟩
  ·subst e2;simp
  ·rw [if_neg e2];by_cases e3:j.t=t
   ·by_cases e4:j.n=n
    ·exact absurd (by cases j;simp_all) e2
    ·rw [if_pos e3,if_neg e4]
   ·rw [if_neg e3]
 ·have e2:j≠⟨s.dep,t,n⟩:=fun h=>ej (by rw [h])
  rw [if_neg e2];unfold S.get;rw [hd,if_neg ej,if_neg ej];rfl
def jo (t:Nat):Nat→List BZ→Loc
 | _,[]=>[]
 | n,g::r=>((t,n), .arr g.2.1 false g.2.2)::jo t (n+1) r
theorem xe (t:Nat):∀ (n:Nat) (a b:List BZ),jo t n (a++b)=jo t n a++jo t (n+a.length) b
 | n,[],b=>by simp [jo]
 | n,g::a,b=>by
  simp only [List.cons_append,jo,xe t (n+1) a b,List.length_cons];rw [show n+1+a.length=n+(a.length+1) from by omega]
theorem rF (t:Nat):∀ (n:Nat) (a:List BZ),(jo t n a).length=a.length
 | n,[]=>rfl
 | n,g::a=>by simp [jo,rF t (n+1) a]
def Same (h:Id→Option Blk) (μ:Id→Pl) (h':Id→Option Blk) (μ':Id→Pl):Prop:=∀ i b,h i=some b→h' i=some b∧μ' i=μ i
theorem Same.wU {h h':Id→Option Blk} {μ':Id→Pl} {a:A} {v:Value} (K:Same h μ h' μ') (H:dQ P V h μ a v):dQ P V h' μ' a v :=
 H.mono (.refl V) (fun i _ b hb=>⟨b,(K i b hb).1,by rw [(K i b hb).2];exact .refl _ _⟩)
theorem IE {s:S} (t:Nat) {m:Nat} (I:Inv P V s.get μ w):∀ (gs:List BZ) (n:Nat),Loose P V s.get μ w m gs→kR s.loc t≤n →
  ∃ μ',Inv P V (s.plus (jo t n gs)).get μ' w∧Same s.get μ (s.plus (jo t n gs)).get μ' ∧
   (∀ k g,gs[k]?=some g→(s.plus (jo t n gs)).get ⟨s.dep,t,n+k⟩=some (.arr g.2.1 false g.2.2)∧μ' ⟨s.dep,t,n+k⟩=g.1) ∧
   (∀ k,k < n→(s.plus (jo t n gs)).get ⟨s.dep,t,k⟩=s.get ⟨s.dep,t,k⟩) ∧
   (∀ b,kQ (s.plus (jo t n gs)).get μ' b→kQ s.get μ b∨∃ g,g∈gs∧g.1.nil=false∧g.1.blk=b) ∧
   (∀ V0 h0 μ0 w0,Evo V0 h0 μ0 w0 V s.get μ w→w0.heap.size≤m→Evo V0 h0 μ0 w0 V (s.plus (jo t n gs)).get μ' w)
 | [],n,L,hn=>⟨μ,I,fun i b hb=>⟨hb,rfl⟩,fun k g hg=>by simp at hg,fun k _=>rfl,fun b hb => .inl hb,fun _ _ _ _ E _=>E⟩
 | g::gs,n,L,hn=>by
  have L':Loose P V s.get μ w m gs:=⟨fun x hx=>L.rel x (.tail _ hx),fun x hx=>L.free x (.tail _ hx),(List.pairwise_cons.1 L.apart).2⟩
  obtain ⟨μ1,I1,S1,G1,F1,O1,E1⟩:=IE t I gs (n+1) L' (by omega);have hfree:(s.plus (jo t (n+1) gs)).get ⟨s.dep,t,n⟩=none:=by
   rw [F1 n (by omega)];unfold S.get;rw [if_pos rfl];exact wH _ _ _ hn
  have hb:C9 P V (s.plus (jo t (n+1) gs)).get μ1 w g.1 (.arr g.2.1 false g.2.2):=L.rel g (.head _);have hf:g.1.nil=false→¬ kQ (s.plus (jo t (n+1) gs)).get μ1 g.1.blk:=by
   intro q ho;rcases O1 _ ho with z | ⟨g',h1,h2,h3⟩
   ·exact (L.free g (.head _) q).1 z
   ·exact (List.pairwise_cons.1 L.apart).1 g' h1 q h2 h3.symm
  have hg1:(s.plus (jo t n (g::gs))).get=upd (s.plus (jo t (n+1) gs)).get ⟨s.dep,t,n⟩ (.arr g.2.1 false g.2.2):=S.O6 (s.plus (jo t (n+1) gs)) t n _;refine ⟨pJ μ1 ⟨s.dep,t,n⟩ g.1,by rw [hg1];exact I1.UF hfree hb hf,?_,?_,?_,?_,?_⟩
  ·intro i b hi;obtain ⟨h1,h2⟩:=S1 i b hi;have e:i≠⟨s.dep,t,n⟩:=fun e=>by rw [e,hfree] at h1;cases h1
   rw [hg1,upd_ne _ _ e,dM _ _ e];exact ⟨h1,h2⟩
  ·intro k g' hk;rw [hg1];cases k with
   | zero =>
    simp at hk;subst hk;exact ⟨upd_same _ _ _,bY _ _ _⟩
   | succ k =>
    have e:(⟨s.dep,t,n+(k+1)⟩:Id)≠⟨s.dep,t,n⟩:=by
     intro q;have:=congrArg Id.n q;simp at this
    rw [upd_ne _ _ e,dM _ _ e];have:=G1 k g' (by simpa using hk);rw [show n+1+k=n+(k+1) from by omega] at this;exact this
  ·intro k hk;have e:(⟨s.dep,t,k⟩:Id)≠⟨s.dep,t,n⟩:=by
    intro q;have:=congrArg Id.n q;simp at this;omega
   rw [hg1,upd_ne _ _ e];exact F1 k (by omega)
  ·rintro b ⟨j,x,hx,n1,rfl⟩
   rw [hg1] at hx;by_cases e:j=⟨s.dep,t,n⟩
   ·subst e;rw [bY] at n1 ⊢;exact .inr ⟨g, .head _,n1,rfl⟩
   ·rw [upd_ne _ _ e] at hx;rw [dM _ _ e] at n1 ⊢;rcases O1 _ ⟨j,x,hx,n1,rfl⟩ with z | ⟨g',h1,h2,h3⟩
    ·exact .inl z
    ·exact .inr ⟨g', .tail _ h1,h2,h3⟩
  ·intro V0 h0 μ0 w0 E hm;rw [hg1];exact (E1 V0 h0 μ0 w0 E hm).UF hfree (fun q=>Nat.le_trans hm (L.free g (.head _) q).2.1)
mutual
theorem F7 {h h':Id→Option Blk} {μ':Id→Pl} {dep t:Nat} (K:Same h μ h' μ'):∀ (a:A) {v:Value} {gs:List BZ} {n:Nat},bZ P V h μ a v gs →
  (∀ k g,gs[k]?=some g→h' ⟨dep,t,n+k⟩=some (.arr g.2.1 false g.2.2)∧μ' ⟨dep,t,n+k⟩=g.1) →
  dQ P V h' μ' (jh dep t n a).1 v∧(jh dep t n a).2=jo t n gs
 | .own sz xs,v,gs,n,R,G=>by
  simp only [bZ] at R;obtain ⟨p,rfl,hs⟩:=R;obtain ⟨g1,g2⟩:=G 0 _ rfl;obtain ⟨a,c,rfl,hsv⟩:=hs;refine ⟨?_,rfl⟩;simp only [jh];refine .ref _ 0 _ _ sz false xs a c g1 (Nat.le_refl _) (fun _=>?_);have g2':μ' ⟨dep,t,n⟩=p:=g2;rw [g2'];exact ⟨a,c,rfl,hsv⟩
 | .agg cs,v,gs,n,R,G=>by
  simp only [bZ] at R;obtain ⟨vs,rfl,hp,hr⟩:=R;obtain ⟨h1,h2,h3⟩:=DY K cs hr G;refine ⟨?_,h3⟩;simp only [jh];exact .agg _ vs (by rw [h1];simpa using (nK cs hr)) (fun i d v hd hv=>h2 i d v hd (by simpa using hv)) hp
 | .tup cs,v,gs,n,R,G=>by
  simp only [bZ] at R;obtain ⟨vs,rfl,hr⟩:=R;obtain ⟨h1,h2,h3⟩:=DY K cs hr G;refine ⟨?_,h3⟩;simp only [jh];exact .tup _ vs (by rw [h1];simpa using (nK cs hr)) (fun i d v hd hv=>h2 i d v hd (by simpa using hv))
 | .undef,v,gs,n,R,G=>by simp only [bZ] at R;obtain ⟨rfl,hr⟩:=R;exact ⟨K.wU hr,rfl⟩
 | .unk,v,gs,n,R,G=>by simp only [bZ] at R;obtain ⟨rfl,hr⟩:=R;exact ⟨K.wU hr,rfl⟩
 | .d x,v,gs,n,R,G=>by simp only [bZ] at R;obtain ⟨rfl,hr⟩:=R;exact ⟨K.wU hr,rfl⟩
 | .tight x,v,gs,n,R,G=>by simp only [bZ] at R;obtain ⟨rfl,hr⟩:=R;exact ⟨K.wU hr,rfl⟩
 | .ref _ _ _ _,v,gs,n,R,G=>by simp only [bZ] at R;obtain ⟨rfl,hr⟩:=R;exact ⟨K.wU hr,rfl⟩
 | .rcap _ _ _ _ _,v,gs,n,R,G=>by simp only [bZ] at R;obtain ⟨rfl,hr⟩:=R;exact ⟨K.wU hr,rfl⟩
 | .bptr _ _,v,gs,n,R,G=>by simp only [bZ] at R;obtain ⟨rfl,hr⟩:=R;exact ⟨K.wU hr,rfl⟩
 | .bref _ _,v,gs,n,R,G=>by simp only [bZ] at R;obtain ⟨rfl,hr⟩:=R;exact ⟨K.wU hr,rfl⟩
 | .nref _ _,v,gs,n,R,G=>by simp only [bZ] at R;obtain ⟨rfl,hr⟩:=R;exact ⟨K.wU hr,rfl⟩
 | .nptr _ _ _ _,v,gs,n,R,G=>by simp only [bZ] at R;obtain ⟨rfl,hr⟩:=R;exact ⟨K.wU hr,rfl⟩
 | .tref _ _ _,v,gs,n,R,G=>by simp only [bZ] at R;obtain ⟨rfl,hr⟩:=R;exact ⟨K.wU hr,rfl⟩
 | .tptr _ _ _,v,gs,n,R,G=>by simp only [bZ] at R;obtain ⟨rfl,hr⟩:=R;exact ⟨K.wU hr,rfl⟩
 | .eptr _ _ _ _,v,gs,n,R,G=>by simp only [bZ] at R;obtain ⟨rfl,hr⟩:=R;exact ⟨K.wU hr,rfl⟩
 | .pimm _ _,v,gs,n,R,G=>by simp only [bZ] at R;obtain ⟨rfl,hr⟩:=R;exact ⟨K.wU hr,rfl⟩
 | .mref _,v,gs,n,R,G=>by simp only [bZ] at R;obtain ⟨rfl,hr⟩:=R;exact ⟨K.wU hr,rfl⟩
 | .iter _,v,gs,n,R,G=>by simp only [bZ] at R;obtain ⟨rfl,hr⟩:=R;exact ⟨K.wU hr,rfl⟩
 | .clo _ _,v,gs,n,R,G=>by simp only [bZ] at R;obtain ⟨rfl,hr⟩:=R;exact ⟨K.wU hr,rfl⟩
theorem DY {h h':Id→Option Blk} {μ':Id→Pl} {dep t:Nat} (K:Same h μ h' μ'):∀ (as:List A) {vs:List Value} {gs:List BZ} {n:Nat},iT P V h μ as vs gs →
  (∀ k g,gs[k]?=some g→h' ⟨dep,t,n+k⟩=some (.arr g.2.1 false g.2.2)∧μ' ⟨dep,t,n+k⟩=g.1) →
  (iO dep t n as).1.length=as.length∧(∀ (i:Nat) a v,(iO dep t n as).1[i]?=some a→vs[i]?=some v→dQ P V h' μ' a v)∧(iO dep t n as).2=jo t n gs
 | [],vs,gs,n,R,G=>by
  simp only [iT] at R;obtain ⟨rfl,rfl⟩:=R;exact ⟨rfl,fun i a v ha=>by simp [iO] at ha,rfl⟩
 | a::as,vs,gs,n,R,G=>by
  simp only [iT] at R;obtain ⟨v,vr,g1,g2,rfl,rfl,r1,r2⟩:=R;obtain ⟨h1,h2⟩:=F7 K a r1 (n:=n) (fun k g hk=>G k g (by rw [List.getElem?_append_left (List.getElem?_eq_some_iff.1 hk).1];exact hk));have hl:(jh dep t n a).2.length=g1.length:=by rw [h2,rF]
  obtain ⟨k1,k2,k3⟩:=DY K as r2 (n:=n+(jh dep t n a).2.length) (fun k g hk=>by
   have:=G (g1.length+k) g (by rw [List.getElem?_append_right (by omega)];simpa using hk);rw [hl,show n+g1.length+k=n+(g1.length+k) from by omega];exact this)
  refine ⟨by simp [iO,k1],?_,by simp only [iO];rw [k3,h2,xe,rF]⟩;intro i x y hx hy;cases i with
  | zero=>simp [iO] at hx hy;subst hx hy;exact h1
  | succ i=>exact k2 i x y (by simpa [iO] using hx) (by simpa using hy)
theorem nK {h:Id→Option Blk}:∀ (as:List A) {vs:List Value} {gs:List BZ},iT P V h μ as vs gs→vs.length=as.length
 | [],vs,gs,R=>by simp only [iT] at R;rw [R.1];rfl
 | a::as,vs,gs,R=>by
  simp only [iT] at R;obtain ⟨v,vr,g1,g2,rfl,rfl,r1,r2⟩:=R;simp [nK as r2]
end
end
end Go.Lx
namespace Go.Lx
section
variable {P:Program} {V:View} {μ:Id→Pl} {w:World}
theorem TM {h:Id→Option Blk} (I:Inv P V h μ w) {p:Pl} {sz:Nat} {xs:List D} (hb:C9 P V h μ w p (.arr sz false xs)) (hf:p.nil=false→¬ kQ h μ p.blk) :
  ∃ V',V.Le V'∧Inv P V' h μ w∧(∀ b c v,V'.cell b c v→V.cell b c v∨(p.nil=false∧b=p.blk))∧V'.map=V.map∧∀ v,uC p sz 0 xs.length v→fG P V' (.sl xs) v:=by
 rcases hb with ⟨h1,h2,h3⟩ | ⟨h1,h2,h3,h4,cells,elem,h5,h6,_,ev,h7⟩
 ·subst h2;refine ⟨V, .refl V,I,fun _ _ _ x => .inl x,rfl,?_⟩
  rintro v ⟨a,c,rfl,q⟩
  exact .sl [] a c 0 0 0 (fun _=>Go.undef) (Nat.zero_le _) (.inl rfl) (fun i d hd=>by simp at hd) (fun i hi=>by simp at hi) (fun i hi=>by simp at hi)
 ·let V':View:=⟨fun b c v=>V.cell b c v∨(b=p.blk∧cells[c]?=some v),V.map⟩
  have hV:V.Le V':=⟨fun _ _ _ x => .inl x,fun _ _ _ x=>x⟩
  refine ⟨V',hV,I.frame (fun _ _=>rfl) hV ?_ (fun _ _ _ x _=>x) ?_ I.map,?_,rfl,?_⟩
  ·rintro b c v (q | ⟨rfl,q⟩) ho
   ·exact q
   ·exact absurd ho (hf h1)
  ·rintro b c v (q | ⟨rfl,q⟩)
   ·exact I.cell b c v q
   ·rw [cell_of_row w _ c cells elem (0,0) h5];exact q
  ·rintro b c v (q | ⟨rfl,q⟩)
   ·exact .inl q
   ·exact .inr ⟨h1,rfl⟩
  ·rintro v ⟨a,c,rfl,q⟩
   have:=pI (P:=P) (V:=V') (xs:=xs) (off:=0) (len:=xs.length) ⟨a,c,rfl,q⟩ (by omega) (fun _=>h2) (fun z=>by rw [h1] at z;cases z)
    (fun k d hd=>⟨ev k,(h7 k d hd).1.mono hV,(h7 k d hd).2.1,fun j v hj => .inr ⟨rfl,(h7 k d hd).2.2 j v hj⟩⟩)
   simpa using this
theorem FN {h:Id→Option Blk} {m:Nat}:∀ (gs:List BZ) {V:View} (_:Inv P V h μ w),Loose P V h μ w m gs →
  ∃ V',V.Le V'∧Inv P V' h μ w∧(∀ b c v,V'.cell b c v→V.cell b c v∨∃ g,g∈gs∧g.1.nil=false∧b=g.1.blk)∧V'.map=V.map ∧
   ∀ g,g∈gs→∀ v,uC g.1 g.2.1 0 g.2.2.length v→fG P V' (.sl g.2.2) v
 | [],V,I,L=>⟨V, .refl V,I,fun _ _ _ x => .inl x,rfl,fun g hg=>by cases hg⟩
 | g::gs,V,I,L=>by
  obtain ⟨V1,h1,I1,c1,m1,d1⟩:=TM I (L.rel g (.head _)) (fun q=>(L.free g (.head _) q).1);have L1:Loose P V1 h μ w m gs:=by
   refine ⟨?_,fun x hx=>L.free x (.tail _ hx),(List.pairwise_cons.1 L.apart).2⟩;intro x hx;have B:=L.rel x (.tail _ hx);rcases B with B | ⟨b1,b2,b3,b4,cells,elem,b5,b6,hpl,ev,b7⟩
   ·exact .inl B
   ·have hne:∀ c v,V1.cell x.1.blk c v→V.cell x.1.blk c v:=by
     intro c v hv;rcases c1 _ _ _ hv with q | ⟨q1,q2⟩
     ·exact q
     ·exact absurd q2.symm ((List.pairwise_cons.1 L.apart).1 x hx q1 b1)
    exact .inr ⟨b1,b2,fun e c v hv=>b3 e c v (hne c v hv),fun c v hv=>b4 c v (hne c v hv),cells,elem,b5,b6,hpl,ev,fun i d hd=>⟨(b7 i d hd).1.mono h1,(b7 i d hd).2⟩⟩
  obtain ⟨V2,h2,I2,c2,m2,d2⟩:=FN gs I1 L1;refine ⟨V2,h1.trans h2,I2,?_,m2.trans m1,?_⟩
  ·intro b c v hv;rcases c2 b c v hv with q | ⟨g',q1,q2,q3⟩
   ·rcases c1 b c v q with z | ⟨z1,z2⟩
    ·exact .inl z
    ·exact .inr ⟨g, .head _,z1,z2⟩
   ·exact .inr ⟨g', .tail _ q1,q2,q3⟩
  ·intro g' hg' v hv;cases hg' with
   | head=>exact (d1 v hv).mono h2
   | tail _ hg'=>exact d2 g' hg' v hv
mutual
theorem O3 {h:Id→Option Blk} {V':View} (hV:V.Le V'):∀ (a:A) {v:Value} {gs:List BZ},bZ P V h μ a v gs →
  (∀ g,g∈gs→∀ v,uC g.1 g.2.1 0 g.2.2.length v→fG P V' (.sl g.2.2) v)→dQ P V' h μ a.frz v
 | .own sz xs,v,gs,R,G=>by
  simp only [bZ] at R;obtain ⟨p,rfl,hs⟩:=R;exact .d _ _ (G _ (.head _) v hs)
 | .agg cs,v,gs,R,G=>by
  simp only [bZ] at R;obtain ⟨vs,rfl,hp,hr⟩:=R;obtain ⟨h1,h2⟩:=Gt hV cs hr G;simp only [A.frz];exact vC (.agg _ vs (by rw [h1];simpa using (nK cs hr)) (fun i d v hd hv=>h2 i d v hd (by simpa using hv)) hp)
 | .tup cs,v,gs,R,G=>by
  simp only [bZ] at R;obtain ⟨vs,rfl,hr⟩:=R;obtain ⟨h1,h2⟩:=Gt hV cs hr G;simp only [A.frz];exact .tup _ vs (by rw [h1];simpa using (nK cs hr)) (fun i d v hd hv=>h2 i d v hd (by simpa using hv))
 | .undef,v,gs,R,G=>by simp only [bZ] at R;exact R.2.mono hV (fun i _ b hb=>⟨b,hb, .refl _ _⟩)
 | .unk,v,gs,R,G=>by simp only [bZ] at R;exact R.2.mono hV (fun i _ b hb=>⟨b,hb, .refl _ _⟩)
 | .d x,v,gs,R,G=>by simp only [bZ] at R;exact R.2.mono hV (fun i _ b hb=>⟨b,hb, .refl _ _⟩)
 | .tight x,v,gs,R,G=>by simp only [bZ] at R;exact R.2.mono hV (fun i _ b hb=>⟨b,hb, .refl _ _⟩)
 | .ref _ _ _ _,v,gs,R,G=>by simp only [bZ] at R;exact R.2.mono hV (fun i _ b hb=>⟨b,hb, .refl _ _⟩)
 | .rcap _ _ _ _ _,v,gs,R,G=>by simp only [bZ] at R;exact R.2.mono hV (fun i _ b hb=>⟨b,hb, .refl _ _⟩)
 | .bptr _ _,v,gs,R,G=>by simp only [bZ] at R;exact R.2.mono hV (fun i _ b hb=>⟨b,hb, .refl _ _⟩)
 | .bref _ _,v,gs,R,G=>by simp only [bZ] at R;exact R.2.mono hV (fun i _ b hb=>⟨b,hb, .refl _ _⟩)
 | .nref _ _,v,gs,R,G=>by simp only [bZ] at R;exact R.2.mono hV (fun i _ b hb=>⟨b,hb, .refl _ _⟩)
 | .nptr _ _ _ _,v,gs,R,G=>by simp only [bZ] at R;exact R.2.mono hV (fun i _ b hb=>⟨b,hb, .refl _ _⟩)
 | .tref _ _ _,v,gs,R,G=>by simp only [bZ] at R;exact R.2.mono hV (fun i _ b hb=>⟨b,hb, .refl _ _⟩)
 | .tptr _ _ _,v,gs,R,G=>by simp only [bZ] at R;exact R.2.mono hV (fun i _ b hb=>⟨b,hb, .refl _ _⟩)
 | .eptr _ _ _ _,v,gs,R,G=>by simp only [bZ] at R;exact R.2.mono hV (fun i _ b hb=>⟨b,hb, .refl _ _⟩)
 | .pimm _ _,v,gs,R,G=>by simp only [bZ] at R;exact R.2.mono hV (fun i _ b hb=>⟨b,hb, .refl _ _⟩)
 | .mref _,v,gs,R,G=>by simp only [bZ] at R;exact R.2.mono hV (fun i _ b hb=>⟨b,hb, .refl _ _⟩)
 | .iter _,v,gs,R,G=>by simp only [bZ] at R;exact R.2.mono hV (fun i _ b hb=>⟨b,hb, .refl _ _⟩)
 | .clo _ _,v,gs,R,G=>by simp only [bZ] at R;exact R.2.mono hV (fun i _ b hb=>⟨b,hb, .refl _ _⟩)
theorem Gt {h:Id→Option Blk} {V':View} (hV:V.Le V'):∀ (as:List A) {vs:List Value} {gs:List BZ},iT P V h μ as vs gs →
  (∀ g,g∈gs→∀ v,uC g.1 g.2.1 0 g.2.2.length v→fG P V' (.sl g.2.2) v) →
  (A.RX as).length=as.length∧(∀ (i:Nat) a v,(A.RX as)[i]?=some a→vs[i]?=some v→dQ P V' h μ a v)
 | [],vs,gs,R,G=>⟨rfl,fun i a v ha=>by simp [A.RX] at ha⟩
 | a::as,vs,gs,R,G=>by
  simp only [iT] at R;obtain ⟨v,vr,g1,g2,rfl,rfl,r1,r2⟩:=R;have h1:=O3 hV a r1 (fun g hg=>G g (List.mem_append.2 (.inl hg)));obtain ⟨k1,k2⟩:=Gt hV as r2 (fun g hg=>G g (List.mem_append.2 (.inr hg)));refine ⟨by simp [A.RX,k1],?_⟩;intro i x y hx hy;cases i with
  | zero=>simp [A.RX] at hx hy;subst hx hy;exact h1
  | succ i=>exact k2 i x y (by simpa [A.RX] using hx) (by simpa using hy)
end
mutual
theorem Dv {h:Id→Option Blk}:∀ (a:A) {v:Value} {gs:List BZ},bZ P V h μ a v gs→a.qU=false→dQ P V h μ a v
 | .own sz xs,v,gs,R,e=>by simp [A.qU] at e
 | .agg cs,v,gs,R,e=>by
  simp only [bZ] at R;obtain ⟨vs,rfl,hp,hr⟩:=R;exact .agg cs vs (by simpa using (nK cs hr)) (fun i d v hd hv=>zF cs hr e i d v hd (by simpa using hv)) hp
 | .tup cs,v,gs,R,e=>by
  simp only [bZ] at R;obtain ⟨vs,rfl,hr⟩:=R;exact .tup cs vs (by simpa using (nK cs hr)) (fun i d v hd hv=>zF cs hr e i d v hd (by simpa using hv))
 | .undef,v,gs,R,e=>by simp only [bZ] at R;exact R.2
 | .unk,v,gs,R,e=>by simp only [bZ] at R;exact R.2
 | .d x,v,gs,R,e=>by simp only [bZ] at R;exact R.2
 | .tight x,v,gs,R,e=>by simp only [bZ] at R;exact R.2
 | .ref _ _ _ _,v,gs,R,e=>by simp only [bZ] at R;exact R.2
 | .rcap _ _ _ _ _,v,gs,R,e=>by simp only [bZ] at R;exact R.2
 | .bptr _ _,v,gs,R,e=>by simp only [bZ] at R;exact R.2
 | .bref _ _,v,gs,R,e=>by simp only [bZ] at R;exact R.2
 | .nref _ _,v,gs,R,e=>by simp only [bZ] at R;exact R.2
 | .nptr _ _ _ _,v,gs,R,e=>by simp only [bZ] at R;exact R.2
 | .tref _ _ _,v,gs,R,e=>by simp only [bZ] at R;exact R.2
 | .tptr _ _ _,v,gs,R,e=>by simp only [bZ] at R;exact R.2
 | .eptr _ _ _ _,v,gs,R,e=>by simp only [bZ] at R;exact R.2
 | .pimm _ _,v,gs,R,e=>by simp only [bZ] at R;exact R.2
 | .mref _,v,gs,R,e=>by simp only [bZ] at R;exact R.2
 | .iter _,v,gs,R,e=>by simp only [bZ] at R;exact R.2
 | .clo _ _,v,gs,R,e=>by simp only [bZ] at R;exact R.2
theorem zF {h:Id→Option Blk}:∀ (as:List A) {vs:List Value} {gs:List BZ},iT P V h μ as vs gs→A.xG as=false →
  ∀ (i:Nat) a v,as[i]?=some a→vs[i]?=some v→dQ P V h μ a v
 | [],vs,gs,R,e=>fun i a v ha=>by simp at ha
 | a::as,vs,gs,R,e=>by
  simp only [iT] at R;obtain ⟨v,vr,g1,g2,rfl,rfl,r1,r2⟩:=R;simp only [A.xG,Bool.or_eq_false_iff] at e;intro i x y hx hy;cases i with
  | zero=>simp at hx hy;subst hx hy;exact Dv a r1 e.1
  | succ i=>exact zF as r2 e.2 i x y (by simpa using hx) (by simpa using hy)
end
def BA (P:Program) (V:View) (μ:Id→Pl) (w:World) (out:Out) (r:Ret) (cv:Value) (w':World):Prop :=
 ∃ V' μ' gs,bZ P V' (⟨[],out,r.chg⟩:S).get μ' r.val cv gs∧Inv P V' (⟨[],out,r.chg⟩:S).get μ' w'∧Loose P V' (⟨[],out,r.chg⟩:S).get μ' w' w.heap.size gs ∧
  Evo V (oI out).get μ w V' (⟨[],out,r.chg⟩:S).get μ' w'
def FH (c:Cfg) (call:FuncId→List A→Out→Option Ret):Prop :=
 ∀ g args out r,call g args out=some r→∀ V μ w (cargs:List Value),Inv c.P V (oI out).get μ w→dG c.P V (oI out).get μ args cargs →
  Calls c.P g cargs.toArray w (fun e w'=>match e with | .returned cv=>BA c.P V μ w out r cv w' | _=>False)
def Left (P:Program) (V:View) (s:S) (μ:Id→Pl) (w:World) (s':S) (x:A) (cv:Value) (w':World):Prop :=
 ∃ V' μ',dQ P V' s'.get μ' x cv∧Inv P V' s'.get μ' w'∧Evo V s.get μ w V' s'.get μ' w'∧s'.out=s.out
theorem yP (s:S) (o:Option S):(Delta.of o).apply s=S.ok o s:=by cases o<;>rfl
theorem QZ {c:Cfg} {f:FuncId} {call:FuncId→List A→Out→Option Ret} (HC:FH c call) {s:S} (I:Inv c.P V s.get μ w) {dst:Option Nat} {g:FuncId} {caps args:List A} {ccaps cargs:List Value}
  {x:A} {dl:Delta} (e:rD c f call s dst g caps args=some (x,dl)) (Ra:dG c.P V s.get μ args cargs) (Rc:dG c.P V s.get μ caps ccaps) :
  Calls c.P g (cargs++ccaps).toArray w (fun en w'=>match en with | .returned cv=>Left c.P V s μ w (dl.apply s) x cv w' | _=>False):=by
 unfold rD at e;cases ha:pY c g 0 s args with
 | none=>rw [ha] at e;cases e
 | some r0 =>
  obtain ⟨args',o⟩:=r0;rw [ha] at e;simp only at e;obtain ⟨V1,L,R1⟩:=PO args I ha Ra;cases hr:call g (args'++caps) ((S.ok o s).loc::(S.ok o s).cur) with
  | none=>rw [hr] at e;cases e
  | some r =>
   rw [hr] at e;have hcall:=HC g _ _ r hr V1 μ w (cargs++ccaps) (by rw [D9];exact L.inv) (by rw [D9];exact R1.append (Rc.mono L.evo));refine Calls.mono hcall ?_;intro en w' hen;cases en with
   | panicked ch=>exact hen
   | outgrown=>exact hen
   | returned cv =>
    simp only at hen ⊢;obtain ⟨V',μ',gs,h1,h2,h3,h4⟩:=hen;obtain ⟨hb,hbd⟩:=QD (S.ok o s) r.chg;rw [hb] at h1 h2 h3 h4;rw [D9] at h4;have hE:=L.evo.trans h4;simp only at e;generalize ho2:Gu (S.ok o s) o r.chg=o2 at e;have hs2:S.ok o2 s=EN (S.ok o s) r.chg:=by
     rw [← ho2];unfold EN Gu;cases r.chg<;>rfl
    have hdep:(S.ok o2 s).out=s.out:=by rw [hs2,hbd];exact L.dep
    rw [← hs2] at h1 h2 h3 hE;split at e
    ·rename_i hno
     cases e;exact ⟨V',μ',by rw [yP];exact Dv _ h1 hno,by rw [yP];exact h2,by rw [yP];exact hE,by rw [yP];exact hdep⟩
    ·cases e
    ·rename_i t hno
     split at e
     ·cases e;rw [yP];obtain ⟨V2,k1,k2,k3,k4,k5⟩:=FN gs h2 h3;refine ⟨V2,μ',O3 k1 _ h1 k5,k2,⟨hE.os,hE.tape,hE.output,hE.size,hE.rest,hE.view.trans k1,?_,by rw [k4];exact hE.newm,hE.place,hE.keep⟩,hdep⟩;intro b cc v hv;rcases k3 b cc v hv with q | ⟨g',q1,q2,q3⟩
      ·exact hE.newc b cc v q
      ·subst q3;exact .inr (.inr (h3.free g' q1 q2).2.1)
     ·have key:dl.apply s=(S.ok o2 s).plus (jh s.dep t (kR (S.ok o2 s).loc t) r.val).2∧x=(jh s.dep t (kR (S.ok o2 s).loc t) r.val).1:=by
       cases ho:o2<;>(rw [ho] at e;cases e;exact ⟨rfl,rfl⟩)
      obtain ⟨e1,e2⟩:=key;obtain ⟨μ2,I2,S2,G2,_,_,E2⟩:=IE t h2 gs (kR (S.ok o2 s).loc t) h3 (Nat.le_refl _);have hdep':(S.ok o2 s).dep=s.dep:=congrArg List.length hdep;rw [hdep'] at G2;have hloc:(jh s.dep t (kR (S.ok o2 s).loc t) r.val).2=jo t (kR (S.ok o2 s).loc t) gs :=
       (F7 S2 r.val h1 (dep:=s.dep) (t:=t) (n:=kR (S.ok o2 s).loc t) G2).2
      have hrel:=(F7 S2 r.val h1 (dep:=s.dep) (t:=t) (n:=kR (S.ok o2 s).loc t) G2).1;rw [e1,e2,hloc];exact ⟨V',μ2,hrel,I2,E2 _ _ _ _ hE (Nat.le_refl _),hdep⟩
end
end Go.Lx
namespace Go.Lx
def vT (P:Program) (g:FuncId):Prop:=∃ fn,P.funcs[g]?=some fn∧fn.name ≠ "runtime.NumGoroutine" ∧ fn.body≠none
def Og (c:Cfg) (call:FuncId→List A→Out→Option Ret):Prop:=∀ g args out r,call g args out=some r→vT c.P g
section
variable {c:Cfg} {V:View} {μ:Id→Pl} {w:World}
theorem UQ {o:Oper} {a:Act} {K:Act→World→Prop} {Q:Exit→Act→World→Prop} {m:Sem Value} (hx:execOp a.eval o=(do pure (.value (← m)))) {cv:Value} {w':World} (hr:m.run c.P w = .ok cv w')
  (h:K (a.put o.dst cv) w'):o.wp c.P a w K Q:=by
 unfold Oper.wp;rw [hx];simp [hr,Oper.upon];exact h
theorem VA {o:Oper} {a:Act} {K:Act→World→Prop} {Q:Exit→Act→World→Prop} {m:Sem Unit} (hx:execOp a.eval o=(do m;pure .skip)) {w':World} (hr:m.run c.P w = .ok () w')
  (h:K (a.put o.dst undef) w'):o.wp c.P a w K Q:=by
 unfold Oper.wp;rw [hx];simp [hr,Oper.upon];exact h
theorem Uz {o:Oper} {a:Act} {K:Act→World→Prop} {Q:Exit→Act→World→Prop} {cv:Value} (hx:(execOp a.eval o).run c.P w = .ok (.value cv) w) (h:K (a.put o.dst cv) w):o.wp c.P a w K Q:=by
 unfold Oper.wp;rw [hx];exact h
theorem Wp {o:Oper} {a:Act} {K:Act→World→Prop} {Q:Exit→Act→World→Prop} {g:FuncId} {args:Array Value} (hx:(execOp a.eval o).run c.P w = .ok (.enter g args) w)
  {R:Value→World→Prop} (hc:Calls c.P g args w (fun e w'=>match e with | .returned cv=>R cv w' | _=>False)) (h:∀ cv w',R cv w'→K (a.put o.dst cv) w'):o.wp c.P a w K Q:=by
 unfold Oper.wp;rw [hx];exact Calls.mono hc (fun e w' he=>by cases e with | returned v=>exact h v w' he | panicked ch=>exact he.elim | outgrown=>exact he.elim)
theorem AA {g:FuncId} (h:vT c.P g) (args:Array Value):(callFunc g args).run c.P w = .ok (.enter g args) w:=by
 obtain ⟨fn,h1,h2,h3⟩:=h;simp [callFunc,h1,h2,h3]
theorem pz {h:Id→Option Blk} {env:Nat→Option A} {ρ:Operand→Value} (hρ:∀ x v,az env x=some v→dQ c.P V h μ v (ρ x)) :
  ∀ {xs:List Operand} {vs:List A},bD env xs=some vs→dG c.P V h μ vs (xs.map ρ)
 | [],vs,e=>by simp only [bD] at e;cases e;exact .nil
 | x::xs,vs,e=>by
  simp only [bD] at e;split at e
  ·rename_i v vs' h1 h2
   cases e;exact .cons v _ _ _ (hρ x v h1) (pz hρ h2)
  ·cases e
theorem xO {h:Id→Option Blk} {env:Nat→Option A} {ρ:Operand→Value} (hρ:∀ x v,az env x=some v→dQ c.P V h μ v (ρ x)) :
  ∀ {xs:List (Nat×Operand)} {vs:List (Nat×A)},jE env xs=some vs→og c.P V h μ vs (xs.map (fun p=>(p.1,ρ p.2)))
 | [],vs,e=>by simp only [jE] at e;cases e;exact .nil
 | (i,x)::xs,vs,e=>by
  simp only [jE] at e;split at e
  ·rename_i v vs' h1 h2
   cases e;exact .cons i v _ _ _ (hρ x v h1) (xO hρ h2)
  ·cases e
theorem Left.pure {s:S} (I:Inv c.P V s.get μ w) {x:A} {cv:Value} (H:dQ c.P V s.get μ x cv):Left c.P V s μ w (Delta.same.apply s) x cv w:=⟨V,μ,H,I, .refl _ _ _ _,rfl⟩
theorem UM {h:Id→Option Blk} {y:A} {vs:List Value} (R:dG c.P V h μ [y] vs):∃ v,vs=[v]∧dQ c.P V h μ y v:=by
 cases R with
 | cons _ v _ _ r1 R=>cases R;exact ⟨v,rfl,r1⟩
theorem VG {h:Id→Option Blk} {y z:A} {vs:List Value} (R:dG c.P V h μ [y,z] vs):∃ v u,vs=[v,u]∧dQ c.P V h μ y v∧dQ c.P V h μ z u:=by
 cases R with
 | cons _ v _ _ r1 R =>
  obtain ⟨u,rfl,r2⟩:=UM R;exact ⟨v,u,rfl,r1,r2⟩
theorem GG {s:S} (I:Inv c.P V s.get μ w) {dst:Option Nat} {b:Builtin} {ts:Array TypeId} {ty:TypeId} {consts:Array Bool} {args:List A} {cargs:List Value} {x:A} {dl:Delta}
  (e:iU c s dst b ts.toList args=some (x,dl)) (R:dG c.P V s.get μ args cargs) :
  ∃ m:Sem Value,builtin b ts ty consts cargs.toArray=(do pure (.value (← m)))∧Done c.P V s μ w (dl.apply s) x (m.run c.P w):=by
 have hts:ts=ts.toList.toArray:=by simp
 unfold iU at e;split at e
 ·rename_i t t2 y z hl
  rw [hts,hl];obtain ⟨v1,v2,rfl,r1,r2⟩:=VG R;split at e
  ·rename_i h2
   exact ⟨_,rfl,Hz I e h2 r1 r2 ty⟩
  ·cases e
 ·rename_i t tr y hl
  rw [hts,hl];obtain ⟨v1,rfl,r1⟩:=UM R;cases hlen:Gm c s t y with
  | none=>rw [hlen] at e;cases e
  | some d =>
   rw [hlen] at e;cases e;obtain ⟨v,k1,k2⟩:=PN (ts:=tr) (ty:=ty) I hlen r1;exact ⟨_,rfl, .pure I k1 (.d _ _ k2)⟩
 ·rename_i t t2 tr y z hl
  rw [hts,hl];obtain ⟨v1,v2,rfl,r1,r2⟩:=VG R;exact ⟨_,rfl,Nv I e r1 r2 ty⟩
 ·rename_i t tr y hl
  rw [hts,hl];obtain ⟨v1,rfl,r1⟩:=UM R;exact ⟨_,rfl,JB I e r1 ty⟩
 ·rename_i y rest
  cases hm:oV true y rest with
  | none=>rw [hm] at e;cases e
  | some d =>
   rw [hm] at e;cases e;obtain ⟨v,k1,k2⟩:=Qm (w:=w) (ts:=ts) (ty:=ty) hm R;exact ⟨_,rfl, .pure I k1 (.d _ _ k2)⟩
 ·rename_i y rest
  cases hm:oV false y rest with
  | none=>rw [hm] at e;cases e
  | some d =>
   rw [hm] at e;cases e;obtain ⟨v,k1,k2⟩:=P6 (w:=w) (ts:=ts) (ty:=ty) hm R;exact ⟨_,rfl, .pure I k1 (.d _ _ k2)⟩
 ·rename_i t tr hl
  rw [hts,hl];obtain ⟨v1,rfl,r1⟩:=UM R;cases hel:qE c.P t with
  | none=>rw [hel] at e;cases e
  | some el =>
   rw [hel] at e;cases e;have hu:=lH hel;have r2:=r1.dOf;cases r2;exact ⟨_,rfl, .pure (cv := .int .i64 0) I (by simp [Builtin.cap_,bF hu,goInt]) (.d _ _ (.int _ _))⟩
 ·rename_i t tr i off len full k hl
  rw [hts,hl];obtain ⟨v1,rfl,r1⟩:=UM R;cases hel:qE c.P t with
  | none=>rw [hel] at e;cases e
  | some el =>
   rw [hel] at e;cases e;have hu:=lH hel;cases r1;exact ⟨_,rfl, .pure (cv := .int .i64 k) I (by simp [Builtin.cap_,bF hu,goInt]) (.d _ _ (.int _ _))⟩
 ·cases e
end
end Go.Lx
namespace Go.Lx
section
variable {c:Cfg} {V:View} {μ:Id→Pl} {w:World}
theorem vN {o:Oper} {a:Act} {K:Act→World→Prop} {Q:Exit→Act→World→Prop} {s s':S} {x:A} {m:Sem Value} (hx:execOp a.eval o=(do pure (.value (← m)))) (D:Done c.P V s μ w s' x (m.run c.P w))
  (hK:∀ cv w',Left c.P V s μ w s' x cv w'→K (a.put o.dst cv) w'):o.wp c.P a w K Q:=by
 obtain ⟨cv,w',V',μ',h1,h2,h3,h4,h5⟩:=D;exact UQ hx h1 (hK cv w' ⟨V',μ',h2,h3,h4,h5⟩)
theorem ul {o:Oper} {a:Act} {K:Act→World→Prop} {Q:Exit→Act→World→Prop} {s:S} (I:Inv c.P V s.get μ w) {x:A} {m:Sem Value} (hx:execOp a.eval o=(do pure (.value (← m))))
  (h:∃ v,m.run c.P w = .ok v w∧dQ c.P V s.get μ x v) (hK:∀ cv w',Left c.P V s μ w (Delta.same.apply s) x cv w'→K (a.put o.dst cv) w'):o.wp c.P a w K Q:=by
 obtain ⟨v,h1,h2⟩:=h;exact UQ hx h1 (hK v w (Left.pure I h2))
theorem JY {h:Id→Option Blk} {env:Nat→Option A} {ρ:Operand→Value} (hρ:∀ x v,az env x=some v→dQ c.P V h μ v (ρ x)) {lo:Option Operand} {l:Option A}
  (e:(match lo with | none=>some none | some a=>(az env a).map some)=some l):pO c.P V h μ l (lo.map ρ):=by
 cases lo with
 | none=>cases e;exact True.intro
 | some x =>
  simp only at e;cases hx:az env x with
  | none=>rw [hx] at e;cases e
  | some v=>rw [hx] at e;cases e;exact hρ x v hx
theorem V4 {o:Oper} {a:Act} {K:Act→World→Prop} {Q:Exit→Act→World→Prop} {s:S} (I:Inv c.P V s.get μ w) {x:D} {m:Sem Value} (hx:execOp a.eval o=(do pure (.value (← m))))
  (h:∃ v,m.run c.P w = .ok v w∧fG c.P V x v) (hK:∀ cv w',Left c.P V s μ w (Delta.same.apply s) (.d x) cv w'→K (a.put o.dst cv) w'):o.wp c.P a w K Q:=by
 obtain ⟨v,h1,h2⟩:=h;exact ul I hx ⟨v,h1, .d _ _ h2⟩ hK
theorem Oe {f:FuncId} {call:FuncId→List A→Out→Option Ret} (HC:FH c call) (HE:Og c call) {s:S} (I:Inv c.P V s.get μ w) {g:FuncId} {caps args:List A} {ccaps cargs:List Value} {o:Oper} {a:Act}
  {x:A} {dl:Delta} (e:rD c f call s o.dst g caps args=some (x,dl)) (Ra:dG c.P V s.get μ args cargs) (Rc:dG c.P V s.get μ caps ccaps)
  (hx:execOp a.eval o=callFunc g (cargs++ccaps).toArray) {K:Act→World→Prop} {Q:Exit→Act→World→Prop} (hK:∀ cv w',Left c.P V s μ w (dl.apply s) x cv w'→K (a.put o.dst cv) w'):o.wp c.P a w K Q:=by
 have hen:vT c.P g:=by
  unfold rD at e;split at e
  ·cases e
  ·simp only at e;split at e
   ·cases e
   ·rename_i r hr
    exact HE _ _ _ _ hr
 exact Wp (by rw [hx];exact AA hen _) (QZ HC I e Ra Rc) hK
theorem Rh {f:FuncId} {call:FuncId→List A→Out→Option Ret} (HC:FH c call) (HE:Og c call) {env:Nat→Option A} {s:S} (I:Inv c.P V s.get μ w) {o:Oper} {a:Act}
  (hρ:∀ x v,az env x=some v→dQ c.P V s.get μ v (a.eval x)) {x:A} {dl:Delta} (e:kM c f call env s o=some (x,dl)) {K:Act→World→Prop} {Q:Exit→Act→World→Prop}
  (hK:∀ cv w',Left c.P V s μ w (dl.apply s) x cv w'→K (a.put o.dst cv) w'):o.wp c.P a w K Q:=by
 unfold kM at e;cases hop:o.op with
 | move y =>
  rw [hop] at e;simp only at e;cases hy:az env y with
  | none=>rw [hy] at e;cases e
  | some v =>
   rw [hy] at e;cases e;exact Uz (cv:=a.eval y) (by simp [execOp,hop]) (hK _ _ (Left.pure I (hρ y _ hy)))
 | assign y =>
  rw [hop] at e;simp only at e;split at e
  ·rename_i v0 t hdst hy
   split at e
   ·cases e;exact Uz (cv:=a.eval (.const v0)) (by simp [execOp,hop]) (hK _ _ (Left.pure I (hρ _ _ hy)))
   ·split at e
    ·rename_i sz hsz
     cases e;have hrel:=hρ _ _ hy;have hv:a.eval (.const v0) = .slice none 0 0:=by
      have:=hrel.dOf;generalize a.eval (.const v0)=q at this;cases this;rfl
     obtain ⟨cv,w',V',μ',h1,h2,h3,h4,h5⟩:=EF I t sz;cases h1;have hx:(execOp a.eval o).run c.P w = .ok (.value (.slice none 0 0)) w:=by simp [execOp,hop,hv]
     exact Uz hx (hK _ _ ⟨V',μ',h2,h3,h4,h5⟩)
    ·cases e;exact Uz (cv:=a.eval (.const v0)) (by simp [execOp,hop]) (hK _ _ (Left.pure I (hρ _ _ hy)))
  ·rename_i yy _ _ _ _ hh _
   cases e;exact Uz (cv:=a.eval yy) (by simp [execOp,hop]) (hK _ _ (Left.pure I (hρ _ _ hh)))
  ·cases e
 | pick k y z =>
  rw [hop] at e;simp only at e;split at e
  ·rename_i b hk
   cases hv:az env (if b=true then y else z) with
   | none=>rw [hv] at e;cases e
   | some v =>
    rw [hv] at e;cases e;have hkr:=(hρ k _ hk).dOf;have hkv:a.eval k = .bool b:=by
     generalize a.eval k=q at hkr;cases hkr;rfl
    refine Uz (cv:=a.eval (if b=true then y else z)) ?_ (hK _ _ (Left.pure I (hρ _ _ hv)));cases b<;>simp [execOp,hop,hkv,asBool]
  ·cases e
 | alloc t =>
  rw [hop] at e;simp only at e;exact vN (by simp only [execOp,hop]) (Ky I e) hK
 | box t y =>
  rw [hop] at e;simp only at e;split at e
  ·rename_i v d hy hd
   split at e
   ·rename_i hs
    cases e;exact vN (by simp only [execOp,hop]) (O4 I d t (hρ y v hy) hs) hK
   ·cases e
  ·cases e
 | build t parts =>
  rw [hop] at e;simp only at e;split at e
  ·rename_i ps hps
   cases hb:xX c.P t ps with
   | none=>rw [hb] at e;cases e
   | some v =>
    rw [hb] at e;cases e;exact ul I (m:=Instr.build t (parts.map fun p=>(p.1,a.eval p.2))) (by simp only [execOp,hop]) (Ku (by simpa using xO hρ hps) hb) hK
  ·cases e
 | buildSlice t len parts =>
  rw [hop] at e;simp only at e;split at e
  ·rename_i ps hps
   exact vN (m:=Instr.buildSlice t len (parts.map fun p=>(p.1,a.eval p.2))) (by simp only [execOp,hop]) (Bv I (by simpa using xO hρ hps) e) hK
  ·cases e
 | load t y =>
  rw [hop] at e;simp only at e;split at e
  ·rename_i p sz hp hsz
   cases hl:lw s (kZ c.P t) sz p with
   | none=>rw [hl] at e;cases e
   | some v =>
    rw [hl] at e;cases e;exact ul I (by simp only [execOp,hop]) (Fv I hsz hl (hρ y p hp)) hK
  ·cases e
 | store t y z =>
  rw [hop] at e;simp only at e;split at e
  ·rename_i p v sz hp hv hsz
   cases hl:uj s sz p v with
   | none=>rw [hl] at e;cases e
   | some s' =>
    rw [hl] at e;cases e;obtain ⟨w',V',h1,h2,h3,h4⟩:=JL I hsz hl (hρ y p hp) (hρ z v hv);exact VA (by simp only [execOp,hop]) h1 (hK _ _ ⟨V',μ, .undef,h2,h3,h4⟩)
  ·cases e
 | nilCheck y =>
  rw [hop] at e;simp only at e;have fin:∀ v,az env y=some v→(execOp a.eval o).run c.P w = .ok (.value (a.eval y)) w→(x,dl)=(v,Delta.same)→o.wp c.P a w K Q:=by
   intro v hv hr hx;cases hx;exact Uz hr (hK _ _ (Left.pure I (hρ y _ hv)))
  split at e
  ·rename_i i off hy
   cases e;refine fin _ hy ?_ rfl;have:=hρ y _ hy;generalize hq:a.eval y=q at this;cases this;simp [execOp,hop,hq]
  ·rename_i i ix off len hy
   cases e;refine fin _ hy ?_ rfl;have:=hρ y _ hy;generalize hq:a.eval y=q at this;cases this;simp [execOp,hop,hq]
  ·rename_i i ix off len hy
   cases e;refine fin _ hy ?_ rfl;have:=hρ y _ hy;generalize hq:a.eval y=q at this;cases this;simp [execOp,hop,hq]
  ·rename_i d off hy
   cases e;refine fin _ hy ?_ rfl;have:=hρ y _ hy;generalize hq:a.eval y=q at this;cases this;simp [execOp,hop,hq]
  ·rename_i d hy
   cases e;refine fin _ hy ?_ rfl;have:=(hρ y _ hy).dOf;generalize hq:a.eval y=q at this;cases this;simp [execOp,hop,hq]
  ·rename_i g hy
   cases e;refine fin _ hy ?_ rfl;have:=(hρ y _ hy).dOf;generalize hq:a.eval y=q at this;cases this;simp [execOp,hop,hq]
  ·rename_i g caps hy
   cases e;refine fin _ hy ?_ rfl;have:=hρ y _ hy;generalize hq:a.eval y=q at this;cases this;simp [execOp,hop,hq]
  ·cases e
 | binOp op t y z t2 =>
  rw [hop] at e;simp only at e;split at e
  ·rename_i u v hu hv
   cases hb:Dj c.P op t (iJ s u) (iJ s v) with
   | none=>rw [hb] at e;cases e
   | some d =>
    rw [hb] at e;cases e;exact V4 I (by simp only [execOp,hop]) (O5 I hb (hρ y u hu) (hρ z v hv) y z) hK
  ·cases e
 | unOp op t y =>
  rw [hop] at e;simp only at e;split at e
  ·rename_i u hu
   cases hb:UT op u with
   | none=>rw [hb] at e;cases e
   | some d =>
    rw [hb] at e;cases e;exact V4 I (by simp only [execOp,hop]) (Q8 hb (hρ y u hu)) hK
  ·cases e
 | convert src dst y =>
  rw [hop] at e;simp only at e;split at e
  ·rename_i u hu
   cases hb:Hw c.P src dst u with
   | none=>rw [hb] at e;cases e
   | some d =>
    rw [hb] at e;cases e;exact V4 I (by simp only [execOp,hop]) (Nz hb (hρ y u hu)) hK
  ·cases e
 | makeFunc fn first captured =>
  rw [hop] at e;cases fn with
  | func g =>
   simp only at e;split at e
   ·rename_i hf
    have hfe:first=#[]:=Array.eq_empty_of_size_eq_zero hf
    subst hfe;have e0:(#[]:Array Operand).map a.eval=#[]:=by simp
    split at e
    ·rename_i hc
     cases e;have R:=pz hρ hc;have hm:captured.map a.eval=#[]:=by
      apply Array.ext';rw [Array.toList_map];generalize captured.toList.map a.eval=l at R;cases R;rfl
     exact UQ (m:=Instr.makeFunc (.func g) #[] #[]) (by simp only [execOp,hop,hm,e0]) (by simp [Instr.makeFunc]) (hK _ _ (Left.pure I (.d _ _ (.fn g))))
    ·rename_i vs hne hc
     cases e;have R:=pz hρ hc;exact UQ (cv := .func (.func g) #[] (captured.map a.eval)) (m:=Instr.makeFunc (.func g) #[] (captured.map a.eval)) (by simp only [execOp,hop,e0]) (by simp [Instr.makeFunc])
      (hK _ _ (Left.pure I (.clo g _ _ (by have:=R.length;simpa using this) (fun i d v hd hv=>R.get i d v hd (by simpa using hv)))))
    ·cases e
   ·cases e
  | _=>cases e
 | makeMap t r =>
  rw [hop] at e;simp only at e;split at e
  ·rename_i kt el d hu hd
   cases e;exact vN (by simp only [execOp,hop];rfl) (GX I d t kt) hK
  ·cases e
 | makeSlice t l k =>
  rw [hop] at e;simp only at e;split at e
  ·rename_i n m hn hm
   exact vN (by simp only [execOp,hop]) (Dk I e (hρ _ _ hn) (hρ _ _ hm)) hK
  ·cases e
 | slice t y lo hi mx =>
  rw [hop] at e;simp only at e;split at e
  ·rename_i v l h m hv hl hh hm
   exact vN (by simp only [execOp,hop]) (J7 I e (hρ _ _ hv) (JY hρ hl) (JY hρ hh) (JY hρ hm)) hK
  ·cases e
 | fieldAddr t y i =>
  rw [hop] at e;simp only at e;split at e
  ·rename_i v hv
   cases hb:kK c t v i with
   | none=>rw [hb] at e;cases e
   | some d =>
    rw [hb] at e;cases e;exact ul I (by simp only [execOp,hop]) (Cj (hρ _ _ hv) hb) hK
  ·cases e
 | field t y i =>
  rw [hop] at e;simp only at e;split at e
  ·rename_i v hv
   cases hb:CP c t v i with
   | none=>rw [hb] at e;cases e
   | some d =>
    rw [hb] at e;cases e;exact ul I (by simp only [execOp,hop]) (Jv hb (hρ _ _ hv)) hK
  ·cases e
 | indexAddr t y ix =>
  rw [hop] at e;simp only at e;split at e
  ·rename_i v n hv hn
   cases hb:di c s t v n with
   | none=>rw [hb] at e;cases e
   | some d =>
    rw [hb] at e;cases e;exact ul I (by simp only [execOp,hop]) (Di I hb (hρ _ _ hv) (hρ _ _ hn)) hK
  ·cases e
 | index t y ix =>
  rw [hop] at e;simp only at e;split at e
  ·rename_i v n hv hn
   cases hb:CW c t v n with
   | none=>rw [hb] at e;cases e
   | some d =>
    rw [hb] at e;cases e;exact ul I (by simp only [execOp,hop]) (JG hb (hρ _ _ hv) (hρ _ _ hn)) hK
  ·cases e
 | lookup t m k ok =>
  rw [hop] at e;simp only at e;split at e
  ·rename_i v n hv hn
   cases hb:zk c s t v n ok with
   | none=>rw [hb] at e;cases e
   | some d =>
    rw [hb] at e;cases e;exact ul I (by simp only [execOp,hop]) (Ik I hb (hρ _ _ hv) (hρ _ _ hn)) hK
  ·cases e
 | mapUpdate t m k y =>
  rw [hop] at e;simp only at e;split at e
  ·rename_i v n u hv hn hu
   cases hb:nI c s t v n u with
   | none=>rw [hb] at e;cases e
   | some d =>
    rw [hb] at e;cases e;obtain ⟨w',V',h1,h2,h3,h4⟩:=vV I hb (hρ _ _ hv) (hρ _ _ hn) (hρ _ _ hu);exact VA (by simp only [execOp,hop]) h1 (hK _ _ ⟨V',μ, .undef,h2,h3,h4⟩)
  ·cases e
 | insert t m k y =>
  rw [hop] at e;simp only at e;split at e
  ·rename_i v n u hv hn hu
   cases hb:nI c s t v n u with
   | none=>rw [hb] at e;cases e
   | some d =>
    rw [hb] at e;cases e;obtain ⟨w',V',h1,h2,h3,h4⟩:=vV I hb (hρ _ _ hv) (hρ _ _ hn) (hρ _ _ hu);exact VA (by simp only [execOp,hop]) h1 (hK _ _ ⟨V',μ, .undef,h2,h3,h4⟩)
  ·cases e
 | extract y i =>
  rw [hop] at e;simp only at e;split at e
  ·rename_i vs hv
   cases hb:vs[i]? with
   | none=>rw [hb] at e;cases e
   | some d =>
    rw [hb] at e;cases e;refine ul I (m:=Instr.extract (a.eval y) i) (by simp only [execOp,hop]) ?_ hK;have:=hρ y _ hv;generalize hq:a.eval y=q at this;cases this with
    | tup _ us hn hc =>
     have hl:i < us.size:=by rw [hn];exact (List.getElem?_eq_some_iff.1 hb).1
     exact ⟨us[i],by simp [Instr.extract,hl],hc i _ _ hb (Array.getElem?_eq_getElem hl)⟩
  ·cases e
 | call k =>
  rw [hop] at e;simp only [yL] at e;split at e
  ·cases e
  ·rename_i args hargs
   have R:=pz hρ hargs;have hmap:k.args.map a.eval=(k.args.toList.map a.eval).toArray:=by
    apply Array.ext';simp
   split at e
   ·rename_i b hb
    obtain ⟨m,h1,h2⟩:=GG (ty:=o.type) (consts:=(k.args.map fun | .const _=>true | _=>false)) I e R;refine vN (m:=m) ?_ h2 hK;simp only [execOp,hop,resolve,hb];simp only [pure_bind,invoke];rw [hmap];exact h1
   ·rename_i y hcal
    split at e
    ·rename_i g hy
     have hg:=(hρ y _ hy).dOf;have hgv:a.eval y = .func (.func g) #[] #[]:=by
      generalize a.eval y=q at hg;cases hg;rfl
     refine Oe HC HE I e R .nil ?_ hK;simp [execOp,hop,resolve,hcal,hgv,Deferred.ofValue,invoke,hmap]
    ·rename_i g caps hy
     have hg:=hρ y _ hy;generalize hq:a.eval y=q at hg;cases hg with
     | clo _ _ us hn hc =>
      refine Oe HC HE I e R (ccaps:=us.toList) (.of (by simpa using hn) (fun i d v hd hv=>hc i d v hd (by simpa using hv))) ?_ hK;have happ:((k.args.toList.map a.eval).toArray++us:Array Value)=(k.args.toList.map a.eval++us.toList).toArray:=by apply Array.ext';simp
      simp [execOp,hop,resolve,hcal,hq,Deferred.ofValue,invoke,hmap,happ]
    ·cases e
   ·cases e
 | _=>rw [hop] at e;cases e
end
end Go.Lx
namespace Go.Lx
section
variable {P:Program}
def nU (P:Program) (V:View) (h:Id→Option Blk) (μ:Id→Pl) (env:Env) (tmps:Array Value):Prop :=
 ∀ t v,look env t=some v→dQ P V h μ v (tmps.getD t undef)
structure nN where
 V:View
 h:Id→Option Blk
 μ:Id→Pl
 w:World
 out:Out
 n:Nat
 low:∀ i b,h i=some b→i.d < out.length
def St (P:Program) (O:nN) (env:Env) (s:S) (a:Act) (w:World):Prop :=
 ∃ V μ,Inv P V s.get μ w∧nU P V s.get μ env a.tmps∧Evo O.V O.h O.μ O.w V s.get μ w∧s.out=O.out∧a.tmps.size=O.n∧a.defers=[]
theorem nU.evo {V V':View} {h h':Id→Option Blk} {μ μ':Id→Pl} {w w':World} {env:Env} {tmps:Array Value} (R:nU P V h μ env tmps) (E:Evo V h μ w V' h' μ' w'):nU P V' h' μ' env tmps :=
 fun t v hv=>E.wU (R t v hv)
theorem nU.put {V:View} {h:Id→Option Blk} {μ:Id→Pl} {env:Env} {a:Act} (R:nU P V h μ env a.tmps) {dst:Option Nat} (hd:∀ d,dst=some d→d < a.tmps.size) {v:A} {cv:Value} (H:dQ P V h μ v cv) :
  nU P V h μ (Es dst v env) (a.put dst cv).tmps:=by
 cases dst with
 | none=>exact R
 | some d =>
  intro t x hx;simp only [Es,look] at hx;have hl:=hd d rfl;by_cases e:t=d
  ·subst e;rw [if_pos rfl] at hx;cases hx;have:(a.put (some t) cv).tmps.getD t undef=cv:=by simp [Act.put,hl]
   rw [this];exact H
  ·rw [if_neg e] at hx;have:(a.put (some d) cv).tmps.getD t undef=a.tmps.getD t undef:=by
    simp [Act.put,Array.getElem?_setIfInBounds_ne (fun q=>e q.symm)]
   rw [this];exact R t x hx
theorem zg (a:Act) (dst:Option Nat) (v:Value):(a.put dst v).tmps.size=a.tmps.size:=by cases dst<;>simp [Act.put]
theorem put_defers (a:Act) (dst:Option Nat) (v:Value):(a.put dst v).defers=a.defers:=by cases dst<;>rfl
theorem nU.operand {V:View} {h:Id→Option Blk} {μ:Id→Pl} {env:Env} {a:Act} (R:nU P V h μ env a.tmps):∀ x v,az (look env) x=some v→dQ P V h μ v (a.eval x):=by
 intro x v hv;cases x with
 | tmp t=>exact R t v hv
 | const k =>
  simp only [az] at hv;cases hk:ofValue k with
  | none=>rw [hk] at hv;cases hv
  | some d=>rw [hk] at hv;cases hv;exact .d _ _ (sQ hk V)
 | func f=>cases hv;exact .d _ _ (.fn f)
 | global g=>cases hv
def uA (n:Nat) (ops:List Oper):Bool:=ops.all fun o=>match o.dst with | some d=>decide (d < n) | none=>true
def codeOk (n:Nat):Code→Bool
 | .region _ ops _=>uA n ops.toList
 | .seq a b=>codeOk n a&&codeOk n b
 | .cond _ a b=>codeOk n a&&codeOk n b
 | .block _ b=>codeOk n b
 | .loop b=>codeOk n b
 | .scope b=>codeOk n b
 | _=>true
theorem sN {n:Nat} {ops:Array Oper} (h:uA n ops.toList=true) {i:Nat} {o:Oper} (ho:ops[i]?=some o) {d:Nat} (hd:o.dst=some d):d < n:=by
 have:=List.all_eq_true.1 h o (List.mem_of_getElem? (by simpa using ho:ops.toList[i]?=some o));rw [hd] at this;exact of_decide_eq_true this
theorem DZ {V:View} {h:Id→Option Blk} {μ:Id→Pl} {env:Env} {a:Act} {ops:Array Oper} (R:nU P V h μ env a.tmps) {o:Oper} {b:Bool} (e:iF ops.toList env o=some b)
  (hd:uA a.tmps.size ops.toList=true):Region.wanted o (yielded ops a.tmps)=b:=by
 unfold iF at e;unfold Region.wanted;cases hg:o.guard with
 | none=>rw [hg] at e;cases e;rfl
 | some jw =>
  obtain ⟨j,want⟩:=jw;rw [hg] at e;simp only at e ⊢;cases hj:(ops.toList[j]?).bind (·.dst) with
  | none=>rw [hj] at e;cases e
  | some d =>
   rw [hj] at e;simp only at e;have hj':(ops[j]?).bind (·.dst)=some d:=by simpa using hj
   have hdl:d < a.tmps.size:=by
    cases ho:ops[j]? with
    | none=>rw [ho] at hj';cases hj'
    | some o'=>rw [ho] at hj';exact sN hd ho hj'
   have hget:a.tmps[d]?=some (a.tmps.getD d undef):=by simp [hdl]
   split at e
   ·rename_i b' hl
    cases e;have:=(R d _ hl).dOf;generalize hq:a.tmps.getD d undef=q at this hget;cases this;simp only [yielded,hj',Option.bind_some,hget];cases b'<;>cases want<;>rfl
   ·rename_i hl
    cases e;have:=R d _ hl;generalize hq:a.tmps.getD d undef=q at this hget;cases this;simp only [yielded,hj',Option.bind_some,hget,undef];rfl
   ·cases e
structure uM (v v':A):Prop where
 ok:∀ (P:Program) (V:View) (h:Id→Option Blk) (μ:Id→Pl) (cv:Value),dQ P V h μ v cv→dQ P V h μ v' cv
 ids:∀ j,j∈v'.ids→j∈v.ids
theorem uM.refl (v:A):uM v v:=⟨fun _ _ _ _ _ h=>h,fun _ h=>h⟩
theorem uM.trans {v v' v'':A} (h:uM v v') (k:uM v' v''):uM v v'':=⟨fun P V h' μ cv r=>k.ok P V h' μ cv (h.ok P V h' μ cv r),fun j hj=>h.ids j (k.ids j hj)⟩
theorem wI {P:Program} {V:View} {x:D} {v:Value} (h:fG P V x v):fG P V (MH x) v:=by
 cases x with
 | nilsl=>cases h;exact .sl [] none 0 0 0 0 (fun _=>undef) (Nat.le_refl _) (.inl rfl) (fun i d hd=>by simp at hd) (fun i hi=>by simp at hi) (fun i hi=>by simp at hi)
 | _=>exact h
theorem CZ {P:Program} {V:View} {x:D} {v:Value} (h:fG P V x v):fG P V (qG x) v:=by
 cases x with
 | nilsl=>exact wI h
 | agg cs =>
  cases h with
  | agg _ vs hn h hp =>
   refine .agg _ vs (by simpa using hn) (fun i d v hd hv=>?_) hp;simp only [List.getElem?_map,Option.map_eq_some_iff] at hd;obtain ⟨d0,h1,rfl⟩:=hd;exact wI (h i d0 v h1 hv)
 | _=>exact h
theorem uM.nil (x:D):uM (.d x) (.d (qG x)):=⟨fun P V h μ cv r => .d _ _ (CZ r.dOf),fun j hj=>by cases hj⟩
structure bH (P:Program) (g:FuncId) (args:List A) (out:Out) (r:Ret):Prop where
 ent:vT P g
 ok:∀ V μ w (cargs:List Value),Inv P V (oI out).get μ w→dG P V (oI out).get μ args cargs →
  Calls P g cargs.toArray w (fun e w'=>match e with | .returned cv=>BA P V μ w out r cv w' | _=>False)
inductive SS:List A→List A→Prop where
 | n:SS [] []
 | c {a:A} {as as':List A} (k:SS as as'):SS (a::as) (a::as')
 | w {a a':A} {as as':List A} (h:uM a a') (k:SS as as'):SS (a::as) (a'::as')
theorem SS.rel {V:View} {h:Id→Option Blk} {μ:Id→Pl} {as as':List A} (H:SS as as'):∀ {vs:List Value},dG P V h μ as vs→dG P V h μ as' vs:=by
 induction H with
 | n=>exact fun h=>h
 | c k ih=>intro vs hv;cases hv with | cons _ _ _ _ h1 h2=>exact .cons _ _ _ _ h1 (ih h2)
 | w h k ih=>intro vs hv;cases hv with | cons _ _ _ _ h1 h2=>exact .cons _ _ _ _ (h.ok _ _ _ _ _ h1) (ih h2)
theorem bH.args {g:FuncId} {as as':List A} {out:Out} {r:Ret} (h:bH P g as' out r) (H:SS as as'):bH P g as out r :=
 ⟨h.ent,fun V μ w cargs I R=>h.ok V μ w cargs I (H.rel R)⟩
structure dR (P:Program) (env:Env) (s:S) (o:Oper) (v:A) (dl:Delta):Prop where
 ex:(∃ (c:Cfg) (f:FuncId) (call:FuncId→List A→Out→Option Ret),c.P=P∧FH c call∧Og c call∧∃ v0,kM c f call (look env) s o=some (v0,dl)∧uM v0 v) ∨
  (bI env o.op=true∧∀ (V:View) (μ:Id→Pl) (w:World),Inv P V s.get μ w→∀ (a:Act),(∀ x,x∈o.op.operands→∀ u,az (look env) x=some u→dQ P V s.get μ u (a.eval x)) →
   ∀ (K:Act→World→Prop) (Q:Exit→Act→World→Prop),(∀ cv w',Left P V s μ w (dl.apply s) v cv w'→K (a.put o.dst cv) w')→o.wp P a w K Q)
theorem dR.weak {env:Env} {s:S} {o:Oper} {v v':A} {dl:Delta} (H:dR P env s o v dl) (hw:uM v v'):dR P env s o v' dl:=by
 rcases H.ex with ⟨c,f,call,h1,h2,h3,v0,h4,h5⟩ | ⟨h1,h2⟩
 ·exact ⟨.inl ⟨c,f,call,h1,h2,h3,v0,h4,h5.trans hw⟩⟩
 ·exact ⟨.inr ⟨h1,fun V μ w I a R K Q hK=>h2 V μ w I a R K Q fun cv w' hl=>hK cv w' (by obtain ⟨V',μ',k1,k2⟩:=hl;exact ⟨V',μ',hw.ok _ _ _ _ _ k1,k2⟩)⟩⟩
theorem dR.wk {env:Env} {s:S} {o:Oper} {x x':D} {dl:Delta} (H:dR P env s o (.d x) dl) (hw:qG x=x'):dR P env s o (.d x') dl:=by
 subst hw;exact H.weak (.nil x)
theorem dR.sound {V:View} {μ:Id→Pl} {w:World} {env:Env} {s:S} {o:Oper} {v:A} {dl:Delta} (H:dR P env s o v dl) (I:Inv P V s.get μ w) {a:Act} (R:nU P V s.get μ env a.tmps)
  {K:Act→World→Prop} {Q:Exit→Act→World→Prop} (hK:∀ cv w',Left P V s μ w (dl.apply s) v cv w'→K (a.put o.dst cv) w'):o.wp P a w K Q:=by
 rcases H.ex with ⟨c,f,call,rfl,HC,HE,v0,e,hw⟩ | ⟨_,h2⟩
 case inr=>exact h2 V μ w I a (fun x _ u hu=>R.operand x u hu) K Q hK
 refine Rh HC HE I R.operand e (fun cv w' hl=>hK cv w' ?_);obtain ⟨V',μ',h1,h2⟩:=hl;exact ⟨V',μ',hw.ok _ _ _ _ _ h1,h2⟩
theorem St.op {O:nN} {env:Env} {s:S} {a:Act} {w:World} (T:St P O env s a w) {o:Oper} {v:A} {dl:Delta}
  (e:dR P env s o v dl) (hd:∀ d,o.dst=some d→d < O.n) {K:Act→World→Prop} {Q:Exit→Act→World→Prop} (hK:∀ a' w',St P O (Es o.dst v env) (dl.apply s) a' w'→K a' w') :
  o.wp P a w K Q:=by
 obtain ⟨V,μ,I,R,E,hdep,hn,hdf⟩:=T;refine e.sound I R (fun cv w' L=>hK _ _ ?_);obtain ⟨V',μ',h1,h2,h3,h4⟩:=L;exact ⟨V',μ',h2,(R.evo h3).put (by rw [hn];exact hd) h1,E.trans h3,h4.trans hdep,by rw [zg];exact hn,by rw [put_defers];exact hdf⟩
theorem St.skip {O:nN} {env:Env} {s:S} {a:Act} {w:World} (T:St P O env s a w) {dst:Option Nat} (hd:∀ d,dst=some d→d < O.n):St P O (Es dst .undef env) s (a.put dst undef) w:=by
 obtain ⟨V,μ,I,R,E,hdep,hn,hdf⟩:=T;exact ⟨V,μ,I,R.put (by rw [hn];exact hd) .undef,E,hdep,by rw [zg];exact hn,by rw [put_defers];exact hdf⟩
theorem St.guard {O:nN} {env:Env} {s:S} {a:Act} {w:World} (T:St P O env s a w) {ops:Array Oper} {o:Oper} {b:Bool} (e:iF ops.toList env o=some b) (hd:uA O.n ops.toList=true) :
  Region.wanted o (yielded ops a.tmps)=b:=by
 obtain ⟨V,μ,I,R,E,hdep,hn,hdf⟩:=T;exact DZ R e (by rw [hn];exact hd)
theorem zip_fst:∀ (n:Nat) (l:List Oper),(jO n l).map (·.1)=List.range' n l.length
 | n,[]=>rfl
 | n,o::l=>by simp [jO,zip_fst (n+1) l,List.range'_succ]
theorem Qg:∀ (n:Nat) (l:List Oper) (p:Nat×Oper),p∈jO n l→n≤p.1∧l[p.1 - n]?=some p.2
 | n,[],p,h=>by cases h
 | n,o::l,p,h=>by
  cases h with
  | head=>exact ⟨Nat.le_refl _,by simp⟩
  | tail _ h =>
   obtain ⟨h1,h2⟩:=Qg (n+1) l p h;refine ⟨by omega,?_⟩;rw [show p.1 - n=(p.1 - (n+1))+1 from by omega];simpa using h2
end
end Go.Lx
namespace Go.Lx
theorem Inv.sub {P:Program} {V:View} {h h':Id→Option Blk} {μ:Id→Pl} {w:World} (I:Inv P V h μ w) (hs:∀ i b,h' i=some b→h i=some b)
  (hc:∀ i c,h' i=some c→∀ j∈c.ids,∀ b,h j=some b→h' j=some b):Inv P V h' μ w where
 apart i j b b' hi hj:=I.apart i j b b' (hs i b hi) (hs j b' hj)
 cell:=I.cell
 map:=I.map
 tidy i c hi:=I.tidy i c (hs i _ hi)
 blk i b hi:=by
  have B:=I.blk i b (hs i b hi);cases b with
  | box cs =>
   obtain ⟨b1,b3,cells,elem,b5,b6,b7⟩:=B;exact ⟨b1,b3,cells,elem,b5,b6,fun k a v ha hv=>⟨(b7 k a v ha hv).1.mono (.refl V) (fun j hj bb hbb=>⟨bb,hc i _ hi j (lS ha hj) bb hbb, .refl _ _⟩),(b7 k a v ha hv).2⟩⟩
  | nest sz xs =>
   rcases B with B | ⟨b1,b2,b3,cells,elem,b5,b6,hpl,b7⟩
   ·exact .inl B
   ·exact .inr ⟨b1,b2,b3,cells,elem,b5,b6,hpl,fun k e he=>⟨(b7 k e he).1,fun q a v ha hv=>((b7 k e he).2 q a v ha hv).mono (.refl V) (fun j hj bb hbb=>⟨bb,hc i _ hi j (tV he ha hj) bb hbb, .refl _ _⟩)⟩⟩
  | arr _ _ _=>exact B
  | map _ _ _=>exact B
  | fam _=>exact B.elim
  | gap=>exact B
  | tail _ _ _=>exact B
theorem Evo.sub {V V0:View} {h h' h0:Id→Option Blk} {μ μ0:Id→Pl} {w w0:World} (E:Evo V0 h0 μ0 w0 V h μ w) (hs:∀ i b,h' i=some b→h i=some b) (hk:∀ i b,h0 i=some b→h' i=h i):Evo V0 h0 μ0 w0 V h' μ w :=
 ⟨E.os,E.tape,E.output,E.size,E.rest,E.view,E.newc,E.newm,fun j x hx hn=>E.place j x (hs j x hx) hn,fun i b hb=>by
  obtain ⟨b',h1,h2⟩:=E.keep i b hb;exact ⟨b',by rw [hk i b hb];exact h1,h2⟩⟩
theorem QT {rows:List Blk} {b:Blk} (h:b∈rows):b.ids ⊆ Blk.jH rows:=by
 induction rows with
 | nil=>cases h
 | cons x rest ih =>
  simp only [Blk.jH];rcases List.mem_cons.1 h with rfl | h
  ·exact List.subset_append_left _ _
  ·exact fun q hq=>List.mem_append.2 (.inr (ih h hq))
theorem BG {x b:Blk} {m n:Nat} (h:x.view m n=some b):b.ids ⊆ x.ids:=by
 cases x with
 | fam rows=>simp only [Blk.view] at h;simp only [Blk.ids];exact QT (List.mem_of_getElem? h)
 | _ =>
  simp only [Blk.view] at h;split at h
  ·cases h;exact fun _ h=>h
  ·cases h
theorem yA {l:Loc} {t n:Nat} {b:Blk} (h:bg l t n=some b):b.ids ⊆ oH l:=by
 induction l with
 | nil=>cases h
 | cons x rest ih =>
  obtain ⟨⟨a,m⟩,y⟩:=x;simp only [bg] at h;simp only [oH];split at h
  ·split at h
   ·rename_i hv
    cases h;exact fun q hq=>List.mem_append.2 (.inl (BG hv hq))
   ·exact fun q hq=>List.mem_append.2 (.inr (ih h hq))
  ·exact fun q hq=>List.mem_append.2 (.inr (ih h hq))
theorem BH {env:Env} {t:Nat} {v:A} (h:look env t=some v):∀ j,j∈v.ids→j∈oJ env:=by
 induction env with
 | nil=>cases h
 | cons x rest ih =>
  obtain ⟨u,y⟩:=x;simp only [look] at h;simp only [oJ];intro j hj;split at h
  ·cases h;exact List.mem_append.2 (.inl hj)
  ·exact List.mem_append.2 (.inr (ih h j hj))
structure Trim (env:Env) (s:S) (env':Env) (s':S):Prop where
 env:∀ t v,look env' t=some v→∃ v0,look env t=some v0∧uM v0 v
 loc:∀ t n b,bg s'.loc t n=some b→bg s.loc t n=some b
 out:s'.out=s.out
 chg:s'.chg=s.chg
 ids:s'=s∨∀ i,i∈oJ env'∨i∈oH s'.loc→i.d=s.dep→∃ b,bg s'.loc i.t i.n=some b
theorem Trim.get {env env':Env} {s s':S} (h:Trim env s env' s') (i:Id):s'.get i=if i.d=s.dep then bg s'.loc i.t i.n else s.get i:=by
 have hd:s'.dep=s.dep:=by unfold S.dep;rw [h.out]
 by_cases e:i.d=s.dep
 ·rw [if_pos e];unfold S.get;rw [hd,if_pos e]
 ·rw [if_neg e];unfold S.get S.cur;rw [hd,if_neg e,if_neg e,h.out,h.chg]
theorem St.trim {P:Program} {O:nN} {env env':Env} {s s':S} {a:Act} {w:World} (T:St P O env s a w) (h:Trim env s env' s'):St P O env' s' a w:=by
 obtain ⟨V,μ,I,R,E,hdep,hn,hdf⟩:=T;have own:∀ i,i.d=s.dep→s.get i=bg s.loc i.t i.n:=fun i e=>by unfold S.get;rw [if_pos e]
 have hsub:∀ i b,s'.get i=some b→s.get i=some b:=by
  intro i b hb;rw [h.get] at hb;split at hb
  ·rename_i e;rw [own i e];exact h.loc _ _ _ hb
  ·exact hb
 have hkeep:∀ j,j∈oJ env'∨j∈oH s'.loc→∀ b,s.get j=some b→s'.get j=some b:=by
  intro j hj b hb;rcases h.ids with hs | hids
  ·rw [hs];exact hb
  rw [h.get];split
  ·rename_i e
   obtain ⟨b',hb'⟩:=hids j hj e;have:=h.loc _ _ _ hb';rw [own j e,this] at hb;rw [hb',← hb]
  ·exact hb
 have hd:s'.dep=s.dep:=by unfold S.dep;rw [h.out]
 have hclosed:∀ i c,s'.get i=some c→∀ j∈c.ids,∀ b,s.get j=some b→s'.get j=some b:=by
  intro i c hi j hj b hb;by_cases e1:i.d=s.dep
  ·rcases h.ids with hs | _
   ·rw [hs];exact hb
   have hi':bg s'.loc i.t i.n=some c:=by rw [h.get,if_pos e1] at hi;exact hi
   exact hkeep j (.inr (yA hi' hj)) b hb
  ·have hle:=I.tidy i c (hsub i _ hi) j hj;have hlt:=S.qQ (hsub i _ hi);rw [h.get,if_neg (by omega)];exact hb
 refine ⟨V,μ,I.sub hsub hclosed,?_,E.sub hsub ?_,h.out.trans hdep,hn,hdf⟩
 ·intro t v hv;obtain ⟨v0,h1,h2⟩:=h.env t v hv;have h3:=h2.ok _ _ _ _ _ (R t v0 h1);exact h3.mono (.refl V) (fun j hj b hb=>⟨b,hkeep j (.inl (BH hv j hj)) b hb, .refl _ _⟩)
 ·intro i b hb;have:=O.low i b hb;have hdl:s.dep=O.out.length:=congrArg List.length hdep;rw [h.get,if_neg (by omega)]
structure Le (P:Program) (env:Env) (s:S) (env':Env) (s':S):Prop where
 ok:∀ (O:nN) (a:Act) (w:World),St P O env s a w→St P O env' s' a w
theorem Trim.le {P:Program} {env env':Env} {s s':S} (h:Trim env s env' s'):Le P env s env' s':=⟨fun _ _ _ T=>T.trim h⟩
theorem Le.refl {P:Program} (env:Env) (s:S):Le P env s env s:=⟨fun _ _ _ T=>T⟩
theorem Le.trans {P:Program} {e1 e2 e3:Env} {s1 s2 s3:S} (h:Le P e1 s1 e2 s2) (k:Le P e2 s2 e3 s3):Le P e1 s1 e3 s3:=⟨fun O a w T=>k.ok O a w (h.ok O a w T)⟩
theorem Le.vY {P:Program} {env:Env} {s:S} {t:Nat} {v:A} {x:D} {o:Option S} (hv:look env t=some v) (hx:s.toD v=some (x,o)):Le P env s ((t, .d x)::env) (S.ok o s):=by
 refine ⟨fun O a w T=>?_⟩;obtain ⟨V,μ,I,R,E,hdep,hn,hdf⟩:=T;obtain ⟨V',L,H⟩:=La I hx (R t v hv);refine ⟨V',μ,L.inv,?_,E.trans L.evo,L.dep.trans hdep,hn,hdf⟩;intro u y hy;simp only [look] at hy;split at hy
 ·rename_i e;subst e;cases hy;exact .d _ _ H
 ·exact L.evo.wU (R u y hy)
theorem Le.IP {P:Program} {env:Env} {loc loc1:Loc} {out:Out} {chg:List (Option Loc)} {t n t' n' off sz:Nat} {cs:List A} (hb:bg loc t n=some (.box cs)) (hc:cs[off]?=some (.d .nilsl)) (hn:bg loc t' n'=none)
  (hl:setB loc t n (.box (cs.set off (.ref ⟨out.length,t',n'⟩ 0 0 0)))=loc1):Le P env ⟨loc,out,chg⟩ env ⟨((t',n'), .arr sz false [])::loc1,out,chg⟩:=by
 refine ⟨fun O a w T=>?_⟩;obtain ⟨V,μ,I,R,E,hdep,hsz,hdf⟩:=T;have own:∀ (l:Loc) (i:Id),i.d=out.length→S.get ⟨l,out,chg⟩ i=bg l i.t i.n:=fun l i e=>by unfold S.get S.dep;rw [if_pos e]
 have far:∀ (l l':Loc) (i:Id),i.d≠out.length→S.get ⟨l,out,chg⟩ i=S.get ⟨l',out,chg⟩ i:=fun l l' i e=>by unfold S.get S.cur S.dep;rw [if_neg e,if_neg e]
 let j:Id:=⟨out.length,t',n'⟩
 let i:Id:=⟨out.length,t,n⟩
 have hij:i≠j:=by intro e;have h1:=congrArg Id.t e;have h2:=congrArg Id.n e;simp only [i,j] at h1 h2;rw [h1,h2,hn] at hb;cases hb
 have hj:S.get ⟨loc,out,chg⟩ j=none:=by rw [own _ _ rfl];exact hn
 have hi:S.get ⟨loc,out,chg⟩ i=some (.box cs):=by rw [own _ _ rfl];exact hb
 obtain ⟨I1,E1⟩:=I.lay (w':=w) hj (.arr sz false []) ⟨0,0,true,0⟩ (fun _ _=>rfl) rfl rfl rfl (Nat.le_refl _) (fun h=>by cases h) (.inl ⟨rfl,rfl,rfl⟩);have hi1:upd (S.get ⟨loc,out,chg⟩) j (.arr sz false []) i=some (.box cs):=by rw [upd_ne _ _ hij];exact hi
 have hji:pJ μ j ⟨0,0,true,0⟩ i=μ i:=dM _ _ hij;have B:=I1.blk i _ hi1;obtain ⟨b1,b2,cells,elem,b3,b4,b5⟩:=B;have hlt:off < cs.length:=(List.getElem?_eq_some_iff.1 hc).1;have K:∀ x b,upd (S.get ⟨loc,out,chg⟩) j (.arr sz false []) x=some b→∃ b',upd (upd (S.get ⟨loc,out,chg⟩) j (.arr sz false [])) i (.box (cs.set off (.ref j 0 0 0))) x=some b'∧kY b (pJ μ j ⟨0,0,true,0⟩ x) b' (pJ (pJ μ j ⟨0,0,true,0⟩) i (pJ μ j ⟨0,0,true,0⟩ i) x):=by
  intro x b hx;by_cases e:x=i
  ·subst e;rw [hi1] at hx;cases hx;exact ⟨_,upd_same _ _ _,by rw [bY];simp [kY]⟩
  ·exact ⟨b,by rw [upd_ne _ _ e];exact hx,by rw [dM _ _ e];exact .refl _ _⟩
 obtain ⟨I2,E2⟩:=I1.KN (w':=w) hi1 (.box (cs.set off (.ref j 0 0 0))) (pJ μ j ⟨0,0,true,0⟩ i) (fun h => .inl ⟨rfl,h⟩) (fun _ _ _=>rfl) (fun c v _ h=>I1.cell _ _ _ h) (fun e c _ h=>I1.map _ _ _ h) rfl rfl rfl (Nat.le_refl _)
  ⟨b1,b2,cells,elem,b3,by simpa using b4,fun k x v hk hv=>by
   by_cases e:off=k
   ·subst e;rw [List.getElem?_set_self hlt] at hk;cases hk;obtain ⟨h1,h2⟩:=b5 _ _ v hc hv;refine ⟨?_,h2⟩;have:=h1.dOf;cases this;refine .ref j 0 0 0 sz false [] none 0 (by rw [upd_ne _ _ hij.symm];exact upd_same _ _ _) (Nat.le_refl _) (fun _=>⟨none,0,rfl, .inl ⟨?_,rfl,rfl,rfl⟩⟩);rw [dM _ _ hij.symm,bY]
   ·rw [List.getElem?_set_ne e] at hk;obtain ⟨h1,h2⟩:=b5 k x v hk hv;exact ⟨h1.mono (.refl V) (fun y _ b hb=>K y b hb),h2⟩⟩ (by simp [kY]) (by
   intro y hy;obtain ⟨k,x,h1,h2⟩:=uk hy;by_cases e:off=k
   ·subst e;rw [List.getElem?_set_self hlt] at h1;cases h1;simp only [A.ids,List.mem_singleton] at h2;subst h2;exact Nat.le_refl _
   ·rw [List.getElem?_set_ne e] at h1;exact I1.tidy i _ hi1 y (lS h1 h2))
 have hget:S.get ⟨((t',n'), .arr sz false [])::loc1,out,chg⟩=upd (upd (S.get ⟨loc,out,chg⟩) j (.arr sz false [])) i (.box (cs.set off (.ref j 0 0 0))):=by
  funext x
  by_cases hd:x.d=out.length
  ·rw [own _ _ hd];rw [gJ rfl];rw [← hl,zL loc t n _ _ _ (by rw [hb];rfl) rfl];by_cases e1:x=i
   ·subst e1;rw [upd_same];have:¬ (t=t'∧n=n'):=by rintro ⟨q1,q2⟩;exact hij (by simp only [i,j];rw [q1,q2])
    by_cases q1:t=t'
    ·have q2:¬ n=n':=fun q2=>this ⟨q1,q2⟩
     simp only [i,if_pos q1,if_neg q2,and_self,if_true];rfl
    ·simp only [i,if_neg q1,and_self,if_true];rfl
   ·rw [upd_ne _ _ e1];have h1:¬ (x.t=t∧x.n=n):=by
     rintro ⟨q1,q2⟩
     apply e1;obtain ⟨xd,xt,xn⟩:=x;simp only [i] at *
     rw [hd,q1,q2]
    by_cases e2:x=j
    ·subst e2;rw [upd_same];simp [j]
    ·rw [upd_ne _ _ e2,own _ _ hd,if_neg h1];have h2:¬ (x.t=t'∧x.n=n'):=by
      rintro ⟨q1,q2⟩
      apply e2;obtain ⟨xd,xt,xn⟩:=x;simp only [j] at *
      rw [hd,q1,q2]
     by_cases q1:x.t=t'
     ·rw [if_pos q1,if_neg (fun q2=>h2 ⟨q1,q2⟩)]
     ·rw [if_neg q1]
  ·rw [far _ loc x hd,upd_ne _ _ (fun e=>hd (by rw [e])),upd_ne _ _ (fun e=>hd (by rw [e]))]
 refine ⟨V,pJ (pJ μ j ⟨0,0,true,0⟩) i (pJ μ j ⟨0,0,true,0⟩ i),by rw [hget];exact I2,?_,by rw [hget];exact E.trans (E1.trans E2),hdep,hsz,hdf⟩;intro u y hy;rw [hget];exact E2.wU (E1.wU (R u y hy))
section
variable {P:Program}
def WT (P:Program):Cfg:=⟨P,fun _ _=>false,fun _=>false,fun _=>false,fun _ _=>false,fun _ _=>false,fun _ _=>false⟩
inductive RWp (P:Program) (ops:List Oper):List (Nat×Oper)→Env→S→(Env→S→Prop)→Prop where
 | nil {env:Env} {s:S} {Q:Env→S→Prop} (h:Q env s):RWp P ops [] env s Q
 | skip {i:Nat} {o:Oper} {rest:List (Nat×Oper)} {env:Env} {s:S} {Q:Env→S→Prop} (hg:iF ops env o=some false) (h:RWp P ops rest (Es o.dst .undef env) s Q):RWp P ops ((i,o)::rest) env s Q
 | op {i:Nat} {o:Oper} {rest:List (Nat×Oper)} {env:Env} {s:S} {v:A} {dl:Delta} {Q:Env→S→Prop} (hg:iF ops env o=some true) (ho:dR P env s o v dl) (h:RWp P ops rest (Es o.dst v env) (dl.apply s) Q):RWp P ops ((i,o)::rest) env s Q
 | trim {l:List (Nat×Oper)} {env env1:Env} {s s1:S} {Q:Env→S→Prop} (ht:Le P env s env1 s1) (h:RWp P ops l env1 s1 Q):RWp P ops l env s Q
 | nilq {i:Nat} {dst:Option Nat} {t t' ty e:TypeId} {x:Operand} {pos:String} {af:Array Edge} {xs:List D} {rest:List (Nat×Oper)} {env:Env} {s:S} {Q:Env→S→Prop} (ht:P.underlying t=some (.slice e)) (hx:az (look env) x=some (.d (.sl xs)))
   (h:∀ b:Bool,(b=true→xs=[])→RWp P ops rest (Es dst (.d (.bool b)) env) s Q):RWp P ops ((i,⟨dst, .binOp .eql t x (.const (.slice none 0 0)) t',ty,pos,af,none⟩)::rest) env s Q
theorem RWp.sound {O:nN} {ops:Array Oper} (hd:uA O.n ops.toList=true) {l:List (Nat×Oper)} {env:Env} {s:S} {Q:Env→S→Prop} (H:RWp P ops.toList l env s Q) :
  ∀ {a:Act} {w:World},(∀ p,p∈l→ops[p.1]?=some p.2)→St P O env s a w→wpOps P ops (fun e a' w'=>e = .normal∧∃ env' s',St P O env' s' a' w'∧Q env' s') (l.map (·.1)) a w:=by
 induction H with
 | nil h=>intro a w _ T;exact ⟨rfl,_,_,T,h⟩
 | @skip i o rest env s Q hg h ih =>
  intro a w hl T;have ho:ops[i]?=some o:=hl _ (.head _);simp only [List.map_cons,wpOps,ho];rw [T.guard hg hd];simp only [Bool.false_eq_true,if_false];exact ih (fun p hp=>hl p (.tail _ hp)) (T.skip (fun d h=>sN hd ho h))
 | @op i o rest env s v dl Q hg hop h ih =>
  intro a w hl T;have ho:ops[i]?=some o:=hl _ (.head _);simp only [List.map_cons,wpOps,ho];rw [T.guard hg hd];simp only [if_true];exact .inl (T.op hop (fun d h=>sN hd ho h) (fun a' w' T'=>ih (fun p hp=>hl p (.tail _ hp)) T'))
 | trim ht h ih=>intro a w hl T;exact ih hl (ht.ok _ _ _ T)
 | @nilq i dst t t' ty e x pos af xs rest env s Q ht hx h ih =>
  intro a w hl T;have ho:=hl _ (.head _);simp only [List.map_cons,wpOps,ho];have hw:Region.wanted (⟨dst, .binOp .eql t x (.const (.slice none 0 0)) t',ty,pos,af,none⟩:Oper) (yielded ops a.tmps)=true:=by
   have:=T.guard (ops:=ops) (o:=⟨dst, .binOp .eql t x (.const (.slice none 0 0)) t',ty,pos,af,none⟩) (b:=true) rfl hd;exact this
  rw [hw];simp only [if_true];left;obtain ⟨V,μ,I,R,E,hdep,hn,hdf⟩:=T;have hc:=(R.operand x _ hx).dOf;cases hc':a.eval x with
  | slice p n c =>
   rw [hc'] at hc;refine UQ (c:=WT P) (cv := .bool p.isNone) (w':=w) (m:=(do eqGuard .eql t x (.const (.slice none 0 0)) (a.eval x) (a.eval (.const (.slice none 0 0)));binOp .eql t (a.eval x) (a.eval (.const (.slice none 0 0))):Sem Value)) (by simp only [execOp]) (by rw [hc'];exact (uV ht rfl _ _).1) (ih p.isNone ?_ (fun q hq=>hl q (.tail _ hq)) ?_)
   ·intro hp;cases hc with
    | sl _ _ _ b o sz ev h1 h2 _ _ _ =>
     rcases h2 with h2 | h2
     ·exact h2
     ·rw [h2] at hp;cases hp
   ·refine ⟨V,μ,I,R.put (by rw [hn];exact fun d hd'=>sN hd ho hd') (.d _ _ (.bool _)),E,hdep,by rw [zg];exact hn,by rw [put_defers];exact hdf⟩
  | _=>rw [hc'] at hc;cases hc
theorem JP {O:nN} {id:Nat} {ops:Array Oper} (hd:uA O.n ops.toList=true) {Q:Exit→Act→World→Prop}
  {env:Env} {s:S} {a:Act} {w:World} {R:Env→S→Prop} (T:St P O env s a w) (e:RWp P ops.toList (jO 0 ops.toList) env s R) (hQ:∀ env' s' a' w',R env' s'→St P O env' s' a' w'→Q .normal a' w') :
  (Code.region id ops false).wp P Q a w:=by
 refine wp_mono (wp_region (Q:=fun e a' w'=>e = .normal∧∃ env' s',St P O env' s' a' w'∧R env' s') ?_) ?_
 ·have:=e.sound hd (fun p hp=>by simpa using (Qg 0 _ p hp).2) T;rw [zip_fst] at this;simpa [List.range_eq_range'] using this
 ·rintro e1 a1 w1 ⟨rfl,env',s',h1,h2⟩
  exact hQ _ _ _ _ h2 h1
end
def UR:Ex→Exit
 | .norm => .normal
 | .exit id => .exit id
 | .ret => .ret
def Ends (P:Program) (O:nN) (Q:Ex→Env→S→Prop):Exit→Act→World→Prop:=fun e a w=>∃ ex env s,e=UR ex∧St P O env s a w∧Q ex env s
structure CWp (P:Program) (code:Code) (env:Env) (s:S) (Q:Ex→Env→S→Prop):Prop where
 ok:∀ (O:nN) (a:Act) (w:World),codeOk O.n code=true→St P O env s a w→code.wp P (Ends P O Q) a w
section
variable {P:Program} {env:Env} {s:S} {Q:Ex→Env→S→Prop}
theorem CWp.mono {code:Code} {Q':Ex→Env→S→Prop} (h:CWp P code env s Q) (hq:∀ ex e s,Q ex e s→Q' ex e s):CWp P code env s Q' :=
 ⟨fun O a w hc T=>wp_mono (h.ok O a w hc T) (fun _ _ _ ⟨ex,e,s,h1,h2,h3⟩=>⟨ex,e,s,h1,h2,hq _ _ _ h3⟩)⟩
theorem CWp.trim {code:Code} {env':Env} {s':S} (ht:Le P env s env' s') (h:CWp P code env' s' Q):CWp P code env s Q :=
 ⟨fun O a w hc T=>h.ok O a w hc (ht.ok _ _ _ T)⟩
theorem CWp.skip (h:Q .norm env s):CWp P .skip env s Q:=⟨fun _ _ _ _ T=>wp_skip ⟨.norm,env,s,rfl,T,h⟩⟩
theorem CWp.ret (h:Q .ret env s):CWp P .ret env s Q:=⟨fun _ _ _ _ T=>wp_ret ⟨.ret,env,s,rfl,T,h⟩⟩
theorem CWp.exit {id:Nat} (h:Q (.exit id) env s):CWp P (.exit id) env s Q:=⟨fun _ _ _ _ T=>wp_exit ⟨.exit id,env,s,rfl,T,h⟩⟩
theorem CWp.seq {x y:Code} (h:CWp P x env s (fun ex e s=>match ex with | .norm=>CWp P y e s Q | ex=>Q ex e s)):CWp P (.seq x y) env s Q:=by
 refine ⟨fun O a w hc T=>wp_seq ?_⟩;simp only [codeOk,Bool.and_eq_true] at hc;refine wp_mono (h.ok O a w hc.1 T) ?_
 rintro e1 a1 w1 ⟨ex,e,s,rfl,h2,h3⟩
 cases ex with
 | norm=>exact h3.ok O a1 w1 hc.2 h2
 | exit id=>exact ⟨.exit id,e,s,rfl,h2,h3⟩
 | ret=>exact ⟨.ret,e,s,rfl,h2,h3⟩
theorem CWp.cond {x:Operand} {p q:Code} {b:Bool} (hx:az (look env) x=some (.d (.bool b))) (hp:b=true→CWp P p env s Q) (hq:b=false→CWp P q env s Q):CWp P (.cond x p q) env s Q:=by
 refine ⟨fun O a w hc T=>?_⟩;simp only [codeOk,Bool.and_eq_true] at hc;have hev:a.eval x = .bool b:=by
  obtain ⟨V,μ,I,R,E,hdep,hn,hdf⟩:=T;have:=(R.operand x _ hx).dOf;generalize a.eval x=q at this;cases this;rfl
 refine wp_cond hev ?_;cases b with
 | true=>exact (hp rfl).ok O a w hc.1 T
 | false=>exact (hq rfl).ok O a w hc.2 T
theorem CWp.block {id:Nat} {b:Code} (h:CWp P b env s (fun ex e s=>match ex with | .exit id'=>(match Nat.beq id' id with | true=>Q .norm e s | false=>Q (.exit id') e s) | ex=>Q ex e s)):CWp P (.block id b) env s Q:=by
 refine ⟨fun O a w hc T=>wp_block (wp_mono (h.ok O a w hc T) ?_)⟩
 rintro e1 a1 w1 ⟨ex,e,s,rfl,h2,h3⟩
 cases ex with
 | norm=>exact ⟨.norm,e,s,rfl,h2,h3⟩
 | ret=>exact ⟨.ret,e,s,rfl,h2,h3⟩
 | exit id' =>
  simp only [UR,Exit.inBlock];by_cases hid:id'=id
  ·subst hid;rw [if_pos rfl];have:Nat.beq id' id'=true:=by simp
   simp only [this] at h3;exact ⟨.norm,e,s,rfl,h2,h3⟩
  ·rw [if_neg hid];have:Nat.beq id' id=false:=by
    cases hb:Nat.beq id' id with
    | false=>rfl
    | true=>exact absurd (Nat.eq_of_beq_eq_true hb) hid
   simp only [this] at h3;exact ⟨.exit id',e,s,rfl,h2,h3⟩
theorem CWp.region {id:Nat} {ops:Array Oper} (h:RWp P ops.toList (jO 0 ops.toList) env s (fun e s'=>Q .norm e s')):CWp P (.region id ops false) env s Q :=
 ⟨fun _ _ _ hc T=>JP hc T h (fun env' s' _ _ hq T'=>⟨.norm,env',s',rfl,T',hq⟩)⟩
end
section
variable {σ ρ:Type}
def xE (step:σ→Option (Sum σ ρ)):Nat→σ→Option ρ
 | 0,_=>none
 | n+1,x =>
  match step x with
  | some (.inl x')=>xE step n x'
  | some (.inr y)=>some y
  | none=>none
theorem E5 {step:σ→Option (Sum σ ρ)}:∀ {n:Nat} {x:σ} {y:ρ},xE step n x=some y→xE step (n+1) x=some y
 | 0,x,y,h=>by cases h
 | n+1,x,y,h=>by
  rw [xE];rw [xE] at h;split at h
  ·rename_i x' hx
   rw [E5 h]
  ·rename_i y' hx;exact h
  ·cases h
theorem Qz {step:σ→Option (Sum σ ρ)} {n m:Nat} {x:σ} {y:ρ} (h:xE step n x=some y) (hm:n≤m):xE step m x=some y:=by
 induction hm with
 | refl=>exact h
 | step _ ih=>exact E5 ih
def FUEL:Nat:=4611686018427387904
def dO (step:σ→Option (Sum σ ρ)) (x:σ):Option ρ:=xE step FUEL x
theorem Nh {step:σ→Option (Sum σ ρ)} {x:σ} {y:ρ} (h:dO step x=some y):∃ n,xE step n x=some y:=⟨_,h⟩
theorem Rw {step:σ→Option (Sum σ ρ)} {n:Nat} {x:σ} {y:ρ} (h:xE step n x=some y) (hn:n≤FUEL):dO step x=some y:=Qz h hn
theorem CWp.loop {P:Program} {b:Code} {step:σ→Option (Sum σ ρ)} (E:σ→Env) (M:σ→S) {Q:Ex→Env→S→Prop} {x:σ} {y:ρ} {env:Env} {s:S} (ht:Le P env s (E x) (M x)) (hl:dO step x=some y)
  (hs:∀ x z,step x=some z→CWp P b (E x) (M x) (fun ex e s=>match z with | .inl x'=>ex = .norm∧Le P e s (E x') (M x') | .inr y'=>ex ≠ .norm∧(y'=y→Q ex e s))):CWp P (.loop b) env s Q:=by
 obtain ⟨n,hn⟩:=Nh hl;refine CWp.trim ht ⟨fun O a w hc T=>?_⟩;have key:∀ (n:Nat) (x:σ),xE step n x=some y→∀ (a:Act) (w:World),St P O (E x) (M x) a w→∀ (fr:Frame) (k:List Item) (cs:List Frame),
   ∃ e a' w',Ends P O Q e a' w'∧Arrives P (lone (fr.at a (.code b :: .inLoop b::k)) cs w) fr k cs e a' w':=by
  intro n
  induction n with
  | zero=>intro x h;cases h
  | succ n ih =>
   intro x h a w T fr k cs;rw [xE] at h;have go:∀ z,step x=some z→∃ e a' w',(∃ ex en s,e=UR ex∧St P O en s a' w'∧(match z with | .inl x'=>ex = .norm∧Le P en s (E x') (M x') | .inr y'=>ex ≠ .norm∧(y'=y→Q ex en s)))∧Arrives P (lone (fr.at a (.code b :: .inLoop b::k)) cs w) fr (.inLoop b::k) cs e a' w' :=
    fun z hz=>(hs x z hz).ok O a w hc T fr (.inLoop b::k) cs
   split at h
   ·rename_i x' hx
    obtain ⟨e1,a1,w1,⟨ex,en,s1,rfl,T1,rfl,htr⟩,harr⟩:=go _ hx;obtain ⟨e2,a2,w2,hq,harr2⟩:=ih x' h a1 w1 (htr.ok _ _ _ T1) fr k cs;exact ⟨e2,a2,w2,hq, .of_steps (Steps.trans harr (.one step_inLoop)) harr2⟩
   ·rename_i y' hx
    cases h;obtain ⟨e1,a1,w1,⟨ex,en,s1,rfl,T1,hne,hq⟩,harr⟩:=go _ hx;refine ⟨UR ex,a1,w1,⟨ex,en,s1,rfl,T1,hq rfl⟩,?_⟩;cases ex with
    | norm=>exact absurd rfl hne
    | exit id=>exact .pass (x := .inLoop b) rfl (fun _ _ => .inl (by simp [UR])) harr
    | ret=>exact .pass (x := .inLoop b) rfl (fun _ _ => .inl (by simp [UR])) harr
   ·cases h
 intro fr k cs;obtain ⟨e1,a1,w1,hq,harr⟩:=key n x hn a w T fr k cs;exact ⟨e1,a1,w1,hq, .of_steps (.one step_loop) harr⟩
end
end Go.Lx
namespace Go.Lx
section
variable {c:Cfg} {P:Program} {V:View} {μ:Id→Pl} {w:World}
def ED (s:S):S:=⟨[],s.out,s.chg⟩
theorem qf (s:S) (i:Id):(ED s).get i=if i.d=s.dep then none else s.get i:=by
 have hd:(ED s).dep=s.dep:=rfl;have hc:(ED s).cur=s.cur:=rfl;unfold S.get;rw [hd,hc];by_cases e:i.d=s.dep
 ·rw [if_pos e,if_pos e];rfl
 ·rw [if_neg e,if_neg e,if_neg e]
def zM (V:View) (s:S) (μ:Id→Pl) (w:World) (ex:Bool):View where
 cell b c v:=V.cell b c v∨(∃ i blk,s.get i=some blk∧i.d=s.dep∧(μ i).nil=false∧(μ i).blk=b∧ex=false∧w.cell? ⟨b,c,none⟩=some v)
 map r e c:=V.map r e c∨(∃ i kt l es,s.get i=some (.map kt l es)∧i.d=s.dep∧(μ i).blk=r∧w.heap[r]?=some (.map e c))
theorem jR {s:S} {ex:Bool}:V.Le (zM V s μ w ex):=⟨fun _ _ _ h => .inl h,fun _ _ _ h => .inl h⟩
theorem FU {s:S} (I:Inv P V s.get μ w) (ex:Bool):Inv P (zM V s μ w ex) (ED s).get μ w:=by
 have hsub:∀ i b,(ED s).get i=some b→s.get i=some b∧i.d≠s.dep:=by
  intro i b hb;rw [qf] at hb;split at hb
  ·cases hb
  ·rename_i h;exact ⟨hb,h⟩
 have I1:Inv P V (ED s).get μ w:=by
  refine I.sub (fun i b hb=>(hsub i b hb).1) ?_;intro i cs hi j hj b hb;obtain ⟨h1,h2⟩:=hsub i _ hi;have:=I.tidy i _ h1 j hj;have:=S.qQ h1;rw [qf,if_neg (by omega)];exact hb
 refine I1.frame (fun _ _=>rfl) jR ?_ ?_ ?_ ?_
 ·rintro b c v (q | ⟨i,blk,h1,h2,h3,h4,h5,h6⟩) ⟨j,x,hx,hn,hb⟩
  ·exact q
  ·exfalso
   obtain ⟨k1,k2⟩:=hsub j x hx;exact I.apart i j blk x h1 k1 (fun e=>k2 (e ▸ h2)) h3 hn (h4.trans hb.symm)
 ·rintro r e c (q | ⟨i,kt,l,es,h1,h2,h4,h6⟩) ⟨j,x,hx,hn,hb⟩
  ·exact q
  ·exfalso
   obtain ⟨k1,k2⟩:=hsub j x hx;exact I.apart i j _ x h1 k1 (fun e=>k2 (e ▸ h2)) (I.blk i _ h1).1 hn (h4.trans hb.symm)
 ·rintro b c v (q | ⟨i,blk,h1,h2,h3,h4,h5,h6⟩)
  ·exact I.cell b c v q
  ·exact h6
 ·rintro r e c (q | ⟨i,kt,l,es,h1,h2,h4,h6⟩)
  ·exact I.map r e c q
  ·exact h6
theorem Gz {s:S} {V0:View} {h0:Id→Option Blk} {μ0:Id→Pl} {w0:World} (I:Inv P V s.get μ w) (ex:Bool) (E:Evo V0 h0 μ0 w0 V s.get μ w) (low:∀ i b,h0 i=some b→i.d < s.dep) :
  Evo V0 h0 μ0 w0 (zM V s μ w ex) (ED s).get μ w:=by
 refine ⟨E.os,E.tape,E.output,E.size,E.rest,E.view.trans jR,?_,?_,?_,?_⟩
 ·rintro b c v (q | ⟨i,blk,h1,h2,h3,h4,h5,h6⟩)
  ·exact E.newc b c v q
  ·exact .inr (E.own b ⟨i,blk,h1,h3,h4⟩)
 ·rintro r e c (q | ⟨i,kt,l,es,h1,h2,h4,h6⟩)
  ·exact E.newm r e c q
  ·exact .inr (E.own r ⟨i,_,h1,(I.blk i _ h1).1,h4⟩)
 ·intro i b hb hn;rw [qf] at hb;split at hb
  ·cases hb
  ·exact E.place i b hb hn
 ·intro i b hb;obtain ⟨b',h1,h2⟩:=E.keep i b hb;have:=low i b hb;exact ⟨b',by rw [qf,if_neg (by omega)];exact h1,h2⟩
theorem PQ {s:S} (I:Inv P V s.get μ w) {i:Id} {sz off len:Nat} {l:Bool} {xs:List D} (hi:s.get i=some (.arr sz l xs)) (hd:i.d=s.dep) (hle:off+len≤xs.length) {a:Option Addr} {cc:Nat}
  (hsv:uC (μ i) sz off len (.slice a len cc)):fG P (zM V s μ w false) (.sl ((xs.drop off).take len)) (.slice a len cc):=by
 rcases I.blk i _ hi with ⟨q1,q2,q3⟩ | ⟨q1,q2,q3,q4,cells,elem,q5,q6,_,ev,q7⟩
 ·exact pI hsv hle (fun z=>by rw [q1] at z;cases z) (fun _=>q2) (fun k d hk=>by subst q2;simp at hk)
 ·exact pI hsv hle (fun _=>q2) (fun z=>by rw [q1] at z;cases z) (fun k d hk=>⟨ev k,(q7 k d hk).1.mono jR,(q7 k d hk).2.1,fun j v hj =>
   .inr ⟨i,_,hi,hd,q1,rfl,rfl,by rw [cell_of_row w _ _ cells elem (0,0) q5];exact (q7 k d hk).2.2 j v hj⟩⟩)
theorem Po {s:S} (I:Inv P V s.get μ w) {i:Id} {kt:TypeId} {l:Bool} {es:List (D×D)} (hi:s.get i=some (.map kt l es)) (hd:i.d=s.dep) (ex:Bool) :
  fG P (zM V s μ w ex) (.mp kt es) (.map (some (μ i).blk)):=by
 obtain ⟨h1,h3,en,h5,h6,h7,h8⟩:=I.blk i _ hi;exact .mp kt es _ en es.length (.inr ⟨i,kt,l,es,hi,hd,rfl,h5⟩) h6 (fun k e m he hm=>(h7 k e m he hm).1.mono jR) (fun k e m he hm=>(h7 k e m he hm).2.1.mono jR) h8 rfl (fun k m hm=>by
   have hk:k < es.length:=by rw [← h6];exact (Array.getElem?_eq_some_iff.1 hm).1
   exact (h7 k es[k] m (by simp [hk]) hm).2.2)
theorem PT {V:View} {x:D} {v:Value} (H:fG P V x v):fG P V (MH x) v:=by
 cases H with
 | nilsl=>exact .sl [] none 0 0 0 0 (fun _=>Go.undef) (Nat.zero_le _) (.inl rfl) (fun i d hd=>by simp at hd) (fun i hi=>by simp at hi) (fun i hi=>by simp at hi)
 | _=>simp only [MH];constructor<;>assumption
theorem RF {V:View} {x:D} {v:Value} (H:fG P V x v):fG P V (qG x) v:=by
 cases H with
 | nilsl=>exact .sl [] none 0 0 0 0 (fun _=>Go.undef) (Nat.zero_le _) (.inl rfl) (fun i d hd=>by simp at hd) (fun i hi=>by simp at hi) (fun i hi=>by simp at hi)
 | agg cs vs hn h hp =>
  simp only [qG];refine .agg _ vs (by simpa using hn) (fun i d v hd hv=>?_) hp;rw [List.getElem?_map] at hd;cases hc:cs[i]? with
  | none=>rw [hc] at hd;cases hd
  | some y=>rw [hc] at hd;cases hd;exact PT (h i y v hc hv)
 | _=>simp only [qG];constructor<;>assumption
end
end Go.Lx
namespace Go.Lx
section
variable {c:Cfg} {P:Program} {V:View} {μ:Id→Pl} {w:World}
theorem PS {s:S} (I:Inv P V s.get μ w) {a:A} {x:D} {v:Value} (e:s.xA a=some x) (H:dQ P V s.get μ a v):fG P (zM V s μ w false) x v:=by
 cases H with
 | d y v hd=>simp only [S.xA] at e;cases e;exact hd.mono jR
 | tight xs a hd=>simp only [S.xA] at e;cases e;exact hd.mono jR
 | ref i off len full sz l xs a cc hi hf hv =>
  simp only [S.xA] at e;split at e
  ·rename_i hd
   simp only [S.elems,hi] at e;split at e
   ·rename_i hh
    cases e;exact PQ I hi hd (by omega) (hv hh.1)
   ·cases e
  ·cases e
 | pimm y off ev b o hd hv =>
  cases off with
  | zero=>simp only [S.xA] at e;cases e;exact .pbox y ev b _ (hd.mono jR) (fun j x hx => .inl (hv j x hx))
  | succ n=>simp [S.xA] at e
 | mref i kt l es hi =>
  simp only [S.xA,hi] at e;split at e
  ·rename_i hd
   cases e;exact Po I hi hd false
  ·cases e
 | _=>simp [S.xA] at e
theorem Fj {s:S}:∀ {cs:List A} {ds:List D},s.cellsD cs=some ds→ds.length=cs.length∧∀ (i:Nat) a d,cs[i]?=some a→ds[i]?=some d→s.xA a=some d
 | [],ds,e=>by simp only [S.cellsD] at e;cases e;exact ⟨rfl,fun i a d h=>by simp at h⟩
 | a::cs,ds,e=>by
  simp only [S.cellsD] at e;split at e
  ·rename_i v vs h1 h2
   cases e;obtain ⟨k1,k2⟩:=Fj h2;refine ⟨by simp [k1],fun i x d hx hd=>?_⟩;cases i with
   | zero=>simp at hx hd;subst hx hd;exact h1
   | succ i=>exact k2 i x d (by simpa using hx) (by simpa using hd)
  ·cases e
inductive mX (s:S) (μ:Id→Pl) (ex:Bool):List Id→List BZ→Prop where
 | nil:mX s μ ex [] []
 | cons (i:Id) (sz:Nat) (xs:List D) (is:List Id) (gs:List BZ) (hex:ex=true) (hd:i.d=s.dep) (hi:s.get i=some (.arr sz false xs)) (hr:mX s μ ex is gs):mX s μ ex (i::is) ((μ i,sz,xs)::gs)
theorem mX.append {s:S} {ex:Bool} {is js:List Id} {gs ks:List BZ} (h:mX s μ ex is gs) (h':mX s μ ex js ks):mX s μ ex (is++js) (gs++ks):=by
 induction h with
 | nil=>exact h'
 | cons i sz xs is gs hex hd hi hr ih=>exact .cons i sz xs _ _ hex hd hi ih
theorem Io {h:Id→Option Blk}:∀ {ds:List D} {vs:List Value} {gs:List BZ},iT P V h μ (ds.map A.d) vs gs→gs=[]∧vs.length=ds.length∧∀ (i:Nat) d v,ds[i]?=some d→vs[i]?=some v→fG P V d v
 | [],vs,gs,R=>by
  simp only [List.map_nil,iT] at R;obtain ⟨rfl,rfl⟩:=R;exact ⟨rfl,rfl,fun i d v hd=>by simp at hd⟩
 | d::ds,vs,gs,R=>by
  simp only [List.map_cons,iT] at R;obtain ⟨v,vr,g1,g2,rfl,rfl,r1,r2⟩:=R;simp only [bZ] at r1;obtain ⟨rfl,r1⟩:=r1;obtain ⟨rfl,h1,h2⟩:=Io r2;refine ⟨rfl,by simp [h1],fun i x y hx hy=>?_⟩;cases i with
  | zero=>simp at hx hy;subst hx hy;exact r1.dOf
  | succ i=>exact h2 i x y (by simpa using hx) (by simpa using hy)
theorem OD {h:Id→Option Blk} {xs:List A} {vs:Array Value} {gs:List BZ} (R:iT P V h μ xs vs.toList gs) (hp:∀ (i:Nat) x,vs[i]?=some x→Plain x):bZ P V h μ (sK xs) (.agg vs) gs:=by
 unfold sK;split
 ·rename_i ds e
  have:=Ib e;subst this;obtain ⟨rfl,h1,h2⟩:=Io R;simp only [bZ];exact ⟨trivial, .d _ _ (.agg ds vs (by simpa using h1) (fun i d v hd hv=>h2 i d v hd (by simpa using hv)) hp)⟩
 ·simp only [bZ];exact ⟨vs,rfl,hp,R⟩
mutual
theorem ES {s:S} (I:Inv P V s.get μ w) {strict ex:Bool}:∀ (a:A) {a':A} {is:List Id} {cv:Value},s.result strict ex a=some (a',is)→dQ P V s.get μ a cv →
  ∃ gs,bZ P (zM V s μ w ex) (ED s).get μ a' cv gs∧mX s μ ex is gs
 | .d x,a',is,cv,e,H=>by
  simp only [S.result] at e;cases e;refine ⟨[],?_, .nil⟩;simp only [bZ];refine ⟨trivial, .d _ _ ?_⟩;split
  ·exact H.dOf.mono jR
  ·exact (RF H.dOf).mono jR
 | .tight xs,a',is,cv,e,H=>by
  simp only [S.result] at e;cases e;refine ⟨[],?_, .nil⟩;cases H with
  | tight _ a hd =>
   split
   ·simp only [bZ];exact ⟨trivial, .tight xs a (hd.mono jR)⟩
   ·simp only [bZ];exact ⟨trivial, .d _ _ (hd.mono jR)⟩
 | .own _ _,a',is,cv,e,H=>by cases H
 | .ref i off len full,a',is,cv,e,H=>by
  simp only [S.result] at e;cases H with
  | ref _ _ _ _ sz l xs a cc hi hf hv =>
   split at e
   ·rename_i hlt
    cases e;refine ⟨[],?_, .nil⟩;simp only [bZ];exact ⟨trivial, .ref i off len full sz l xs a cc (by rw [qf,if_neg (by omega)];exact hi) hf hv⟩
   ·rename_i hlt
    have hd:i.d=s.dep:=by have:=S.qQ hi;omega
    rw [hi] at e;simp only at e;split at e
    ·rename_i hh
     split at e
     ·rename_i hex
      split at e
      ·rename_i hc
       cases e;simp only [Bool.and_eq_true,Bool.not_eq_true',beq_iff_eq] at hc;obtain ⟨⟨h1,h2⟩,h3⟩:=hc;subst h1;subst h2;refine ⟨[(μ i,sz,xs)],?_, .cons i sz xs [] [] hex hd hi .nil⟩;simp only [bZ];refine ⟨μ i,rfl,?_⟩;have:=hv hh.1;rw [show xs.length=len from by omega];exact this
      ·cases e
     ·rename_i hex
      cases e;have hexf:ex=false:=by cases ex with | false=>rfl | true=>exact absurd rfl hex
      subst hexf;refine ⟨[],?_, .nil⟩;simp only [bZ];exact ⟨trivial, .d _ _ (PQ I hi hd (by omega) (hv hh.1))⟩
    ·cases e
 | .agg cs,a',is,cv,e,H=>by
  simp only [S.result] at e;cases hr:s.results strict ex cs with
  | none=>rw [hr] at e;cases e
  | some r =>
   obtain ⟨xs,bs⟩:=r;rw [hr] at e;cases e;cases H with
   | agg _ vs hn hc hp =>
    obtain ⟨gs,h1,h2⟩:=xY I cs hr (vs:=vs.toList) (by simpa using hn) (fun i d v hd hv=>hc i d v hd (by simpa using hv));exact ⟨gs,OD h1 hp,h2⟩
 | .tup cs,a',is,cv,e,H=>by
  simp only [S.result] at e;cases hr:s.results strict ex cs with
  | none=>rw [hr] at e;cases e
  | some r =>
   obtain ⟨xs,bs⟩:=r;rw [hr] at e;cases e;cases H with
   | tup _ vs hn hc =>
    obtain ⟨gs,h1,h2⟩:=xY I cs hr (vs:=vs.toList) (by simpa using hn) (fun i d v hd hv=>hc i d v hd (by simpa using hv));refine ⟨gs,?_,h2⟩;simp only [bZ];exact ⟨vs,rfl,h1⟩
 | .bptr i off,a',is,cv,e,H=>by
  simp only [S.result] at e;cases H with
  | bptr _ _ cs hi =>
   split at e
   ·rename_i hlt
    cases e;refine ⟨[],?_, .nil⟩;simp only [bZ];exact ⟨trivial, .bptr i off cs (by rw [qf,if_neg (by omega)];exact hi)⟩
   ·rename_i hlt
    have hd:i.d=s.dep:=by have:=S.qQ hi;omega
    split at e
    ·cases e
    ·rename_i hex
     have hexf:ex=false:=by cases ex with | false=>rfl | true=>exact absurd rfl hex
     subst hexf;rw [hi] at e;simp only at e;split at e
     ·rename_i h0
      subst h0;cases hcs:s.cellsD cs with
      | none=>rw [hcs] at e;cases e
      | some ds =>
       rw [hcs] at e;cases e;obtain ⟨k1,k2⟩:=Fj hcs;obtain ⟨b1,b3,cells,elem,b5,b6,b7⟩:=I.blk i _ hi;refine ⟨[],?_, .nil⟩;simp only [bZ];refine ⟨trivial, .d _ _ (.pbox _ (.agg cells) _ 0 (.agg ds cells (by rw [b6,k1]) (fun j d v hdj hv=>?_) (fun j v hv=>?_)) (fun j v hv=>?_))⟩
       ·have hl:j < cs.length:=by rw [← b6];exact (Array.getElem?_eq_some_iff.1 hv).1
        have hcj:=List.getElem?_eq_getElem hl;exact PS I (k2 j _ d hcj hdj) (b7 j _ v hcj hv).1
       ·have hl:j < cs.length:=by rw [← b6];exact (Array.getElem?_eq_some_iff.1 hv).1
        exact (b7 j _ v (List.getElem?_eq_getElem hl) hv).2
       ·exact .inr ⟨i,_,hi,hd,b1,rfl,rfl,by rw [cell_of_row w _ _ cells elem (0,0) b5,Nat.zero_add];exact hv⟩
     ·cases e
 | .pimm x off,a',is,cv,e,H=>by
  simp only [S.result] at e;split at e
  ·rename_i h0
   subst h0;cases e;cases H with
   | pimm _ _ ev b o hd hv =>
    refine ⟨[],?_, .nil⟩;simp only [bZ];exact ⟨trivial, .d _ _ (.pbox x ev b _ (hd.mono jR) (fun j y hy => .inl (hv j y hy)))⟩
  ·cases e
 | .mref i,a',is,cv,e,H=>by
  simp only [S.result] at e;cases H with
  | mref _ kt l es hi =>
   split at e
   ·rename_i hlt
    cases e;refine ⟨[],?_, .nil⟩;simp only [bZ];exact ⟨trivial, .mref i kt l es (by rw [qf,if_neg (by omega)];exact hi)⟩
   ·rename_i hlt
    have hd:i.d=s.dep:=by have:=S.qQ hi;omega
    rw [hi] at e;cases e;refine ⟨[],?_, .nil⟩;simp only [bZ];exact ⟨trivial, .d _ _ (Po I hi hd ex)⟩
 | .nref i n,a',is,cv,e,H=>by
  simp only [S.result] at e;split at e
  ·rename_i hlt
   cases e;cases H with
   | nref _ _ sz xs a c hi hf hv =>
    refine ⟨[],?_, .nil⟩;simp only [bZ];exact ⟨trivial, .nref i n sz xs a c (by rw [qf,if_neg (by omega)];exact hi) hf hv⟩
  ·cases e
 | .undef,a',is,cv,e,H=>by simp [S.result] at e
 | .unk,a',is,cv,e,H=>by simp [S.result] at e
 | .eptr _ _ _ _,a',is,cv,e,H=>by simp [S.result] at e
 | .tref _ _ _,a',is,cv,e,H=>by simp [S.result] at e
 | .tptr _ _ _,a',is,cv,e,H=>by simp [S.result] at e
 | .clo _ _,a',is,cv,e,H=>by simp [S.result] at e
theorem xY {s:S} (I:Inv P V s.get μ w) {strict ex:Bool}:∀ (cs:List A) {cs':List A} {is:List Id} {vs:List Value},s.results strict ex cs=some (cs',is)→vs.length=cs.length →
  (∀ (i:Nat) a v,cs[i]?=some a→vs[i]?=some v→dQ P V s.get μ a v)→∃ gs,iT P (zM V s μ w ex) (ED s).get μ cs' vs gs∧mX s μ ex is gs
 | [],cs',is,vs,e,hn,H=>by
  simp only [S.results] at e;cases e;have:vs=[]:=List.eq_nil_of_length_eq_zero hn;subst this;refine ⟨[],?_, .nil⟩;simp only [iT];exact ⟨trivial,trivial⟩
 | x::rest,cs',is,vs,e,hn,H=>by
  cases vs with
  | nil=>simp at hn
  | cons v vr =>
   simp only [S.results] at e;split at e
   ·cases e
   ·rename_i x' bs hx
    split at e
    ·cases e
    ·rename_i rest' bs' hr
     cases e;obtain ⟨g1,h1,h2⟩:=ES I x hx (H 0 x v rfl rfl);obtain ⟨g2,h3,h4⟩:=xY I rest hr (vs:=vr) (by simpa using hn) (fun i a v' ha hv=>H (i+1) a v' (by simpa using ha) (by simpa using hv));refine ⟨g1++g2,?_,h2.append h4⟩;simp only [iT];exact ⟨v,vr,g1,g2,rfl,rfl,h1,h3⟩
end
end
end Go.Lx
namespace Go.Lx
section
variable {c:Cfg} {P:Program} {V:View} {μ:Id→Pl} {w:World}
theorem KH {s:S} (I:Inv P V s.get μ w) {V0:View} {h0:Id→Option Blk} {μ0:Id→Pl} {w0:World} (E:Evo V0 h0 μ0 w0 V s.get μ w) (low:∀ i b,h0 i=some b→i.d < s.dep) {ex:Bool} {is:List Id} {gs:List BZ}
  (G:mX s μ ex is gs) (hn:uh is=true):Loose P (zM V s μ w ex) (ED s).get μ w w0.heap.size gs:=by
 have facts:∀ {is gs},mX s μ ex is gs→∀ g,g∈gs→∃ i,i∈is∧ex=true∧i.d=s.dep∧s.get i=some (.arr g.2.1 false g.2.2)∧g.1=μ i:=by
  intro is gs G
  induction G with
  | nil=>intro g hg;cases hg
  | cons i sz xs is gs hex hd hi hr ih =>
   intro g hg;cases hg with
   | head=>exact ⟨i, .head _,hex,hd,hi,rfl⟩
   | tail _ hg=>obtain ⟨j,h1,h2⟩:=ih g hg;exact ⟨j, .tail _ h1,h2⟩
 refine ⟨?_,?_,?_⟩
 ·intro g hg;obtain ⟨i,_,hex,hd,hi,hp⟩:=facts G g hg;rw [hp];rcases I.blk i _ hi with B | ⟨b1,b2,b3,b4,cells,elem,b5,b6,hpl,ev,b7⟩
  ·exact .inl B
  ·have hv:∀ cc v,(zM V s μ w ex).cell (μ i).blk cc v→V.cell (μ i).blk cc v:=by
    rintro cc v (q | ⟨_,_,_,_,_,_,q,_⟩)
    ·exact q
    ·rw [hex] at q;cases q
   exact .inr ⟨b1,b2,fun e cc v x=>b3 e cc v (hv cc v x),fun cc v x=>b4 cc v (hv cc v x),cells,elem,b5,b6,hpl,ev,fun k d hk=>⟨(b7 k d hk).1.mono jR,(b7 k d hk).2⟩⟩
 ·intro g hg hnil;obtain ⟨i,_,hex,hd,hi,hp⟩:=facts G g hg;rw [hp] at hnil ⊢;refine ⟨?_,?_,kQ.lt I ⟨i,_,hi,hnil,rfl⟩⟩
  ·rintro ⟨j,x,hx,hnj,hb⟩
   rw [qf] at hx;split at hx
   ·cases hx
   ·rename_i hne
    exact I.apart i j _ x hi hx (fun e=>hne (e ▸ hd)) hnil hnj hb.symm
  ·rcases E.place i _ hi hnil with ⟨b0,h1,_⟩ | h1
   ·have:=low i b0 h1;omega
   ·exact h1
 ·clear facts
  induction G with
  | nil=>exact .nil
  | cons i sz xs is gs hex hd hi hr ih =>
   simp only [uh,Bool.and_eq_true] at hn;refine List.pairwise_cons.2 ⟨?_,ih hn.2⟩;intro g hg n1 n2;have facts2:∀ {is gs},mX s μ ex is gs→∀ g,g∈gs→∃ i,i∈is∧i.d=s.dep∧s.get i=some (.arr g.2.1 false g.2.2)∧g.1=μ i:=by
    intro is gs G
    induction G with
    | nil=>intro g hg;cases hg
    | cons i sz xs is gs hex hd hi hr ih =>
     intro g hg;cases hg with
     | head=>exact ⟨i, .head _,hd,hi,rfl⟩
     | tail _ hg=>obtain ⟨j,h1,h2⟩:=ih g hg;exact ⟨j, .tail _ h1,h2⟩
   obtain ⟨j,hj,hdj,hij,hpj⟩:=facts2 hr g hg;have hne:i≠j:=by
    rintro rfl
    have:=List.all_eq_true.1 hn.1 i hj;simp at this
   simp only at n1 ⊢;rw [hpj] at n2 ⊢;exact I.apart i j _ _ hi hij hne n1 n2
theorem KD {t:TypeId} {cv v:Value} (h:(Instr.loadAt t cv).run P w = .ok v w):(do loadVar t (← asAddr cv):Sem Value).run P w = .ok v w:=by
 cases cv with
 | pointer a=>cases a with
  | none=>simp [Instr.loadAt,Instr.sureAddr,Result.andThen] at h
  | some a=>simpa [Instr.loadAt,Instr.sureAddr,asAddr] using h
 | _=>simp [Instr.loadAt,Instr.sureAddr,Result.andThen] at h
theorem zT {f:FuncId} {env:Env} {s:S} {tmps:Array Value} (I:Inv c.P V s.get μ w) (R:nU c.P V s.get μ env tmps):∀ {rs:List ResultVar} {vs:List A},lm c f env s rs=some vs →
  ∃ cvs,(rs.mapM (fun r=>match r with | .tmp t=>pure (tmps.getD t undef) | .cell a t=>do loadVar t (← asAddr (tmps.getD a undef)):ResultVar→Sem Value)).run c.P w = .ok cvs w∧dG c.P V s.get μ vs cvs
 | [],vs,e=>by simp only [lm] at e;cases e;exact ⟨[],by simp, .nil⟩
 | .tmp t::rest,vs,e=>by
  simp only [lm] at e;split at e
  ·rename_i v vs' h1 h2
   cases e;obtain ⟨cvs,k1,k2⟩:=zT I R h2;exact ⟨tmps.getD t undef::cvs,by rw [List.mapM_cons];simp only [Sem.run_bind,Sem.run_pure,Result.andThen_ok,k1], .cons _ _ _ _ (R t v h1) k2⟩
  ·cases e
 | .cell a t::rest,vs,e=>by
  simp only [lm] at e;split at e
  ·rename_i p sz h1 h2
   split at e
   ·rename_i v vs' h3 h4
    cases e;obtain ⟨cvs,k1,k2⟩:=zT I R h4;obtain ⟨v',g1,g2⟩:=Fv I h2 h3 (R a p h1);have g3:=KD g1;simp only [Sem.run_bind] at g3;exact ⟨v'::cvs,by rw [List.mapM_cons];simp only [Sem.run_bind,g3,Result.andThen_ok,k1,Sem.run_pure], .cons _ _ _ _ g2 k2⟩
   ·cases e
  ·cases e
def oneOf:List A→A
 | [v]=>v
 | vs => .tup vs
theorem Ou {f:FuncId} {fn:Func} {O:nN} {env:Env} {s:S} {a:Act} {r:Ret} (T:St c.P O env s a w) (e:yU c f fn.results.toList env s=some r) :
  ∃ cv,(results fn a.tmps).run c.P w = .ok cv w∧∃ V' μ' gs,bZ c.P V' (⟨[],O.out,r.chg⟩:S).get μ' r.val cv gs∧Inv c.P V' (⟨[],O.out,r.chg⟩:S).get μ' w ∧
   Loose c.P V' (⟨[],O.out,r.chg⟩:S).get μ' w O.w.heap.size gs∧Evo O.V O.h O.μ O.w V' (⟨[],O.out,r.chg⟩:S).get μ' w:=by
 obtain ⟨V,μ,I,R,E,hout,hn,hdf⟩:=T;have hdl:s.dep=O.out.length:=congrArg List.length hout;have low:∀ i b,O.h i=some b→i.d < s.dep:=fun i b h=>by rw [hdl];exact O.low i b h
 unfold yU at e;cases hr:lm c f env s fn.results.toList with
 | none=>rw [hr] at e;cases e
 | some vs =>
  rw [hr] at e;simp only at e;obtain ⟨cvs,k1,k2⟩:=zT I R hr;have hlen:=k2.length;have key:∃ cv,(results fn a.tmps).run c.P w = .ok cv w∧dQ c.P V s.get μ (oneOf vs) cv:=by
   have hm:(fn.results.mapM (fun r=>match r with | .tmp t=>pure (a.tmps.getD t undef) | .cell x t=>do loadVar t (← asAddr (a.tmps.getD x undef)):ResultVar→Sem Value)).run c.P w = .ok cvs.toArray w:=by
    rw [Array.mapM_eq_mapM_toList];simp only [Sem.run_map,k1];rfl
   refine ⟨if h:cvs.toArray.size=1 then cvs.toArray[0] else .tuple cvs.toArray,?_,?_⟩
   ·unfold results;rw [Sem.run_bind]
    erw [hm]
    rfl
   ·cases k2 with
    | nil=>exact .tup [] _ rfl (fun i d v h=>by simp at h)
    | cons v cv vs' cvs' r1 r2 =>
     cases r2 with
     | nil=>simpa [oneOf] using r1
     | cons v2 cv2 vs2 cvs2 r3 r4 =>
      have hne:¬ ((cv::cv2::cvs2).toArray.size=1):=by simp
      rw [dif_neg hne];exact .tup _ _ (by simpa using hlen) (fun i d v h1 h2=>(dG.cons _ _ _ _ r1 (.cons _ _ _ _ r3 r4)).get i d v h1 (by simpa using h2))
  obtain ⟨cv,h1,h2⟩:=key;have e':(match s.result (c.strict f) (c.exports f) (oneOf vs) with | none=>none | some (v,is)=>if uh is then some ⟨v,s.chg⟩ else none)=some r:=e
  replace e:=e'
  cases hres:s.result (c.strict f) (c.exports f) (oneOf vs) with
  | none=>rw [hres] at e;cases e
  | some q =>
   obtain ⟨v,is⟩:=q;rw [hres] at e;simp only at e;split at e
   ·rename_i hnd
    cases e;obtain ⟨gs,g1,g2⟩:=ES I _ hres h2;refine ⟨cv,h1,zM V s μ w (c.exports f),μ,gs,?_⟩;rw [← hout];exact ⟨g1,FU I _,KH I E low g2 hnd,Gz I _ E low⟩
   ·cases e
end
theorem BR:∀ (as:List A) (i t:Nat) (v:A),look (CJ i as) t=some v→i≤t∧as[t - i]?=some v
 | [],i,t,v,h=>by cases h
 | a::as,i,t,v,h=>by
  simp only [CJ,look] at h;split at h
  ·rename_i e
   subst e;cases h;exact ⟨Nat.le_refl _,by simp⟩
  ·obtain ⟨h1,h2⟩:=BR as (i+1) t v h;refine ⟨by omega,?_⟩;rw [show t - i=(t - (i+1))+1 from by omega];simpa using h2
theorem Gg (out:Out):∀ i b,(oI out).get i=some b→i.d < out.length:=by
 intro i b h;have h1:=S.qQ h;have h2:(oI out).dep=out.length:=rfl;rcases Nat.lt_or_ge i.d out.length with q | q
 ·exact q
 ·have e:i.d=(oI out).dep:=by omega
  unfold S.get at h;rw [if_pos e] at h;cases h
structure Returns (P:Program) (rs:List ResultVar) (env:Env) (s:S) (r:Ret):Prop where
 ex:(∃ (c:Cfg) (f:FuncId),c.P=P∧yU c f rs env s=some r)∨(∃ t x,rs=[.tmp t]∧look env t=some (.d x)∧r=⟨.d x,s.chg⟩)∨∃ t f cs,rs=[.tmp t]∧look env t=some (.clo f cs)∧A.jH cs=[]∧r=⟨.clo f cs,s.chg⟩
theorem bH.intro {P:Program} {g:FuncId} {fn:Func} {code:Code} {args:List A} {out:Out} {r:Ret} (hf:P.funcs[g]?=some fn) (hb:fn.body=some code) (hn:fn.name ≠ "runtime.NumGoroutine")
  (hok:codeOk fn.ntmps code=true) (hle:args.length≤fn.ntmps) (h:CWp P code (CJ 0 args) ⟨[],out,[]⟩ (fun ex e s=>(match ex with | .exit _=>False | _=>True)∧Returns P fn.results.toList e s r)):bH P g args out r:=by
 refine ⟨⟨fn,hf,hn,by rw [hb];simp⟩,fun V μ w cargs I R=>?_⟩
 let O:nN:=⟨V,(oI out).get,μ,w,out,fn.ntmps,Gg out⟩
 have hl:=R.length
 let a:Act:={ tmps:=cargs.toArray++Array.replicate (fn.ntmps - cargs.toArray.size) undef,defers:=[] }
 have T:St P O (CJ 0 args) ⟨[],out,[]⟩ a w:=by
  refine ⟨V,μ,I,?_, .refl _ _ _ _,rfl,by simp [a,O];omega,rfl⟩;intro t v hv;obtain ⟨_,h2⟩:=BR args 0 t v hv;simp only [Nat.sub_zero] at h2;have ht:t < cargs.length:=by rw [hl];exact (List.getElem?_eq_some_iff.1 h2).1
  have hget:a.tmps.getD t undef=cargs[t]:=by
   simp only [a,Array.getD_eq_getD_getElem?];rw [Array.getElem?_append_left (by simpa using ht)];simp [ht]
  rw [hget];exact R.get t v _ h2 (List.getElem?_eq_getElem ht)
 have fin:∀ env s,Returns P fn.results.toList env s r→∀ a' w',St P O env s a' w'→a'.defers=[]∧∃ v,(results fn a'.tmps).run P w' = .ok v w'∧BA P V μ w out r v w':=by
  intro env s hret a' w' T';rcases hret.ex with ⟨c,f,hc,h0⟩ | ⟨t,x,hrs,hx,rfl⟩ | ⟨t,f,cs,hrs,hx,hids,rfl⟩
  case inr.inl =>
   obtain ⟨V1,μ1,I1,R1,E1,hout,hn1,hdf⟩:=T';have hdl:s.dep=O.out.length:=congrArg List.length hout;have low:∀ i b,O.h i=some b→i.d < s.dep:=fun i b h=>by rw [hdl];exact O.low i b h
   refine ⟨hdf,a'.tmps.getD t undef,?_,zM V1 s μ1 w' false,μ1,[],?_⟩
   ·have hra:fn.results=#[.tmp t]:=by rw [← Array.toArray_toList (xs:=fn.results),hrs]
    simp [results,hra]
   ·have hout':s.out=out:=hout;subst hout';exact ⟨⟨rfl, .d _ _ ((R1 t _ hx).dOf.mono jR)⟩,FU I1 _,⟨fun g hg=>(by cases hg),fun g hg=>(by cases hg), .nil⟩,Gz I1 _ E1 low⟩
  case inr.inr =>
   obtain ⟨V1,μ1,I1,R1,E1,hout,hn1,hdf⟩:=T';have hdl:s.dep=O.out.length:=congrArg List.length hout;have low:∀ i b,O.h i=some b→i.d < s.dep:=fun i b h=>by rw [hdl];exact O.low i b h
   refine ⟨hdf,a'.tmps.getD t undef,?_,zM V1 s μ1 w' false,μ1,[],?_⟩
   ·have hra:fn.results=#[.tmp t]:=by rw [← Array.toArray_toList (xs:=fn.results),hrs]
    simp [results,hra]
   ·have hout':s.out=out:=hout;subst hout';exact ⟨⟨rfl,((R1 t _ hx).mono jR (fun i hi=>by have hi':i∈A.jH cs:=hi;rw [hids] at hi';cases hi'))⟩,FU I1 _,⟨fun g hg=>(by cases hg),fun g hg=>(by cases hg), .nil⟩,Gz I1 _ E1 low⟩
  subst hc;obtain ⟨cv,h1,V',μ',gs,h2,h3,h4,h5⟩:=Ou T' h0;obtain ⟨_,_,_,_,_,_,_,hdf⟩:=T';exact ⟨hdf,cv,h1,V',μ',gs,h2,h3,h4,h5⟩
 refine calls_of_wp hf hb (wp_mono (h.ok O a w hok T) ?_)
 rintro e1 a1 w1 ⟨ex,env,s,rfl,T1,hex,hr⟩
 cases ex with
 | norm=>exact fin env s hr a1 w1 T1
 | ret=>exact fin env s hr a1 w1 T1
 | exit id=>exact hex.elim
theorem fi {P:Program} {g:FuncId} {fn:Func} {code:Code} {args:List A} {out:Out} {r:Ret} (hf:P.funcs[g]?=some fn) (hb:fn.body=some code) (hn:(fn.name == "runtime.NumGoroutine")=false)
  (hok:codeOk fn.ntmps code=true) (hle:Nat.ble args.length fn.ntmps=true) (h:CWp P code (CJ 0 args) ⟨[],out,[]⟩ (fun ex e s=>(match ex with | .exit _=>False | _=>True)∧Returns P fn.results.toList e s r)):bH P g args out r :=
 .intro hf hb (fun e=>by rw [e] at hn;simp at hn) hok (Nat.le_of_ble_eq_true hle) h
end Go.Lx
namespace Go.Lx
section
variable {c:Cfg} {f:FuncId} {call:FuncId→List A→Out→Option Ret}
theorem pX {env env':Nat→Option A}:∀ {xs:List Operand},(∀ x∈xs,az env x=az env' x)→bD env xs=bD env' xs
 | [],_=>rfl
 | x::xs,h=>by
  simp only [bD];rw [h x (.head _),pX (fun y hy=>h y (.tail _ hy))]
theorem tN {env env':Nat→Option A}:∀ {xs:List (Nat×Operand)},(∀ x∈xs.map (·.2),az env x=az env' x)→jE env xs=jE env' xs
 | [],_=>rfl
 | (i,x)::xs,h=>by
  simp only [jE];rw [h x (by simp),tN (fun y hy=>h y (by simp at hy ⊢;exact .inr hy))]
theorem NM {env env':Nat→Option A} {s:S} (o:Oper) (h:∀ x∈o.op.operands,az env x=az env' x):kM c f call env s o=kM c f call env' s o:=by
 obtain ⟨dst,op,type,pos,after,guard⟩:=o;cases op<;>simp only [Op.operands] at h<;>simp only [kM]
 case build t ps=>rw [tN (xs:=ps.toList) (env:=env) (env':=env') fun x hx=>h x (by simpa using hx)]
 case buildSlice t n ps=>rw [tN (xs:=ps.toList) (env:=env) (env':=env') fun x hx=>h x (by simpa using hx)]
 case makeFunc fn first captured =>
  cases fn<;>simp only []
  rw [pX (xs:=captured.toList) (env:=env) (env':=env') fun x hx=>h x (by simp;exact .inr (by simpa using hx))]
 case call k =>
  simp only [yL];have h1:bD env k.args.toList=bD env' k.args.toList:=pX fun x hx=>h x (by simp [Call.operands];exact .inr (by simpa using hx))
  rw [h1];cases hc:k.callee with
  | value y=>simp only [h y (by simp [Call.operands,hc])]
  | _=>rfl
 case pick k y z =>
  rw [h k (by simp)];split
  ·rename_i b _
   cases b
   ·simp [h z (by simp)]
   ·simp [h y (by simp)]
  ·rfl
 case slice t x lo hi mx=>cases lo<;>cases hi<;>cases mx<;>simp_all
 all_goals (first | rfl | (simp_all;done))
theorem FD {env:Env} {s s2:S} {x:Operand} {v:A} (h:qJ env x=true) (hv:az (look env) x=some v):iJ s v=iJ s2 v:=by
 cases x with
 | tmp t =>
  simp only [az] at hv;simp only [qJ,hv] at h;cases v<;>first | rfl | (rename_i xs;cases xs<;>rfl) | cases h
 | const k =>
  simp only [az] at hv;cases hk:ofValue k with
  | none=>rw [hk] at hv;cases hv
  | some d=>rw [hk] at hv;cases hv;rfl
 | func g=>cases hv;rfl
 | global g=>cases hv
theorem Cm {env:Env} {x:Operand} {v:A} (h:qJ env x=true) (hv:az (look env) x=some v):(∃ d,v = .d d)∨∃ xs,v = .tight xs:=by
 cases x with
 | tmp t =>
  simp only [az] at hv;simp only [qJ,hv] at h;cases v<;>first | exact .inl ⟨_,rfl⟩ | exact .inr ⟨_,rfl⟩ | cases h
 | const k =>
  simp only [az] at hv;cases hk:ofValue k with
  | none=>rw [hk] at hv;cases hv
  | some d=>rw [hk] at hv;cases hv;exact .inl ⟨_,rfl⟩
 | func g=>cases hv;exact .inl ⟨_,rfl⟩
 | global g=>cases hv
theorem Na {v:A} (h:(∃ d,v = .d d)∨∃ xs,v = .tight xs):∃ x,∀ s:S,s.toD v=some (x,none):=by
 rcases h with ⟨d,rfl⟩ | ⟨xs,rfl⟩
 ·exact ⟨d,fun s=>rfl⟩
 ·exact ⟨.sl xs,fun s=>rfl⟩
theorem DF {env:Env}:∀ {xs:List (Nat×Operand)} {ps:List (Nat×A)},xs.all (fun x=>qJ env x.2)=true→jE (look env) xs=some ps →
  ∃ ds,∀ s:S,pG s ps=some (ds,none)
 | [],ps,h,e=>by simp only [jE] at e;cases e;exact ⟨[],fun s=>rfl⟩
 | (i,x)::xs,ps,h,e=>by
  simp only [List.all_cons,Bool.and_eq_true] at h;simp only [jE] at e;split at e
  ·rename_i v vs h1 h2
   cases e;obtain ⟨ds,hds⟩:=DF h.2 h2;obtain ⟨y,hy⟩:=Na (Cm h.1 h1);refine ⟨(i,y)::ds,fun s=>?_⟩;simp only [pG,hy,S.ok,Option.getD_none,hds];rfl
  ·cases e
theorem IB {s s2:S} {t:TypeId} {u n:A} (h:(∃ d,u = .d d)∨∃ xs,u = .tight xs):di c s t u n=di c s2 t u n:=by
 unfold di;cases n<;>try rfl
 rename_i m
 cases m<;>try rfl
 simp only [];cases di.P' c t with
 | none=>rcases h with ⟨d,rfl⟩ | ⟨xs,rfl⟩<;>rfl
 | some ty =>
  rcases h with ⟨d,rfl⟩ | ⟨xs,rfl⟩
  ·cases ty<;>cases d<;>rfl
  ·cases ty<;>rfl
theorem Gf {env:Env} {x:Operand} {v:A} (h:qZ env x=true) (hv:az (look env) x=some v):(∃ d,v = .d d)∨∃ e o,v = .pimm e o:=by
 cases x with
 | tmp t =>
  simp only [az] at hv;simp only [qZ,hv] at h;cases v<;>first | exact .inl ⟨_,rfl⟩ | exact .inr ⟨_,_,rfl⟩ | cases h
 | _=>cases h
theorem TV {s s2:S} {t:TypeId} {u n:A} (h:(∃ d,u = .d d)∨∃ e o,u = .pimm e o):di c s t u n=di c s2 t u n:=by
 rcases h with h | ⟨e,o,rfl⟩
 ·exact IB (.inl h)
 ·unfold di;cases n<;>try rfl
  rename_i m
  cases m<;>try rfl
  simp only [];cases di.P' c t with
  | none=>rfl
  | some ty=>cases ty<;>rfl
theorem QX {s s2:S} {agg:Bool} {sz:Nat} {u:A} (h:(∃ d,u = .d d)∨∃ e o,u = .pimm e o):lw s agg sz u=lw s2 agg sz u:=by
 rcases h with ⟨d,rfl⟩ | ⟨e,o,rfl⟩
 ·cases d<;>rfl
 ·rfl
theorem Rt {env:Env} {s s2:S} {o:Oper} {v:A} (hc:∀ k,o.op ≠ .call k) (h:bI env o.op=false) (e:kM c f call (look env) s o=some (v, .same)):kM c f call (look env) s2 o=some (v, .same):=by
 obtain ⟨dst,op,type,pos,after,guard⟩:=o;cases op
 case call k=>exact absurd rfl (hc k)
 case slice t x lo hi mx =>
  simp only [kM] at e ⊢;simp only [bI,Bool.not_eq_false'] at h;split at e
  ·rename_i u l hh m hu hl hhh hm
   rcases Cm h hu with ⟨d,rfl⟩ | ⟨xs,rfl⟩
   ·cases d<;>exact e
   ·exact e
  ·cases e
 case indexAddr t x ix =>
  simp only [kM] at e ⊢;simp only [bI,Bool.not_eq_false'] at h;simp only [Bool.or_eq_true] at h;split at e
  ·rename_i u n hu hn
   rcases h with h | h
   ·rw [← IB (s:=s) (s2:=s2) (Cm h hu)];exact e
   ·rw [← TV (s:=s) (s2:=s2) (Gf h hu)];exact e
  ·cases e
 case load t x =>
  simp only [kM] at e ⊢;simp only [bI,Bool.not_eq_false'] at h;split at e
  ·rename_i p sz hp hsz
   rw [← QX (s:=s) (s2:=s2) (Gf h hp)];exact e
  ·cases e
 case binOp op t x y t2 =>
  simp only [kM] at e ⊢;simp only [bI,Bool.not_eq_false',Bool.and_eq_true] at h;split at e
  ·rename_i u n hu hn
   rw [← FD (s:=s) (s2:=s2) h.1 hu,← FD (s:=s) (s2:=s2) h.2 hn];exact e
  ·cases e
 case buildSlice t len parts =>
  simp only [kM] at e ⊢;simp only [bI,Bool.not_eq_false'] at h;split at e
  ·rename_i ps hps
   have hall:parts.toList.all (fun x=>qJ env x.2)=true:=by simpa using h
   obtain ⟨ds,hds⟩:=DF hall hps;simp only [lJ,hds] at e ⊢;split at e
   ·cases e
   ·split at e
    ·rename_i sz z q o hsz hz hq
     cases hq;split at e
     ·rename_i hc1
      rw [if_pos hc1];split at e
      ·cases e
      ·split at e
       ·split at e
        ·cases e
        ·rename_i hm
         rw [if_neg hm];exact e
       ·cases e
     ·cases e
    ·cases e
  ·cases e
 case assign x =>
  simp only [kM] at e ⊢;split at e
  ·split at e
   ·rename_i hk
    rw [if_pos hk];exact e
   ·rename_i hk
    rw [if_neg hk];split at e
    ·cases e
    ·exact e
  ·exact e
  ·cases e
 case makeFunc fn first captured=>cases fn<;>exact e
 all_goals first | (simp [bI] at h;done) | (simp only [kM] at e ⊢;exact e) | exact e
end
end Go.Lx
namespace Go.Lx
section
variable {c:Cfg} {f:FuncId} {call:FuncId→List A→Out→Option Ret}
theorem Qi {s s2:S} {t:TypeId} {x:A} (h:∀ i,x ≠ .mref i):Gm c s t x=Gm c s2 t x:=by
 unfold Gm;cases c.P.underlying t with
 | none=>cases x<;>rfl
 | some ty =>
  cases x with
  | d y=>cases ty<;>cases y<;>rfl
  | mref i=>exact absurd rfl (h i)
  | _=>cases ty<;>rfl
theorem Nc {env:Env} {s s2:S} {o:Oper} {k:Call} {v:A} (hc:o.op = .call k) (h:bI env o.op=false) (e:kM c f call (look env) s o=some (v, .same)):kM c f call (look env) s2 o=some (v, .same):=by
 obtain ⟨dst,op,type,pos,after,guard⟩:=o;simp only at hc;subst hc;obtain ⟨callee,args,ts⟩:=k;cases callee with
 | builtin b =>
  cases b<;>first | (simp [bI] at h;done) | skip
  case len =>
   simp only [kM,yL] at e ⊢;simp only [bI,Bool.not_eq_false'] at h;split at e
   ·cases e
   ·rename_i as has
    cases as with
    | nil=>exfalso;revert e;simp only [iU];cases ts.toList<;>simp
    | cons x rest =>
     cases rest with
     | cons y r=>exfalso;revert e;simp only [iU];cases ts.toList<;>simp
     | nil =>
      have hx:∀ i,x ≠ .mref i:=by
       rintro i rfl
       cases hl:args.toList with
       | nil=>rw [hl] at has;simp [bD] at has
       | cons p ps =>
        rw [hl] at has h;simp only [bD] at has;split at has
        ·rename_i u us h1 h2
         cases has;simp only [List.all_cons,Bool.and_eq_true] at h;have h3:=h.1;cases p with
         | tmp t =>
          simp only [az] at h1;simp only [h1,qJ] at h3;cases h3
         | const q =>
          simp only [az] at h1;cases hq:ofValue q<;>(rw [hq] at h1;cases h1)
         | func g=>cases h1
         | global g=>cases h1
        ·cases has
      simp only [iU] at e ⊢;cases hts:ts.toList with
      | nil=>rw [hts] at e;cases e
      | cons t tr =>
       rw [hts] at e;simp only at e ⊢;rw [← Qi (s:=s) (s2:=s2) hx];exact e
  case min =>
   simp only [kM,yL] at e ⊢;split at e
   ·cases e
   ·rename_i as _
    simp only [iU] at e ⊢;generalize ts.toList=l at e ⊢;rcases l with _ | ⟨t,_ | ⟨t2,_ | ⟨t3,l⟩⟩⟩<;>rcases as with _ | ⟨x,_ | ⟨y,_ | ⟨z,r⟩⟩⟩<;>first | exact e | (cases x<;>exact e)
  case max =>
   simp only [kM,yL] at e ⊢;split at e
   ·cases e
   ·rename_i as _
    simp only [iU] at e ⊢;generalize ts.toList=l at e ⊢;rcases l with _ | ⟨t,_ | ⟨t2,_ | ⟨t3,l⟩⟩⟩<;>rcases as with _ | ⟨x,_ | ⟨y,_ | ⟨z,r⟩⟩⟩<;>first | exact e | (cases x<;>exact e)
 | _=>simp [bI] at h
end
end Go.Lx
namespace Go.Lx
section
variable {P:Program} {V V':View} {μ μ':Id→Pl} {w w':World} {hB hS h':Id→Option Blk}
def wP (h' hB:Id→Option Blk):Id→Option Blk:=fun i=>match h' i with | some b=>some b | none=>hB i
def zV (h':Id→Option Blk) (μ' μ:Id→Pl):Id→Pl:=fun i=>match h' i with | some _=>μ' i | none=>μ i
theorem oN {i:Id} {b:Blk} (h:h' i=some b):wP h' hB i=some b:=by unfold wP;rw [h]
theorem nV {i:Id} (h:h' i=none):wP h' hB i=hB i:=by unfold wP;rw [h]
theorem jT {i:Id} {b:Blk} (h:h' i=some b):zV h' μ' μ i=μ' i:=by unfold zV;rw [h]
theorem oP {i:Id} (h:h' i=none):zV h' μ' μ i=μ i:=by unfold zV;rw [h]
theorem Inv.join (I:Inv P V hB μ w) (hs:∀ i b,hS i=some b→hB i=some b) (I':Inv P V' h' μ' w') (E:Evo V hS μ w V' h' μ' w') (hnew:∀ i b,h' i=some b→hS i=none→hB i=none) :
  Inv P V' (wP h' hB) (zV h' μ' μ) w'∧Evo V hB μ w V' (wP h' hB) (zV h' μ' μ) w':=by
 have hkeepS:∀ i,h' i=none→hS i=none:=by
  intro i hi;cases hq:hS i with
  | none=>rfl
  | some b=>obtain ⟨b',h1,_⟩:=E.keep i b hq;rw [hi] at h1;cases h1
 have K':∀ j b,h' j=some b→∃ b',wP h' hB j=some b'∧kY b (μ' j) b' (zV h' μ' μ j):=fun j b hj=>⟨b,oN hj,by rw [jT hj];exact .refl _ _⟩
 have K:∀ j b,hB j=some b→∃ b',wP h' hB j=some b'∧kY b (μ j) b' (zV h' μ' μ j):=by
  intro j b hj;cases hq:h' j with
  | none=>exact ⟨b,by rw [nV hq];exact hj,by rw [oP hq];exact .refl _ _⟩
  | some b' =>
   refine ⟨b',oN hq,?_⟩;rw [jT hq];cases hz:hS j with
   | none=>rw [hnew j b' hq hz] at hj;cases hj
   | some b0 =>
    have:=hs j b0 hz;rw [hj] at this;cases this;obtain ⟨b2,h1,h2⟩:=E.keep j b hz;rw [hq] at h1;cases h1;exact h2
 have notOwned:∀ i b,h' i=none→hB i=some b→(μ i).nil=false→¬ kQ hS μ (μ i).blk:=by
  rintro i b hi hb hn ⟨j,x,hx,hnj,hbj⟩
  exact I.apart i j b x hb (hs j x hx) (fun e=>by rw [← e,hkeepS i hi] at hx;cases hx) hn hnj hbj.symm
 have heap:∀ i b,h' i=none→hB i=some b→(μ i).nil=false→w'.heap[(μ i).blk]?=w.heap[(μ i).blk]?:=fun i b hi hb hn =>
  E.rest _ (kQ.lt I ⟨i,b,hb,hn,rfl⟩) (notOwned i b hi hb hn)
 have cellc:∀ i b,h' i=none→hB i=some b→(μ i).nil=false→∀ c v,V'.cell (μ i).blk c v→V.cell (μ i).blk c v:=by
  intro i b hi hb hn c v hv;rcases E.newc _ _ _ hv with q | q | q
  ·exact q
  ·exact absurd q (notOwned i b hi hb hn)
  ·have:=kQ.lt I ⟨i,b,hb,hn,rfl⟩;omega
 have mapc:∀ i b,h' i=none→hB i=some b→(μ i).nil=false→∀ e c,V'.map (μ i).blk e c→V.map (μ i).blk e c:=by
  intro i b hi hb hn e c hv;rcases E.newm _ _ _ hv with q | q | q
  ·exact q
  ·exact absurd q (notOwned i b hi hb hn)
  ·have:=kQ.lt I ⟨i,b,hb,hn,rfl⟩;omega
 refine ⟨⟨?_,?_,I'.cell,I'.map,?_⟩,⟨E.os,E.tape,E.output,E.size,?_,E.view,?_,?_,?_,K⟩⟩
 ·intro i b hi;cases hq:h' i with
  | some b' =>
   rw [oN hq] at hi;cases hi;rw [jT hq];exact (I'.blk i b hq).mono K'
  | none =>
   rw [nV hq] at hi;rw [oP hq];have B:=(I.blk i b hi).mono K;cases b with
   | arr sz l xs =>
    rcases B with B | ⟨b1,b2,b3,b4,cells,elem,b5,b6,hpl,ev,b7⟩
    ·exact .inl B
    ·exact .inr ⟨b1,b2,fun e c v x=>b3 e c v (cellc i _ hq hi b1 c v x),fun c v x=>b4 c v (cellc i _ hq hi b1 c v x),cells,elem,(heap i _ hq hi b1).trans b5,b6,hpl,ev,
      fun k d hd=>⟨(b7 k d hd).1.mono E.view,(b7 k d hd).2⟩⟩
   | box cs =>
    obtain ⟨b1,b3,cells,elem,b5,b6,b7⟩:=B;exact ⟨b1,fun c v x=>b3 c v (cellc i _ hq hi b1 c v x),cells,elem,(heap i _ hq hi b1).trans b5,b6,fun k a v ha hv=>⟨(b7 k a v ha hv).1.mono E.view (fun j _ b hb=>⟨b,hb, .refl _ _⟩),(b7 k a v ha hv).2⟩⟩
   | map kt l es =>
    obtain ⟨b1,b3,en,b5,b6,b7,b8⟩:=B;exact ⟨b1,fun e x c v=>b3 e x c (mapc i _ hq hi b1 x c v),en,(heap i _ hq hi b1).trans b5,b6,fun k e m he hm=>⟨(b7 k e m he hm).1.mono E.view,(b7 k e m he hm).2.1.mono E.view,(b7 k e m he hm).2.2⟩,b8⟩
   | nest sz xs =>
    rcases B with B | ⟨b1,b2,b3,cells,elem,b5,b6,hpl,b7⟩
    ·exact .inl B
    ·exact .inr ⟨b1,b2,fun c v x=>b3 c v (cellc i _ hq hi b1 c v x),cells,elem,(heap i _ hq hi b1).trans b5,b6,hpl,fun k e he=>⟨(b7 k e he).1,fun q a v ha hv=>((b7 k e he).2 q a v ha hv).mono E.view (fun j _ b hb=>⟨b,hb, .refl _ _⟩)⟩⟩
   | fam _=>exact B.elim
   | gap=>exact B
   | tail sz2 g2 xs2 =>
    rcases B with B | ⟨b1,b2,b3,c2,e2,b5,b6,hpl2,ev2,b7⟩
    ·exact .inl B
    ·exact .inr ⟨b1,b2,fun c v x=>b3 c v (cellc i _ hq hi b1 c v x),c2,e2,(heap i _ hq hi b1).trans b5,b6,hpl2,ev2,fun k e he=>⟨(b7 k e he).1.mono E.view,(b7 k e he).2⟩⟩
 ·have mixed:∀ i j b b',h' i=some b→h' j=none→hB j=some b'→(μ' i).nil=false→(μ j).nil=false→(μ' i).blk≠(μ j).blk:=by
   intro i j b b' hi hj hbj n1 n2;rcases E.place i b hi n1 with ⟨b0,h1,h2,h3⟩ | h1
   ·rw [← h3];exact I.apart i j b0 b' (hs i b0 h1) hbj (fun e=>by rw [e,hkeepS j hj] at h1;cases h1) h2 n2
   ·have:=kQ.lt I ⟨j,b',hbj,n2,rfl⟩;omega
  intro i j b b' hi hj hne n1 n2;cases hq:h' i with
  | some x =>
   rw [jT hq] at n1 ⊢;cases hz:h' j with
   | some y =>
    rw [jT hz] at n2 ⊢;exact I'.apart i j x y hq hz hne n1 n2
   | none =>
    rw [oP hz] at n2 ⊢;rw [nV hz] at hj;exact mixed i j x b' hq hz hj n1 n2
  | none =>
   rw [oP hq] at n1 ⊢;rw [nV hq] at hi;cases hz:h' j with
   | some y =>
    rw [jT hz] at n2 ⊢;exact fun e=>mixed j i y b hz hq hi n2 n1 e.symm
   | none =>
    rw [oP hz] at n2 ⊢;rw [nV hz] at hj;exact I.apart i j b b' hi hj hne n1 n2
 ·intro i cs hi;cases hq:h' i with
  | some x=>rw [oN hq] at hi;cases hi;exact I'.tidy i cs hq
  | none=>rw [nV hq] at hi;exact I.tidy i cs hi
 ·intro b hb ho;exact E.rest b hb (fun ⟨j,x,hx,hn,hbj⟩=>ho ⟨j,x,hs j x hx,hn,hbj⟩)
 ·intro b c v hv;rcases E.newc b c v hv with q | ⟨j,x,hx,hn,hbj⟩ | q
  ·exact .inl q
  ·exact .inr (.inl ⟨j,x,hs j x hx,hn,hbj⟩)
  ·exact .inr (.inr q)
 ·intro b c v hv;rcases E.newm b c v hv with q | ⟨j,x,hx,hn,hbj⟩ | q
  ·exact .inl q
  ·exact .inr (.inl ⟨j,x,hs j x hx,hn,hbj⟩)
  ·exact .inr (.inr q)
 ·intro i b hi hn;cases hq:h' i with
  | some x =>
   rw [jT hq] at hn ⊢;rcases E.place i x hq hn with ⟨b0,h1,h2,h3⟩ | h1
   ·exact .inl ⟨b0,hs i b0 h1,h2,h3⟩
   ·exact .inr h1
  | none =>
   rw [oP hq] at hn ⊢;rw [nV hq] at hi;exact .inl ⟨b,hi,hn,rfl⟩
end
end Go.Lx
namespace Go.Lx
abbrev Facts:=List (Id×Blk)
def Eg (s:S) (F:Facts):Prop:=∀ p,p∈F→s.get p.1=some p.2
theorem SI {s:S}:Eg s []:=fun p h=>by cases h
theorem UO {s:S} {i:Id} {b:Blk} {F:Facts} (h:s.get i=some b) (k:Eg s F):Eg s ((i,b)::F):=fun p hp=>by
 cases hp with
 | head=>exact h
 | tail _ hp=>exact k p hp
structure TE (P:Program) (F:Facts) (env:Env) (o:Oper) (v:A) (dl:Delta):Prop where
 same:dl = .same
 ok:∀ s,Eg s F→dR P env s o v .same
 ids:∀ j,j∈v.ids→∃ p,p∈F∧(p.1=j∨∃ cs,p.2 = .box cs∧j∈A.jH cs)
inductive Js (P:Program) (F:Facts) (ops:List Oper) (b:List Nat):List (Nat×Oper)→List (Nat×Loc)→Env→S→Env→S→List Nat→List Nat→Prop where
 | nil (adds:List (Nat×Loc)) (env:Env) (s:S):Js P F ops b [] adds env s env (s.plus (kX adds)) [] []
 | skip {i:Nat} {o:Oper} {rest:List (Nat×Oper)} {adds:List (Nat×Loc)} {env env':Env} {s s':S} {m r:List Nat} (hg:iF ops env o=some false) (h:Js P F ops b rest adds (Es o.dst .undef env) s env' s' m r) :
   Js P F ops b ((i,o)::rest) adds env s env' s' m r
 | same {i:Nat} {o:Oper} {rest:List (Nat×Oper)} {adds:List (Nat×Loc)} {env env':Env} {s s':S} {m r:List Nat} {v:A} (hg:iF ops env o=some true) (ho:dR P env (s.plus (lZ b i adds)) o v .same)
   (h:Js P F ops b rest adds (Es o.dst v env) s env' s' m r):Js P F ops b ((i,o)::rest) adds env s env' s' m (if bI env o.op then i::r else r)
 | add {i:Nat} {o:Oper} {rest:List (Nat×Oper)} {adds:List (Nat×Loc)} {env env':Env} {s s':S} {m r:List Nat} {v:A} {bs:Loc} (hg:iF ops env o=some true) (ho:dR P env (s.plus (lZ b i adds)) o v (.add bs))
   (hf:qj (kX adds++s.loc) bs=true) (h:Js P F ops b rest ((i,bs)::adds) (Es o.dst v env) s env' s' m r):Js P F ops b ((i,o)::rest) adds env s env' s' m (i::r)
 | set {i:Nat} {o:Oper} {rest:List (Nat×Oper)} {adds:List (Nat×Loc)} {env env':Env} {s s1 s':S} {m r:List Nat} {v:A} (hg:iF ops env o=some true) (ho:dR P env (s.plus (lZ b i adds)) o v (.set s1))
   (hs:zK b i adds=true) (hf:Eg s1 F) (h:Js P F ops b rest [] (Es o.dst v env) s1 env' s' m r):Js P F ops b ((i,o)::rest) adds env s env' s' (i::m) (if bI env o.op then i::r else r)
 | loc {i:Nat} {o:Oper} {rest:List (Nat×Oper)} {adds:List (Nat×Loc)} {env env':Env} {s s':S} {m r:List Nat} {v:A} (hg:iF ops env o=some true) (ho:dR P env (s.plus (lZ b i adds)) o v .same) (hl:TE P F env o v .same)
   (h:Js P F ops b rest adds (Es o.dst v env) s env' s' m r):Js P F ops b ((i,o)::rest) adds env s env' s' m r
structure Rec where
 env:Env
 base:S
 adds:List (Nat×Loc)
 val:A
 dl:Option Delta
section
variable {P:Program}
def AY (P:Program) (F:Facts) (ops:List Oper) (b:List Nat) (mv rd:List Nat) (j:Nat) (o:Oper) (r r':Rec):Prop :=
 r'.env=Es o.dst r.val r.env ∧
 match r.dl with
 | none=>iF ops r.env o=some false∧r.val = .undef∧r'.base=r.base∧r'.adds=r.adds
 | some dl=>iF ops r.env o=some true∧dR P r.env (r.base.plus (lZ b j r.adds)) o r.val dl∧((bI r.env o.op || dl.QE)=true→j∈rd∨TE P F r.env o r.val dl) ∧
  match dl with
  | .same=>r'.base=r.base∧r'.adds=r.adds
  | .add bs=>qj (kX r.adds++r.base.loc) bs=true∧r'.base=r.base∧r'.adds=(j,bs)::r.adds
  | .set s'=>zK b j r.adds=true∧r'.base=s'∧r'.adds=[]∧j∈mv∧Eg s' F
theorem AY.mono {F:Facts} {ops:List Oper} {b mv rd mv' rd':List Nat} {j:Nat} {o:Oper} {r r':Rec} (h:AY P F ops b mv rd j o r r') (h1:∀ x,x∈mv→x∈mv') (h2:∀ x,x∈rd→x∈rd'):AY P F ops b mv' rd' j o r r':=by
 obtain ⟨e,h⟩:=h;refine ⟨e,?_⟩;cases hd:r.dl with
 | none=>rw [hd] at h;exact h
 | some dl =>
  rw [hd] at h;obtain ⟨k1,k2,k3,k4⟩:=h;refine ⟨k1,k2,fun q=>(k3 q).imp (h2 _) id,?_⟩;cases dl with
  | same=>exact k4
  | add bs=>exact k4
  | set s'=>exact ⟨k4.1,k4.2.1,k4.2.2.1,h1 _ k4.2.2.2.1,k4.2.2.2.2⟩
theorem trace (F:Facts) (ops:List Oper) (b:List Nat):∀ (l:List Oper) (k:Nat) {adds:List (Nat×Loc)} {env env':Env} {s s':S} {mv rd:List Nat},Js P F ops b (jO k l) adds env s env' s' mv rd →
  ∃ tr:Nat→Rec,(tr k).env=env∧(tr k).base=s∧(tr k).adds=adds∧(∀ (j:Nat) o,l[j]?=some o→AY P F ops b mv rd (k+j) o (tr (k+j)) (tr (k+j+1))) ∧
   (tr (k+l.length)).env=env'∧s'=(tr (k+l.length)).base.plus (kX (tr (k+l.length)).adds)
 | [],k,adds,env,env',s,s',mv,rd,e=>by
  simp only [jO] at e;cases e;exact ⟨fun _=>⟨env,s,adds, .undef,none⟩,rfl,rfl,rfl,fun j o h=>by simp at h,rfl,rfl⟩
 | o::l,k,adds,env,env',s,s',mv,rd,e=>by
  simp only [jO] at e;have build:∀ (r:Rec) (mv1 rd1:List Nat) (adds1:List (Nat×Loc)) (env1:Env) (s1:S),r.env=env→r.base=s→r.adds=adds→Js P F ops b (jO (k+1) l) adds1 env1 s1 env' s' mv1 rd1 →
    (∀ x,x∈mv1→x∈mv)→(∀ x,x∈rd1→x∈rd)→(∀ r':Rec,r'.env=env1→r'.base=s1→r'.adds=adds1→AY P F ops b mv rd k o r r') →
    ∃ tr:Nat→Rec,(tr k).env=env∧(tr k).base=s∧(tr k).adds=adds∧(∀ (j:Nat) o',(o::l)[j]?=some o'→AY P F ops b mv rd (k+j) o' (tr (k+j)) (tr (k+j+1))) ∧
     (tr (k+(o::l).length)).env=env'∧s'=(tr (k+(o::l).length)).base.plus (kX (tr (k+(o::l).length)).adds):=by
   intro r mv1 rd1 adds1 env1 s1 e1 e2 e3 he hm hr hst;obtain ⟨tr,t1,t2,t3,t4,t5,t6⟩:=trace F ops b l (k+1) he;refine ⟨fun n=>if n=k then r else tr n,by simp [e1],by simp [e2],by simp [e3],?_,?_,?_⟩
   ·intro j o' ho;cases j with
    | zero =>
     simp at ho;subst ho;simpa using hst (tr (k+1)) t1 t2 t3
    | succ j =>
     have:=(t4 j o' (by simpa using ho)).mono hm hr;have n1:¬ (k+(j+1)=k):=by omega
     have n2:¬ (k+(j+1)+1=k):=by omega
     simp only [if_neg n1,if_neg n2];rw [show k+(j+1)=k+1+j from by omega];exact this
   ·have n1:¬ (k+(o::l).length=k):=by simp
    simp only [if_neg n1];rw [show k+(o::l).length=k+1+l.length from by simp;omega];exact t5
   ·have n1:¬ (k+(o::l).length=k):=by simp
    simp only [if_neg n1];rw [show k+(o::l).length=k+1+l.length from by simp;omega];exact t6
  cases e with
  | skip hg h=>exact build ⟨env,s,adds, .undef,none⟩ mv rd _ _ _ rfl rfl rfl h (fun _ h=>h) (fun _ h=>h) (fun r' h1 h2 h3=>⟨h1,hg,rfl,h2,h3⟩)
  | @same _ _ _ _ _ _ _ _ _ r v hg ho h =>
   exact build ⟨env,s,adds,v,some .same⟩ _ r _ _ _ rfl rfl rfl h (fun _ h=>h) (fun x h=>by split;exact .tail _ h;exact h)
    (fun r' h1 h2 h3=>⟨h1,hg,ho,fun q=>by simp only [Delta.QE,Bool.or_false] at q;rw [if_pos q];exact .inl (.head _),h2,h3⟩)
  | @add _ _ _ _ _ _ _ _ _ r v bs hg ho hf h =>
   exact build ⟨env,s,adds,v,some (.add bs)⟩ _ r _ _ _ rfl rfl rfl h (fun _ h=>h) (fun x h => .tail _ h)
    (fun r' h1 h2 h3=>⟨h1,hg,ho,fun _ => .inl (.head _),hf,h2,h3⟩)
  | @set _ _ _ _ _ _ _ s1 _ m r v hg ho hs hf h =>
   exact build ⟨env,s,adds,v,some (.set s1)⟩ m r _ _ _ rfl rfl rfl h (fun _ h => .tail _ h) (fun x h=>by split;exact .tail _ h;exact h)
    (fun r' h1 h2 h3=>⟨h1,hg,ho,fun q=>by simp only [Delta.QE,Bool.or_false] at q;rw [if_pos q];exact .inl (.head _),hs,h2,h3, .head _,hf⟩)
  | @loc _ _ _ _ _ _ _ _ _ _ v hg ho hl h =>
   exact build ⟨env,s,adds,v,some .same⟩ mv rd _ _ _ rfl rfl rfl h (fun _ h=>h) (fun _ h=>h) (fun r' h1 h2 h3=>⟨h1,hg,ho,fun _ => .inr hl,h2,h3⟩)
end
end Go.Lx
namespace Go.Lx
def Ls (acc:List Nat) (o:Oper):Nat:=o.after.toList.foldl (fun s e=>if Region.binds .any e then s ||| 2 ^ e.on ||| acc.getD e.on 0 else s) 0
def masks:List Nat→List Oper→List Nat
 | acc,[]=>acc
 | acc,o::l=>masks (acc++[Ls acc o]) l
theorem F6 (ops:List Oper):dh ops=masks [] ops:=by
 have key:∀ (l:List Oper) (acc:List Nat),l.foldl (fun (acc:List Nat) o=>acc++[o.after.toList.foldl (fun s e=>if Region.binds .any e then s ||| 2 ^ e.on ||| acc.getD e.on 0 else s) 0]) acc=masks acc l:=by
  intro l
  induction l with
  | nil=>intro acc;rfl
  | cons o l ih=>intro acc;exact ih _
 exact key ops []
theorem CQ:∀ (l:List Oper) (acc:List Nat) (i:Nat),i < acc.length→(masks acc l).getD i 0=acc.getD i 0
 | [],acc,i,h=>rfl
 | o::l,acc,i,h=>by
  simp only [masks];rw [CQ l _ i (by simp;omega)];simp [List.getElem?_append_left h]
theorem Ji:∀ (l:List Oper) (acc:List Nat) (j:Nat) (o:Oper),l[j]?=some o→∃ acc',acc'.length=acc.length+j∧(∀ i,i < acc'.length→acc'.getD i 0=(masks acc l).getD i 0)∧(masks acc l).getD (acc.length+j) 0=Ls acc' o
 | [],acc,j,o,h=>by simp at h
 | x::l,acc,0,o,h=>by
  simp at h;subst h;refine ⟨acc,rfl,fun i hi=>(CQ _ _ i hi).symm,?_⟩;simp only [masks];rw [CQ l _ _ (by simp)];simp
 | x::l,acc,j+1,o,h=>by
  obtain ⟨acc',h1,h2,h3⟩:=Ji l (acc++[Ls acc x]) j o (by simpa using h);refine ⟨acc',by rw [h1];simp;omega,fun i hi=>by rw [h2 i hi];rfl,?_⟩;simp only [masks];rw [← h3]
  congr 1
  simp;omega
theorem Jf (acc:List Nat) (j:Nat):∀ (l:List Edge) (s:Nat),(l.foldl (fun s e=>if Region.binds .any e then s ||| 2 ^ e.on ||| acc.getD e.on 0 else s) s).testBit j=true ↔
  s.testBit j=true∨∃ e,e∈l∧Region.binds .any e=true∧(e.on=j∨(acc.getD e.on 0).testBit j=true)
 | [],s=>by simp
 | e::l,s=>by
  simp only [List.foldl_cons];rw [Jf acc j l];by_cases hb:Region.binds .any e=true
  ·rw [if_pos hb];simp only [Nat.testBit_or,Bool.or_eq_true,Nat.testBit_two_pow,decide_eq_true_eq];constructor
   ·rintro (((h | h) | h) | ⟨e',h1,h2⟩)
    ·exact .inl h
    ·exact .inr ⟨e, .head _,hb, .inl h⟩
    ·exact .inr ⟨e, .head _,hb, .inr h⟩
    ·exact .inr ⟨e', .tail _ h1,h2⟩
   ·rintro (h | ⟨e',h1,h2,h3⟩)
    ·exact .inl (.inl (.inl h))
    ·cases h1 with
     | head =>
      rcases h3 with h3 | h3
      ·exact .inl (.inl (.inr h3))
      ·exact .inl (.inr h3)
     | tail _ h1=>exact .inr ⟨e',h1,h2,h3⟩
  ·rw [if_neg hb];constructor
   ·rintro (h | ⟨e',h1,h2⟩)
    ·exact .inl h
    ·exact .inr ⟨e', .tail _ h1,h2⟩
   ·rintro (h | ⟨e',h1,h2,h3⟩)
    ·exact .inl h
    ·cases h1 with
     | head=>exact absurd h2 hb
     | tail _ h1=>exact .inr ⟨e',h1,h2,h3⟩
def Ordered (ops:List Oper):Prop:=∀ (i:Nat) o,ops[i]?=some o→∀ e,e∈o.after.toList→Region.binds .any e=true→e.on < i
def Before (ops:List Oper) (j i:Nat):Prop:=((dh ops).getD i 0).testBit j=true
theorem wu {ops:List Oper} (ho:Ordered ops) {i:Nat} {o:Oper} (hi:ops[i]?=some o) (j:Nat) :
  Before ops j i↔∃ e,e∈o.after.toList∧Region.binds .any e=true∧(e.on=j∨Before ops j e.on):=by
 unfold Before;rw [F6];obtain ⟨acc',h1,h2,h3⟩:=Ji ops [] i o hi;simp only [List.length_nil,Nat.zero_add] at h1 h3;rw [h3];unfold Ls;rw [Jf];constructor
 ·rintro (h | ⟨e,k1,k2,k3⟩)
  ·simp at h
  ·refine ⟨e,k1,k2,?_⟩;rw [h2 e.on (by rw [h1];exact ho i o hi e k1 k2)] at k3;exact k3
 ·rintro ⟨e,k1,k2,k3⟩
  refine .inr ⟨e,k1,k2,?_⟩;rw [h2 e.on (by rw [h1];exact ho i o hi e k1 k2)];exact k3
theorem jU {ops:List Oper} (ho:Ordered ops):∀ (i:Nat) {j:Nat},i < ops.length→Before ops j i→j < i:=by
 intro i
 induction i using Nat.strongRecOn with
 | _ i ih =>
  intro j hi hb;have hget:=List.getElem?_eq_getElem hi;obtain ⟨e,h1,h2,h3⟩:=(wu ho hget j).1 hb;have he:=ho i _ hget e h1 h2;rcases h3 with rfl | h3
  ·exact he
  ·have:=ih e.on he (by omega) h3;omega
end Go.Lx
namespace Go.Lx
theorem D8:∀ (l:List Oper) (n i:Nat) (o:Oper),l[i]?=some o→(n+i,o)∈jO n l
 | [],n,i,o,h=>by simp at h
 | x::l,n,0,o,h=>by simp at h;subst h;exact .head _
 | x::l,n,i+1,o,h=>by
  have:=D8 l (n+1) i o (by simpa using h);rw [show n+(i+1)=n+1+i from by omega];exact .tail _ this
theorem wX {ops:List Oper} {i j:Nat}:comparable (dh ops) i j=true↔Before ops i j∨Before ops j i:=by
 unfold comparable Before;simp
structure uY (ops:List Oper) (mv rd:List Nat):Prop where
 ord:Ordered ops
 names:∀ (i j:Nat) o p,ops[i]?=some o→ops[j]?=some p→i≠j→(Before ops i j∨Before ops j i)∨∀ d,o.dst=some d→d∉uT ops p∧p.dst≠some d
 mem:∀ i,i∈mv→∀ (j:Nat) p,ops[j]?=some p→i≠j→j∈rd∨j∈mv→Before ops i j∨Before ops j i
theorem Gy {ops:List Oper} {mv rd:List Nat} (h:vX ops mv rd=true):uY ops mv rd:=by
 unfold vX at h;simp only [Bool.and_eq_true] at h;obtain ⟨⟨h1,h2⟩,h3⟩:=h;refine ⟨?_,?_,?_⟩
 ·intro i o hi e he hb;have:=List.all_eq_true.1 (List.all_eq_true.1 h1 (i,o) (by simpa using D8 ops 0 i o hi)) e he;simp [hb] at this;exact this
 ·intro i j o p hi hj hne;have:=List.all_eq_true.1 (List.all_eq_true.1 h2 (i,o) (by simpa using D8 ops 0 i o hi)) (j,p) (by simpa using D8 ops 0 j p hj);simp only [Bool.or_eq_true,beq_iff_eq] at this;rcases this with (h | h) | h
  ·exact absurd h hne
  ·exact .inl (wX.1 h)
  ·refine .inr fun d hd=>?_
   rw [hd] at h;simp at h;exact ⟨by simpa using h.1,h.2⟩
 ·intro i hi j p hj hne hr;have:=List.all_eq_true.1 (List.all_eq_true.1 h3 i hi) (j,p) (by simpa using D8 ops 0 j p hj);simp only [Bool.or_eq_true,beq_iff_eq,Bool.and_eq_true,Bool.not_eq_true'] at this;rcases this with (h | h) | h
  ·exact absurd h hne
  ·exact wX.1 h
  ·simp at h;rcases hr with q | q
   ·exact absurd q h.1
   ·exact absurd q h.2
end Go.Lx
namespace Go.Lx
theorem lC (l r:Loc) (t n:Nat):bg (l++r) t n=match bg l t n with | some b=>some b | none=>bg r t n:=by
 induction l with
 | nil=>rfl
 | cons x l ih =>
  obtain ⟨⟨a,b⟩,y⟩:=x;rw [List.cons_append];by_cases e1:t=a
  ·subst e1;cases hv:y.view b n with
   | some z=>rw [eP hv,eP hv]
   | none=>rw [dD hv,dD hv];exact ih
  ·rw [eu e1,eu e1];exact ih
theorem pq (s:S) (bs:Loc) (i:Id):(s.plus bs).get i=if i.d=s.dep then (match bg bs i.t i.n with | some b=>some b | none=>s.get i) else s.get i:=by
 have hd:(s.plus bs).dep=s.dep:=rfl;by_cases e:i.d=s.dep
 ·rw [if_pos e];have h1:(s.plus bs).get i=bg (bs++s.loc) i.t i.n:=by unfold S.get;rw [hd,if_pos e];rfl
  have h2:s.get i=bg s.loc i.t i.n:=by unfold S.get;rw [if_pos e]
  rw [h1,h2,lC]
 ·rw [if_neg e];unfold S.get;rw [hd,if_neg e,if_neg e];rfl
theorem Df {l:Loc} {t n:Nat} (h:∀ e∈l,e.1.1≠t):bg l t n=none:=by
 induction l with
 | nil=>rfl
 | cons x l ih =>
  obtain ⟨⟨a,b⟩,y⟩:=x;rw [eu (fun e=>h _ (.head _) e.symm)];exact ih (fun e he=>h e (.tail _ he))
theorem tZ {l:Loc}:∀ {bs:Loc},qj l bs=true→∀ {t n:Nat} {b:Blk},bg bs t n=some b→bg l t n=none
 | [],_,t,n,b,h=>by cases h
 | ((a,m),y)::bs,h,t,n,b,hb=>by
  simp only [qj,Bool.and_eq_true] at h;by_cases e1:t=a
  ·subst e1;cases hv:y.view m n with
   | none=>rw [dD hv] at hb;exact tZ h.2 hb
   | some z =>
    cases hy:y.one with
    | true =>
     rw [lT hy] at hv;split at hv
     ·rename_i e2
      subst e2;have h1:=h.1;cases y with
      | fam _=>cases hy
      | _=>simp only [Bool.and_eq_true,Option.isNone_iff_eq_none] at h1;exact h1.1
     ·cases hv
    | false =>
     have h1:=h.1;cases y with
     | fam rows =>
      simp only [Bool.and_eq_true] at h1;refine Df fun e he q=>?_
      have:=List.all_eq_true.1 h1.1 e he;simp [q] at this
     | _=>cases hy
  ·rw [eu e1] at hb;exact tZ h.2 hb
def Jj (ops:List Oper) (tr:Nat→Rec) (L:Nat→Prop) (t:Nat) (v:A):Prop :=
 (∃ (k:Nat) (o:Oper),L k∧ops[k]?=some o∧o.dst=some t∧(tr k).val=v∧∀ (k':Nat) (o':Oper),L k'→ops[k']?=some o'→o'.dst=some t→k'≤k) ∨
 ((∀ (k:Nat) (o:Oper),L k→ops[k]?=some o→o.dst≠some t)∧look (tr 0).env t=some v)
theorem JD {ops:List Oper} {tr:Nat→Rec} (h:∀ (j:Nat) o,ops[j]?=some o→(tr (j+1)).env=Es o.dst (tr j).val (tr j).env) :
  ∀ (i:Nat),i≤ops.length→∀ t v,look (tr i).env t=some v→Jj ops tr (· < i) t v
 | 0,_,t,v,hv => .inr ⟨fun k o hk=>absurd hk (Nat.not_lt_zero k),hv⟩
 | i+1,hi,t,v,hv=>by
  have hget:=List.getElem?_eq_getElem (l:=ops) (i:=i) (by omega);rw [h i _ hget] at hv;have ih:=JD h i (by omega) t;by_cases hd:ops[i].dst=some t
  ·rw [hd] at hv;simp only [Es,look,if_true] at hv;cases hv;exact .inl ⟨i,_,Nat.lt_succ_self i,hget,hd,rfl,fun k' o' hk' _ _=>Nat.lt_succ_iff.1 hk'⟩
  ·have hv':look (tr i).env t=some v:=by
    cases hq:ops[i].dst with
    | none=>rw [hq] at hv;exact hv
    | some d =>
     rw [hq] at hv;simp only [Es,look] at hv;rw [if_neg (fun e=>hd (by rw [hq,e]))] at hv;exact hv
   rcases ih v hv' with ⟨k,o,h1,h2,h3,h4,h5⟩ | ⟨h1,h2⟩
   ·refine .inl ⟨k,o,Nat.lt_succ_of_lt h1,h2,h3,h4,fun k' o' hk' ho' hd'=>?_⟩;rcases Nat.lt_succ_iff_lt_or_eq.1 hk' with q | q
    ·exact h5 k' o' q ho' hd'
    ·subst q;rw [hget] at ho';cases ho';exact absurd hd' hd
   ·refine .inr ⟨fun k o hk ho=>?_,h2⟩;rcases Nat.lt_succ_iff_lt_or_eq.1 hk with q | q
    ·exact h1 k o q ho
    ·subst q;rw [hget] at ho;cases ho;exact hd
theorem vz {ops:List Oper} {mv rd:List Nat} (S:uY ops mv rd) {L:Nat→Prop} {i:Nat} {o:Oper} (ho:ops[i]?=some o) (hdone:∀ j,Before ops j i→L j) (hnot:∀ j,L j→¬ Before ops i j) (hi:¬ L i)
  {t:Nat} (ht:t∈uT ops o) {k:Nat} {p:Oper} (hk:ops[k]?=some p) (hd:p.dst=some t):L k↔k < i:=by
 have hil:=(List.getElem?_eq_some_iff.1 ho).1;have hkl:=(List.getElem?_eq_some_iff.1 hk).1;by_cases e:k=i
 ·subst e;exact ⟨fun h=>absurd h hi,fun h=>absurd h (Nat.lt_irrefl _)⟩
 ·rcases S.names k i p o hk ho e with (h | h) | h
  ·exact ⟨fun _=>jU S.ord i hil h,fun _=>hdone k h⟩
  ·exact ⟨fun q=>absurd h (hnot k q),fun q=>by have:=jU S.ord k hkl h;omega⟩
  ·exact absurd ht (h t hd).1
theorem Hf {ops:List Oper} {tr:Nat→Rec} {mv rd:List Nat} (S:uY ops mv rd) {L:Nat→Prop} {i:Nat} {o:Oper} (ho:ops[i]?=some o) (hdone:∀ j,Before ops j i→L j) (hnot:∀ j,L j→¬ Before ops i j) (hi:¬ L i)
  {t:Nat} (ht:t∈uT ops o) {v:A} (h:Jj ops tr (· < i) t v):Jj ops tr L t v:=by
 rcases h with ⟨k,p,h1,h2,h3,h4,h5⟩ | ⟨h1,h2⟩
 ·exact .inl ⟨k,p,(vz S ho hdone hnot hi ht h2 h3).2 h1,h2,h3,h4,fun k' p' hk' hp' hd'=>h5 k' p' ((vz S ho hdone hnot hi ht hp' hd').1 hk') hp' hd'⟩
 ·exact .inr ⟨fun k p hk hp hd=>h1 k p ((vz S ho hdone hnot hi ht hp hd).1 hk) hp hd,h2⟩
end Go.Lx
namespace Go.Lx
section
variable {P:Program} {ops:List Oper} {b mv rd:List Nat} {tr:Nat→Rec} {F:Facts}
theorem phase (h:∀ (j:Nat) o,ops[j]?=some o→AY P F ops b mv rd j o (tr j) (tr (j+1))) {q:Nat} (hq:(tr q).adds=[]) :
  ∀ (i:Nat),q≤i→i≤ops.length→(∀ m s',q≤m→m < i→(tr m).dl≠some (.set s')) →
  (tr i).base=(tr q).base∧∀ j bs,(j,bs)∈(tr i).adds↔q≤j∧j < i∧(tr j).dl=some (.add bs):=by
 intro i
 induction i with
 | zero =>
  intro h1 _ _;have:q=0:=by omega
  subst this;exact ⟨rfl,fun j bs=>by rw [hq];simp⟩
 | succ i ih =>
  intro h1 h2 h3;by_cases e:q=i+1
  ·subst e;exact ⟨rfl,fun j bs=>by rw [hq];simp;omega⟩
  ·obtain ⟨k1,k2⟩:=ih (by omega) (by omega) (fun m s' a1 a2=>h3 m s' a1 (by omega));have hget:=List.getElem?_eq_getElem (l:=ops) (i:=i) (by omega);obtain ⟨_,hs⟩:=h i _ hget;have same:(tr (i+1)).base=(tr i).base→(tr (i+1)).adds=(tr i).adds→(∀ bs,(tr i).dl≠some (.add bs)) →
     (tr (i+1)).base=(tr q).base∧∀ j bs,(j,bs)∈(tr (i+1)).adds↔q≤j∧j < i+1∧(tr j).dl=some (.add bs):=by
    intro e1 e2 e3;refine ⟨e1.trans k1,fun j bs=>?_⟩;rw [e2,k2];constructor
    ·rintro ⟨a1,a2,a3⟩;exact ⟨a1,by omega,a3⟩
    ·rintro ⟨a1,a2,a3⟩
     refine ⟨a1,?_,a3⟩;rcases Nat.lt_succ_iff_lt_or_eq.1 a2 with z | z
     ·exact z
     ·subst z;exact absurd a3 (e3 bs)
   cases hd:(tr i).dl with
   | none=>rw [hd] at hs;exact same hs.2.2.1 hs.2.2.2 (fun bs q=>by rw [hd] at q;cases q)
   | some dl =>
    rw [hd] at hs;obtain ⟨_,_,_,hs⟩:=hs;cases dl with
    | same=>exact same hs.1 hs.2 (fun bs q=>by rw [hd] at q;cases q)
    | set s'=>exact absurd hd (h3 i s' (by omega) (Nat.lt_succ_self i))
    | add cs =>
     refine ⟨hs.2.1.trans k1,fun j bs=>?_⟩;rw [hs.2.2];constructor
     ·intro hm;cases hm with
      | head=>exact ⟨by omega,Nat.lt_succ_self _,hd⟩
      | tail _ hm=>obtain ⟨a1,a2,a3⟩:=(k2 j bs).1 hm;exact ⟨a1,by omega,a3⟩
     ·rintro ⟨a1,a2,a3⟩
      rcases Nat.lt_succ_iff_lt_or_eq.1 a2 with z | z
      ·exact .tail _ ((k2 j bs).2 ⟨a1,z,a3⟩)
      ·subst z;rw [hd] at a3;cases a3;exact .head _
end
end Go.Lx
namespace Go.Lx
theorem zX {b:List Nat} {i t n j:Nat} {bs:Loc} {x:Blk} (hb:(b.getD i 0).testBit j=true) (hx:bg bs t n=some x):∀ {l:List (Nat×Loc)},(j,bs)∈l→∃ y,bg (lZ b i l) t n=some y
 | [],h=>by cases h
 | (k,cs)::l,h=>by
  simp only [lZ];cases h with
  | head =>
   rw [if_pos hb,lC,hx];exact ⟨x,rfl⟩
  | tail _ h =>
   obtain ⟨y,hy⟩:=zX hb hx h;split
   ·rw [lC];cases bg cs t n with
    | some z=>exact ⟨z,rfl⟩
    | none=>exact ⟨y,hy⟩
   ·exact ⟨y,hy⟩
theorem xQ {t n j:Nat} {bs:Loc} {x:Blk} (hx:bg bs t n=some x):∀ {l:List (Nat×Loc)},(j,bs)∈l→∃ y,bg (kX l) t n=some y
 | [],h=>by cases h
 | (k,cs)::l,h=>by
  simp only [kX,lC];cases h with
  | head=>rw [hx];exact ⟨x,rfl⟩
  | tail _ h =>
   obtain ⟨y,hy⟩:=xQ hx h;cases bg cs t n with
   | some z=>exact ⟨z,rfl⟩
   | none=>exact ⟨y,hy⟩
theorem A7 {t n:Nat} {x:Blk}:∀ {l:List (Nat×Loc)},bg (kX l) t n=some x→∃ j bs,(j,bs)∈l∧bg bs t n=some x
 | [],h=>by cases h
 | (j,bs)::l,h=>by
  simp only [kX] at h;rw [lC] at h;split at h
  ·rename_i y hy
   cases h;exact ⟨j,bs, .head _,hy⟩
  ·obtain ⟨k,cs,h1,h2⟩:=A7 h;exact ⟨k,cs, .tail _ h1,h2⟩
theorem qB {b:List Nat} {i t n:Nat} {x:Blk}:∀ {l:List (Nat×Loc)},bg (lZ b i l) t n=some x→∃ j bs,(j,bs)∈l∧(b.getD i 0).testBit j=true∧bg bs t n=some x
 | [],h=>by cases h
 | (j,bs)::l,h=>by
  simp only [lZ] at h;split at h
  ·rename_i hb
   rw [lC] at h;split at h
   ·rename_i y hy
    cases h;exact ⟨j,bs, .head _,hb,hy⟩
   ·obtain ⟨k,cs,h1,h2,h3⟩:=qB h;exact ⟨k,cs, .tail _ h1,h2,h3⟩
  ·obtain ⟨k,cs,h1,h2,h3⟩:=qB h;exact ⟨k,cs, .tail _ h1,h2,h3⟩
theorem before_trans {ops:List Oper} (S:Ordered ops) {j k:Nat} (h:Before ops j k):∀ (i:Nat),i < ops.length→Before ops k i→Before ops j i:=by
 intro i
 induction i using Nat.strongRecOn with
 | _ i ih =>
  intro hi hb;have hget:=List.getElem?_eq_getElem hi;obtain ⟨e,h1,h2,h3⟩:=(wu S hget k).1 hb;have he:=S i _ hget e h1 h2;refine (wu S hget j).2 ⟨e,h1,h2, .inr ?_⟩;rcases h3 with h3 | h3
  ·rw [h3];exact h
  ·exact ih e.on he (by omega) h3
def Closed (h:Id→Option Blk):Prop:=∀ i c,h i=some c→∀ j∈c.ids,∃ x,h j=some x
def S.has (s:S) (j:Id):Prop:=∃ x,s.get j=some x
theorem Inv.closed {P:Program} {V:View} {h:Id→Option Blk} {μ:Id→Pl} {w:World} (I:Inv P V h μ w):Closed h:=by
 intro i c hi j hj;have B:=I.blk i _ hi;cases c with
 | box cs =>
  obtain ⟨b1,b3,cells,elem,b5,b6,b7⟩:=B;obtain ⟨k,a,h1,h2⟩:=uk hj;have hl:k < cells.size:=by rw [b6];exact (List.getElem?_eq_some_iff.1 h1).1
  exact oW (b7 k a _ h1 (Array.getElem?_eq_getElem hl)).1 j h2
 | nest sz xs =>
  rcases B with ⟨_,rfl,_⟩ | ⟨b1,b2,b3,cells,elem,b5,b6,hpl,b7⟩
  ·cases hj
  ·obtain ⟨k,a,h1,h2⟩:=uk hj;obtain ⟨e,q1,q2⟩:=List.mem_flatten.1 (List.mem_of_getElem? h1);obtain ⟨n,hn⟩:=List.mem_iff_getElem?.1 q1;obtain ⟨m,hm⟩:=List.mem_iff_getElem?.1 q2;obtain ⟨r1,r2⟩:=b7 n e hn;have hml:m < sz:=by rw [← r1];exact (List.getElem?_eq_some_iff.1 hm).1
   have hnl:n < xs.length:=(List.getElem?_eq_some_iff.1 hn).1;have hl:n * sz+m < cells.size:=by
    rw [b6]
    calc n * sz+m < n * sz+sz:=by omega
     _=(n+1) * sz:=by rw [Nat.add_mul,Nat.one_mul]
     _≤(μ i).cap * sz:=Nat.mul_le_mul_right _ (by omega)
   exact oW (r2 m a _ hm (Array.getElem?_eq_getElem hl)) j h2
 | arr _ _ _=>cases hj
 | map _ _ _=>cases hj
 | fam _=>exact B.elim
 | gap=>cases hj
 | tail _ _ _=>cases hj
def small (b:List Nat) (tr:Nat→Rec) (i:Nat):S:=(tr i).base.plus (lZ b i (tr i).adds)
section
variable {P:Program} {ops:List Oper} {tr:Nat→Rec} {F:Facts} {mv rd:List Nat}
structure Tr (P:Program) (F:Facts) (ops:List Oper) (tr:Nat→Rec) (mv rd:List Nat):Prop where
 ord:uY ops mv rd
 step:∀ (j:Nat) o,ops[j]?=some o→AY P F ops (dh ops) mv rd j o (tr j) (tr (j+1))
 zero:(tr 0).adds=[]
 fac:∀ k,k≤ops.length→Eg (tr k).base F
theorem Tr.moved (T:Tr P F ops tr mv rd) {k:Nat} (hk:k < ops.length) {s':S} (h:(tr k).dl=some (.set s')):k∈mv∧(tr (k+1)).base=s'∧(tr (k+1)).adds=[]∧zK (dh ops) k (tr k).adds=true:=by
 have:=(T.step k _ (List.getElem?_eq_getElem hk)).2;rw [h] at this;exact ⟨this.2.2.2.2.2.2.1,this.2.2.2.2.1,this.2.2.2.2.2.1,this.2.2.2.1⟩
theorem Tr.laid (T:Tr P F ops tr mv rd) {k:Nat} (hk:k < ops.length) {bs:Loc} (h:(tr k).dl=some (.add bs)):k∈rd∧qj (kX (tr k).adds++(tr k).base.loc) bs=true:=by
 have:=(T.step k _ (List.getElem?_eq_getElem hk)).2;rw [h] at this;exact ⟨(this.2.2.1 (by simp [Delta.QE])).resolve_right (fun q=>by cases q.same),this.2.2.2.1⟩
theorem Tr.last (T:Tr P F ops tr mv rd):∀ (i:Nat),i≤ops.length→∃ q,q≤i∧(tr q).adds=[]∧(∀ m s',q≤m→m < i→(tr m).dl≠some (.set s'))∧(q=0∨∃ m s',q=m+1∧(tr m).dl=some (.set s'))
 | 0,_=>⟨0,Nat.le_refl _,T.zero,fun m s' h1 h2=>absurd h2 (Nat.not_lt_zero m), .inl rfl⟩
 | i+1,hi=>by
  obtain ⟨q,h1,h2,h3,h4⟩:=T.last i (by omega);have old:(∀ s',(tr i).dl≠some (.set s'))→∃ q,q≤i+1∧(tr q).adds=[]∧(∀ m s',q≤m→m < i+1→(tr m).dl≠some (.set s'))∧(q=0∨∃ m s',q=m+1∧(tr m).dl=some (.set s')):=by
   intro hn;refine ⟨q,by omega,h2,?_,h4⟩;intro m s' a1 a2;rcases Nat.lt_succ_iff_lt_or_eq.1 a2 with z | z
   ·exact h3 m s' a1 z
   ·subst z;exact hn s'
  cases hd:(tr i).dl with
  | none=>exact old (fun s' q=>by rw [hd] at q;cases q)
  | some dl =>
   cases dl with
   | set s'=>exact ⟨i+1,Nat.le_refl _,(T.moved (by omega) hd).2.2.1,fun m s'' a1 a2=>by omega, .inr ⟨i,s',rfl,hd⟩⟩
   | same=>exact old (fun s' q=>by rw [hd] at q;cases q)
   | add bs=>exact old (fun s' q=>by rw [hd] at q;cases q)
def Names (tr:Nat→Rec) (b:List Nat) (dep k:Nat) (j:Id):Prop :=
 match (tr k).dl with
 | some (.add bs)=>j.d=dep∧∃ x,bg bs j.t j.n=some x
 | some (.set s')=>s'.has j∧¬ (small b tr k).has j
 | _=>False
theorem Tr.eff (T:Tr P F ops tr mv rd) {dep k:Nat} {j:Id} (hk:k < ops.length) (h:Names tr (dh ops) dep k j):k∈rd∨k∈mv:=by
 unfold Names at h;cases hd:(tr k).dl with
 | none=>rw [hd] at h;cases h
 | some dl =>
  rw [hd] at h;cases dl with
  | same=>cases h
  | add bs=>exact .inl (T.laid hk hd).1
  | set s'=>exact .inr (T.moved hk hd).1
structure Ju (ops:List Oper) (tr:Nat→Rec) (m:Nat) (s':S):Prop where
 out:s'.out=(small (dh ops) tr m).out
 grow:∀ j,(small (dh ops) tr m).has j→s'.has j
theorem zt {s:S} {bs:Loc} {j:Id}:(s.plus bs).has j↔(j.d=s.dep∧∃ x,bg bs j.t j.n=some x)∨s.has j:=by
 unfold S.has;rw [pq];by_cases e:j.d=s.dep
 ·rw [if_pos e];cases hf:bg bs j.t j.n with
  | none=>simp
  | some b=>simp [e]
 ·rw [if_neg e];simp [e]
theorem Tr.dom (T:Tr P F ops tr mv rd) {dep:Nat} (hdep:(tr 0).base.dep=dep):∀ (i:Nat),i < ops.length→(∀ m s',m < i→(tr m).dl=some (.set s')→Before ops m i∧Ju ops tr m s') →
  (tr i).base.dep=dep∧∀ j,(small (dh ops) tr i).has j↔(tr 0).base.has j∨∃ k,Before ops k i∧Names tr (dh ops) dep k j:=by
 intro i
 induction i using Nat.strongRecOn with
 | _ i ih =>
  intro hi hs;obtain ⟨q,h1,h2,h3,h4⟩:=T.last i (by omega);obtain ⟨k1,k2⟩:=phase T.step h2 i h1 (by omega) h3;have base:(tr q).base.dep=dep∧∀ j,(tr q).base.has j↔(tr 0).base.has j∨∃ k,k < q∧Before ops k i∧Names tr (dh ops) dep k j:=by
   rcases h4 with rfl | ⟨m,s',rfl,hm⟩
   ·refine ⟨hdep,fun j=>⟨.inl,?_⟩⟩
    rintro (h | ⟨k,hk,_⟩)
    ·exact h
    ·omega
   ·have hml:m < ops.length:=by omega
    obtain ⟨hmv,hb,_,_⟩:=T.moved hml hm;obtain ⟨hbi,hg⟩:=hs m s' (by omega) hm;have cmp:∀ k,k < m→(k∈rd∨k∈mv)→Before ops k m:=by
     intro k hk he;rcases T.ord.mem m hmv k _ (List.getElem?_eq_getElem (by omega)) (by omega) he with z | z
     ·have:=jU T.ord.ord k (by omega) z;omega
     ·exact z
    obtain ⟨d1,d2⟩:=ih m (by omega) hml (fun m' s'' hm' hd'=>⟨cmp m' hm' (.inr (T.moved (by omega) hd').1),(hs m' s'' (by omega) hd').2⟩);rw [hb];refine ⟨?_,fun j=>?_⟩
    ·unfold S.dep at d1 ⊢;rw [hg.out];exact d1
    ·constructor
     ·intro hj;by_cases hsm:(small (dh ops) tr m).has j
      ·rcases (d2 j).1 hsm with z | ⟨k,z1,z2⟩
       ·exact .inl z
       ·exact .inr ⟨k,by have:=jU T.ord.ord m hml z1;omega,before_trans T.ord.ord z1 i hi hbi,z2⟩
      ·exact .inr ⟨m,by omega,hbi,by unfold Names;rw [hm];exact ⟨hj,hsm⟩⟩
     ·rintro (z | ⟨k,z1,z2,z3⟩)
      ·exact hg.grow j ((d2 j).2 (.inl z))
      ·by_cases e:k=m
       ·subst e;unfold Names at z3;rw [hm] at z3;exact z3.1
       ·exact hg.grow j ((d2 j).2 (.inr ⟨k,cmp k (by omega) (T.eff (by omega) z3),z3⟩))
  refine ⟨by rw [k1];exact base.1,fun j=>?_⟩;unfold small;rw [zt,k1,base.1,base.2];constructor
  ·rintro (⟨e,x,hx⟩ | z | ⟨k,_,z⟩)
   ·obtain ⟨k,bs,z1,z2,z3⟩:=qB hx;obtain ⟨_,_,z4⟩:=(k2 k bs).1 z1;exact .inr ⟨k,z2,by unfold Names;rw [z4];exact ⟨e,x,z3⟩⟩
   ·exact .inl z
   ·exact .inr ⟨k,z⟩
  ·rintro (z | ⟨k,z1,z2⟩)
   ·exact .inr (.inl z)
   ·by_cases hk:k < q
    ·exact .inr (.inr ⟨k,hk,z1,z2⟩)
    ·have hki:=jU T.ord.ord i hi z1;have z2':=z2;unfold Names at z2;cases hd:(tr k).dl with
     | none=>rw [hd] at z2;cases z2
     | some dl =>
      rw [hd] at z2;cases dl with
      | same=>cases z2
      | set s'=>exact absurd hd (h3 k s' (by omega) hki)
      | add bs =>
       obtain ⟨e,x,hx⟩:=z2;exact .inl ⟨e,zX z1 hx ((k2 k bs).2 ⟨by omega,hki,hd⟩)⟩
theorem Tr.free (T:Tr P F ops tr mv rd) {q:Nat} (hq:(tr q).adds=[]) {k:Nat} (hk:k < ops.length) (hqk:q≤k) (hno:∀ m s',q≤m→m < k→(tr m).dl≠some (.set s')) {bs:Loc} (hd:(tr k).dl=some (.add bs)) {t n:Nat} {x:Blk} (hx:bg bs t n=some x) :
  bg (tr q).base.loc t n=none∧∀ j cs,q≤j→j < k→(tr j).dl=some (.add cs)→bg cs t n=none:=by
 obtain ⟨k1,k2⟩:=phase T.step hq k hqk (by omega) hno;have:=tZ (T.laid hk hd).2 hx;rw [lC] at this;split at this
 ·cases this
 ·rename_i hn
  refine ⟨by rw [← k1];exact this,fun j cs h1 h2 h3=>?_⟩;cases hf:bg cs t n with
  | none=>rfl
  | some y =>
   obtain ⟨z,hz⟩:=xQ hf ((k2 j cs).2 ⟨h1,h2,h3⟩);rw [hn] at hz;cases hz
end
end Go.Lx
namespace Go.Lx
theorem yV {env:Env} {t:Nat}:∀ {ts:List Nat},look (ts.filterMap fun t=>(look env t).map fun v=>(t,v)) t=if t∈ts then look env t else none
 | []=>by simp [look]
 | u::ts=>by
  have ih:=yV (env:=env) (t:=t) (ts:=ts);cases hu:look env u with
  | none =>
   simp only [List.filterMap_cons,hu,Option.map_none,ih,List.mem_cons];by_cases e:t=u
   ·subst e;simp [hu]
   ·simp [e]
  | some x =>
   simp only [List.filterMap_cons,hu,Option.map_some,look,ih,List.mem_cons];by_cases e:t=u
   ·subst e;simp [hu]
   ·simp [e]
section
variable {c:Cfg} {ops:List Oper} {tr:Nat→Rec} {F:Facts} {mv rd:List Nat}
theorem QR (S:uY ops mv rd) {L:Nat→Prop} {i:Nat} {o:Oper} (ho:ops[i]?=some o) (hdone:∀ j,Before ops j i→L j) (hnot:∀ j,L j→¬ Before ops i j) (hi:¬ L i) {t:Nat} {v:A}
  (h:Jj ops tr (fun k=>L k∨k=i) t v):(o.dst=some t∧v=(tr i).val)∨(o.dst≠some t∧Jj ops tr L t v):=by
 have hil:=(List.getElem?_eq_some_iff.1 ho).1;by_cases hd:o.dst=some t
 ·left;refine ⟨hd,?_⟩;rcases h with ⟨k,p,h1,h2,h3,h4,h5⟩ | ⟨h1,_⟩
  ·have hki:i≤k:=h5 i o (.inr rfl) ho hd;have:k=i:=by
    rcases h1 with h1 | h1
    ·have hne:k≠i:=fun e=>hi (e ▸ h1)
     rcases S.names k i p o h2 ho hne with (q | q) | q
     ·have:=jU S.ord i hil q;omega
     ·exact absurd q (hnot k h1)
     ·exact absurd hd (q t h3).2
    ·exact h1
   subst this;exact h4.symm
  ·exact absurd hd (h1 i o (.inr rfl) ho)
 ·right;refine ⟨hd,?_⟩;rcases h with ⟨k,p,h1,h2,h3,h4,h5⟩ | ⟨h1,h2⟩
  ·have hk:L k:=by
    rcases h1 with h1 | h1
    ·exact h1
    ·subst h1;rw [ho] at h2;cases h2;exact absurd h3 hd
   exact .inl ⟨k,p,hk,h2,h3,h4,fun k' p' a1 a2 a3=>h5 k' p' (.inl a1) a2 a3⟩
  ·exact .inr ⟨fun k p hk hp=>h1 k p (.inl hk) hp,h2⟩
end
def vP (ops:List Oper) (o:Oper) (env:Env):Env:=(uT ops o).filterMap fun t=>(look env t).map fun v=>(t,v)
theorem qi {ops:List Oper} {o:Oper} {env:Env}:∀ x∈o.op.operands,az (look env) x=az (look (vP ops o env)) x:=by
 intro x hx;cases x with
 | tmp t =>
  simp only [az];unfold vP;rw [yV,if_pos];unfold uT;refine List.mem_append.2 (.inl ?_);exact List.mem_filterMap.2 ⟨.tmp t,by simpa using hx,rfl⟩
 | _=>rfl
theorem Kz {ops:List Oper} {o:Oper} {env:Env}:iF ops env o=iF ops (vP ops o env) o:=by
 unfold iF;cases hg:o.guard with
 | none=>rfl
 | some jw =>
  obtain ⟨j,want⟩:=jw;simp only;cases hd:(ops[j]?).bind (·.dst) with
  | none=>rfl
  | some d =>
   simp only;have:look (vP ops o env) d=look env d:=by
    unfold vP;rw [yV,if_pos];unfold uT;refine List.mem_append.2 (.inr ?_);rw [hg];simp only [hd];simp
   rw [this]
theorem wE {ops:List Oper} {o:Oper} {env:Env} {t:Nat} {v:A} (h:look (vP ops o env) t=some v):t∈uT ops o∧look env t=some v:=by
 unfold vP at h;rw [yV] at h;split at h
 ·rename_i hm;exact ⟨hm,h⟩
 ·cases h
theorem yE {cs:List A} {j:Id} (h:j∈(sK cs).ids):j∈A.jH cs:=by
 unfold sK at h;split at h
 ·cases h
 ·exact h
theorem iE {cs:List A} {j:Id}:j∈A.jH cs↔∃ a,a∈cs∧j∈a.ids:=by
 induction cs with
 | nil=>simp [A.jH]
 | cons x rest ih=>simp [A.jH,ih]
theorem Nl {v:A} {j:Id} (h:j∈A.jH v.cells):j∈v.ids:=by
 cases v with
 | d x =>
  obtain ⟨a,h1,h2⟩:=iE.1 h;simp only [A.cells,List.mem_map] at h1;obtain ⟨y,_,rfl⟩:=h1;cases h2
 | agg cs=>exact h
 | _=>simpa [A.cells,A.jH] using h
theorem Em {cs new:List A} {off:Nat} {j:Id} (h:j∈A.jH (splice cs off new)):j∈A.jH cs∨j∈A.jH new:=by
 obtain ⟨a,h1,h2⟩:=iE.1 h;unfold splice at h1;rcases List.mem_append.1 h1 with h1 | h1
 ·rcases List.mem_append.1 h1 with h1 | h1
  ·exact .inl (iE.2 ⟨a,List.mem_of_mem_take h1,h2⟩)
  ·exact .inr (iE.2 ⟨a,h1,h2⟩)
 ·exact .inl (iE.2 ⟨a,List.mem_of_mem_drop h1,h2⟩)
theorem Dl {place:Nat→Option (Nat×Nat)} {j:Id}:∀ {parts:List (Nat×A)} {cells out:List A},Dy place cells parts=some out→j∈A.jH out→j∈A.jH cells∨∃ p,p∈parts∧j∈p.2.ids
 | [],cells,out,e,h=>by simp only [Dy] at e;cases e;exact .inl h
 | (i,v)::rest,cells,out,e,h=>by
  simp only [Dy] at e;split at e
  ·cases e
  ·split at e
   ·rcases Dl e h with h | ⟨p,h1,h2⟩
    ·rcases Em h with h | h
     ·exact .inl h
     ·exact .inr ⟨(i,v), .head _,Nl h⟩
    ·exact .inr ⟨p, .tail _ h1,h2⟩
   ·cases e
theorem Tv {cs:List D} {j:Id}:¬ j∈A.jH (cs.map A.d):=by
 intro h;obtain ⟨a,h1,h2⟩:=iE.1 h;simp only [List.mem_map] at h1;obtain ⟨y,_,rfl⟩:=h1;cases h2
theorem Qc {P:Program} {t:TypeId} {parts:List (Nat×A)} {v:A} {j:Id} (e:xX P t parts=some v) (h:j∈v.ids):∃ p,p∈parts∧j∈p.2.ids:=by
 unfold xX at e;split at e
 ·split at e
  ·simp only [Option.map_eq_some_iff] at e;obtain ⟨out,h1,rfl⟩:=e;rcases Dl h1 (yE h) with h | h
   ·exact absurd h Tv
   ·exact h
  ·cases e
 ·split at e
  ·simp only [Option.map_eq_some_iff] at e;obtain ⟨out,h1,rfl⟩:=e;rcases Dl h1 (yE h) with h | h
   ·exact absurd h Tv
   ·exact h
  ·cases e
 ·cases e
theorem IM {env:Nat→Option A} {p:Nat×A}:∀ {xs:List (Nat×Operand)} {ps:List (Nat×A)},jE env xs=some ps→p∈ps→∃ x,x∈xs∧az env x.2=some p.2
 | [],ps,e,h=>by simp only [jE] at e;cases e;cases h
 | (i,x)::xs,ps,e,h=>by
  simp only [jE] at e;split at e
  ·rename_i v vs h1 h2
   cases e;cases h with
   | head=>exact ⟨(i,x), .head _,h1⟩
   | tail _ h=>obtain ⟨y,k1,k2⟩:=IM h2 h;exact ⟨y, .tail _ k1,k2⟩
  ·cases e
theorem AO {env:Nat→Option A} {v:A}:∀ {xs:List Operand} {vs:List A},bD env xs=some vs→v∈vs→∃ x,x∈xs∧az env x=some v
 | [],vs,e,h=>by simp only [bD] at e;cases e;cases h
 | x::xs,vs,e,h=>by
  simp only [bD] at e;split at e
  ·rename_i u us h1 h2
   cases e;cases h with
   | head=>exact ⟨x, .head _,h1⟩
   | tail _ h=>obtain ⟨y,k1,k2⟩:=AO h2 h;exact ⟨y, .tail _ k1,k2⟩
  ·cases e
theorem Pm {agg:Bool} {sz off:Nat} {cs:List A} {v:A} {j:Id} (e:rO agg sz cs off=some v) (h:j∈v.ids):j∈A.jH cs:=by
 unfold rO at e;split at e
 ·split at e
  ·cases e;obtain ⟨a,h1,h2⟩:=iE.1 (yE h);exact iE.2 ⟨a,List.mem_of_mem_drop (List.mem_of_mem_take h1),h2⟩
  ·cases e
 ·exact iE.2 ⟨v,List.mem_of_getElem? e,h⟩
theorem yN {o:Option D} {dl:Delta} {v:A} {dl':Delta} (e:o.map (fun v=>(A.d v,dl))=some (v,dl')):v.ids=[]:=by
 cases o with
 | none=>cases e
 | some x=>cases e;rfl
theorem Ql {c:Cfg} {f:FuncId} {s:S} {t:TypeId} {x v:A} {lo hi mx:Option A} {dl:Delta} (hx:(∃ d,x = .d d)∨∃ xs,x = .tight xs) (e:pU c f s t x lo hi mx=some (v,dl)):v.ids=[]:=by
 have cut:∀ {sz xs o},pU.cut lo hi mx sz xs o=some (v,dl)→v.ids=[]:=by
  intro sz xs o e;unfold pU.cut at e;split at e
  ·cases e
  ·split at e
   ·split at e
    ·cases e;rfl
    ·split at e
     ·cases e;rfl
     ·cases e
   ·cases e
 unfold pU at e;split at e
 ·split at e
  ·cases e
  ·split at e
   ·cases e
   ·rcases hx with ⟨d,rfl⟩ | ⟨xs,rfl⟩
    ·cases d with
     | sl xs=>exact cut e
     | nilsl =>
      simp only at e;split at e
      ·split at e
       ·cases e;rfl
       ·cases e
      ·cases e
     | _=>cases e
    ·simp only at e;split at e
     ·split at e
      ·split at e
       ·cases e;rfl
       ·cases e
      ·cases e
     ·exact cut e
 ·cases e
theorem yY {c:Cfg} {s:S} {t:TypeId} {x ix v:A} (hx:(∃ d,x = .d d)∨∃ xs,x = .tight xs) (e:di c s t x ix=some v):v.ids=[]:=by
 have pick:∀ {e' n xs},di.pick c e' n xs=some v→v.ids=[]:=by
  intro e' n xs e;unfold di.pick at e;split at e
  ·split at e
   ·split at e
    ·cases e;rfl
    ·cases e
   ·cases e
  ·cases e
 unfold di at e;split at e
 ·rcases hx with ⟨d,rfl⟩ | ⟨xs,rfl⟩
  ·split at e
   all_goals first | exact pick e | (rename_i q;cases q) | (rename_i q1 q2;cases q2) | cases e | (simp_all;done) | skip
  ·split at e
   all_goals first | exact pick e | (rename_i q;cases q) | (rename_i q1 q2;cases q2) | cases e | (simp_all;done) | skip
 ·cases e
theorem Jc {s:S} {agg:Bool} {sz:Nat} {u v:A} (h:(∃ d,u = .d d)∨∃ e o,u = .pimm e o) (e:lw s agg sz u=some v):v.ids=[]:=by
 rcases h with ⟨d,rfl⟩ | ⟨x,o,rfl⟩
 ·cases d with
  | pbox x=>simp only [lw,Option.map_eq_some_iff] at e;obtain ⟨y,_,rfl⟩:=e;rfl
  | _=>cases e
 ·simp only [lw,Option.map_eq_some_iff] at e;obtain ⟨y,_,rfl⟩:=e;rfl
theorem J4 {c:Cfg} {s:S} {t:TypeId} {u n v:A} (h:∃ e o,u = .pimm e o) (e:di c s t u n=some v):v.ids=[]:=by
 obtain ⟨x,o,rfl⟩:=h;unfold di at e;split at e
 ·split at e<;>first | cases e | skip
  all_goals (rename_i q;first | cases q | skip)
  all_goals (split at e<;>first | cases e | skip)
  all_goals (split at e<;>first | cases e | skip)
  all_goals rfl
 ·cases e
theorem Qk {c:Cfg} {f:FuncId} {call:FuncId→List A→Out→Option Ret} {env:Env} {s:S} {o:Oper} {v:A} (h:bI env o.op=false) (e:kM c f call (look env) s o=some (v, .same)) {j:Id} (hj:j∈v.ids) :
  ∃ x,x∈o.op.operands∧∃ u,az (look env) x=some u∧j∈u.ids:=by
 obtain ⟨dst,op,type,pos,after,guard⟩:=o;have none:v.ids=[]→∃ x,x∈op.operands∧∃ u,az (look env) x=some u∧j∈u.ids:=fun q=>by rw [q] at hj;cases hj
 cases op<;>simp only [kM] at e<;>try (simp [bI] at h;done)
 case move x =>
  simp only [Option.map_eq_some_iff] at e;obtain ⟨u,h1,h2⟩:=e;cases h2;exact ⟨x,by simp [Op.operands],_,h1,hj⟩
 case assign x =>
  split at e
  ·split at e
   ·cases e;exact none rfl
   ·split at e
    ·cases e
    ·cases e;exact none rfl
  ·rename_i u h1 h2
   cases e;exact ⟨_,by simp [Op.operands],_,h2,hj⟩
  ·cases e
 case pick k x y =>
  split at e
  ·rename_i b h1
   simp only [Option.map_eq_some_iff] at e;obtain ⟨u,h2,h3⟩:=e;cases h3;cases b
   ·exact ⟨y,by simp [Op.operands],_,h2,hj⟩
   ·exact ⟨x,by simp [Op.operands],_,h2,hj⟩
  ·cases e
 case build t ps =>
  split at e
  ·rename_i vs h1
   simp only [Option.map_eq_some_iff] at e;obtain ⟨u,h2,h3⟩:=e;cases h3;obtain ⟨p,h4,h5⟩:=Qc h2 hj;obtain ⟨x,h6,h7⟩:=IM h1 h4;exact ⟨x.2,by simp only [Op.operands];exact (List.mem_toArray).2 (List.mem_map.2 ⟨x,h6,rfl⟩),_,h7,h5⟩
  ·cases e
 case buildSlice t n ps =>
  apply none;split at e
  ·rename_i vs h1
   unfold lJ at e;split at e
   ·cases e
   ·split at e
    ·split at e
     ·split at e
      ·cases e
      ·split at e
       ·split at e
        ·split at e
         ·cases e
         ·cases e
        ·simp only [Option.some.injEq,Prod.mk.injEq] at e;rw [← e.1];rfl
       ·cases e
     ·cases e
    ·cases e
  ·cases e
 case nilCheck x =>
  split at e<;>(try cases e)<;>rename_i h1<;>exact ⟨x,by simp [Op.operands],_,h1,hj⟩
 case binOp op t x y t2 =>
  apply none;split at e
  ·exact yN e
  ·cases e
 case unOp op t x =>
  apply none;split at e
  ·exact yN e
  ·cases e
 case convert t t2 x =>
  apply none;split at e
  ·exact yN e
  ·cases e
 case makeFunc fn first captured =>
  cases fn<;>simp only [] at e
  case func g =>
   split at e
   ·split at e
    ·cases e;exact none rfl
    ·rename_i vs h1 h2
     cases e;simp only [A.ids] at hj;obtain ⟨a,h3,h4⟩:=iE.1 hj;obtain ⟨x,h5,h6⟩:=AO h2 h3;exact ⟨x,by simp [Op.operands];exact .inr (by simpa using h5),_,h6,h4⟩
    ·cases e
   ·cases e
  all_goals cases e
 case slice t x lo hi mx =>
  apply none;simp only [bI,Bool.not_eq_false'] at h;split at e
  ·rename_i u l hh m hu hl hhh hm
   exact Ql (Cm h hu) e
  ·cases e
 case fieldAddr t x i =>
  split at e
  ·rename_i u h1
   simp only [Option.map_eq_some_iff] at e;obtain ⟨u',h2,h3⟩:=e;cases h3;refine ⟨x,by simp [Op.operands],u,h1,?_⟩;unfold kK at h2;split at h2
   ·split at h2
    ·cases h2
    ·split at h2<;>cases h2<;>first | exact hj | cases hj
   ·cases h2
  ·cases e
 case field t x i =>
  split at e
  ·rename_i u h1
   simp only [Option.map_eq_some_iff] at e;obtain ⟨u',h2,h3⟩:=e;cases h3;refine ⟨x,by simp [Op.operands],u,h1,?_⟩;unfold CP at h2;split at h2
   ·cases h2
   ·split at h2
    ·simp only [Option.map_eq_some_iff] at h2;obtain ⟨u',h4,h5⟩:=h2;cases h5;cases hj
    ·exact Pm h2 hj
    ·cases h2
  ·cases e
 case indexAddr t x ix =>
  apply none;simp only [bI,Bool.not_eq_false'] at h;split at e
  ·rename_i u n hu hn
   simp only [Option.map_eq_some_iff] at e;obtain ⟨u',h2,h3⟩:=e;cases h3;simp only [Bool.or_eq_true] at h;rcases h with h | h
   ·exact yY (Cm h hu) h2
   ·rcases Gf h hu with ⟨d,hd⟩ | hq
    ·exact yY (.inl ⟨d,hd⟩) h2
    ·exact J4 hq h2
  ·cases e
 case load t x =>
  apply none;simp only [bI,Bool.not_eq_false'] at h;split at e
  ·rename_i p sz hp hsz
   simp only [Option.map_eq_some_iff] at e;obtain ⟨u',h2,h3⟩:=e;cases h3;exact Jc (Gf h hp) h2
  ·cases e
 case index t x ix =>
  apply none;split at e
  ·simp only [Option.map_eq_some_iff] at e;obtain ⟨u',h2,h3⟩:=e;cases h3;unfold CW at h2;split at h2
   ·split at h2
    ·split at h2
     ·simp only [Option.map_eq_some_iff] at h2;obtain ⟨u',h4,h5⟩:=h2;cases h5;rfl
     ·cases h2
    ·cases h2
   ·cases h2
  ·cases e
 case extract x i =>
  split at e
  ·rename_i vs h1
   simp only [Option.map_eq_some_iff] at e;obtain ⟨u',h2,h3⟩:=e;cases h3;refine ⟨x,by simp [Op.operands],_,h1,?_⟩;simp only [A.ids];exact iE.2 ⟨_,List.mem_of_getElem? h2,hj⟩
  ·cases e
 case call k =>
  apply none;obtain ⟨callee,args,ts⟩:=k;cases callee with
  | builtin b =>
   cases b<;>first | (simp [bI] at h;done) | skip
   all_goals
    simp only [yL] at e;split at e
    ·cases e
    ·simp only [iU] at e;split at e<;>first | exact yN e | cases e | (rename_i q _ _;cases q) | (simp_all;done) | skip
  | _=>simp [bI] at h
end Go.Lx
namespace Go.Lx
section
variable {P:Program} {ops:List Oper} {tr:Nat→Rec} {F:Facts} {mv rd:List Nat} {O:nN}
def HL (dep:Nat) (tr:Nat→Rec) (q:Nat) (L:Nat→Prop) (i:Id) (x:Blk):Prop :=
 (tr q).base.get i=some x∨(i.d=dep∧∃ k bs,L k∧q≤k∧(tr k).dl=some (.add bs)∧bg bs i.t i.n=some x)
structure FX (ops:List Oper) (tr:Nat→Rec) (dep k:Nat):Prop where
 set:∀ s',(tr k).dl=some (.set s')→Ju ops tr k s'∧Closed s'.get
 add:∀ bs,(tr k).dl=some (.add bs)→Closed ((small (dh ops) tr k).plus bs).get
 val:∀ j,j∈(tr k).val.ids→(tr 0).base.has j∨∃ k',(k'=k∨Before ops k' k)∧Names tr (dh ops) dep k' j
structure Start (O:nN) (tr:Nat→Rec):Prop where
 closed:Closed (tr 0).base.get
 env:∀ t v,look (tr 0).env t=some v→∀ j,j∈v.ids→(tr 0).base.has j
 dep:(tr 0).base.dep=O.out.length
structure Sim (P:Program) (O:nN) (ops:List Oper) (tr:Nat→Rec) (L:Nat→Prop) (a:Act) (w:World) (q:Nat) (V:View) (μ:Id→Pl) (sb:Go.Lx.S):Prop where
 kn:∀ k,L k→FX ops tr O.out.length k
 cl:∀ k j,L k→Before ops j k→L j
 inb:∀ k,L k→k < ops.length
 qs:q=0∨∃ m s',q=m+1∧L m∧(tr m).dl=some (.set s')
 sets:∀ m s',L m→(tr m).dl=some (.set s')→m < q
 adds:(tr q).adds=[]
 mem:∀ i x,sb.get i=some x↔HL O.out.length tr q L i x
 inv:Inv P V sb.get μ w
 env:∀ t v,Jj ops tr L t v→dQ P V sb.get μ v (a.tmps.getD t undef)
 evo:Evo O.V O.h O.μ O.w V sb.get μ w
 outb:sb.out=O.out
 outq:(tr q).base.out=O.out
 size:a.tmps.size=O.n
 defers:a.defers=[]
structure Turn (ops:List Oper) (L:Nat→Prop) (i:Nat) (o:Oper):Prop where
 here:ops[i]?=some o
 done:∀ j,Before ops j i→L j
 new:¬ L i
theorem Turn.lt {L:Nat→Prop} {i:Nat} {o:Oper} (U:Turn ops L i o):i < ops.length:=(List.getElem?_eq_some_iff.1 U.here).1
variable {L:Nat→Prop} {a:Act} {w:World} {q:Nat} {V:View} {μ:Id→Pl} {sb:Go.Lx.S} {i:Nat} {o:Oper}
theorem Sim.Vo (M:Sim P O ops tr L a w q V μ sb) (U:Turn ops L i o):∀ j,L j→¬ Before ops i j:=fun j hj hb=>U.new (M.cl j i hj hb)
theorem Sim.phase (M:Sim P O ops tr L a w q V μ sb) (T:Tr P F ops tr mv rd) (U:Turn ops L i o) (he:i∈rd∨i∈mv) :
  q≤i∧(∀ m s',q≤m→m < i→(tr m).dl≠some (.set s'))∧(tr i).base=(tr q).base∧∀ j bs,(j,bs)∈(tr i).adds↔q≤j∧j < i∧(tr j).dl=some (.add bs):=by
 have hil:=U.lt;have hq:q≤i:=by
  rcases M.qs with h | ⟨m,s',h1,h2,h3⟩
  ·omega
  ·have hm:=T.moved (M.inb m h2) h3;rcases T.ord.mem m hm.1 i o U.here (fun e=>U.new (e ▸ h2)) he with z | z
   ·have:=jU T.ord.ord i hil z;omega
   ·exact absurd z (M.Vo U m h2)
 have hno:∀ m s',q≤m→m < i→(tr m).dl≠some (.set s'):=by
  intro m s' h1 h2 h3;have hm:=T.moved (by omega) h3;rcases T.ord.mem m hm.1 i o U.here (by omega) he with z | z
  ·have:=M.sets m s' (U.done m z) h3;omega
  ·have:=jU T.ord.ord m (by omega) z;omega
 have:=Go.Lx.phase T.step M.adds i hq (by omega) hno;exact ⟨hq,hno,this⟩
theorem Sim.MS (M:Sim P O ops tr L a w q V μ sb) (T:Tr P F ops tr mv rd) {k:Nat} (hk:k < ops.length) (hd:∀ j,Before ops j k→L j) (he:k∈rd∨k∈mv):∀ m s',m < k→(tr m).dl=some (.set s')→Before ops m k∧Ju ops tr m s':=by
 intro m s' h1 h2;have hm:=T.moved (by omega) h2;rcases T.ord.mem m hm.1 k _ (List.getElem?_eq_getElem hk) (by omega) he with z | z
 ·exact ⟨z,((M.kn m (hd m z)).set s' h2).1⟩
 ·have:=jU T.ord.ord m (by omega) z;omega
theorem Sim.dom (M:Sim P O ops tr L a w q V μ sb) (T:Tr P F ops tr mv rd) (Z:Start O tr) {k:Nat} (hk:k < ops.length) (hd:∀ j,Before ops j k→L j) (he:k∈rd∨k∈mv) :
  (tr k).base.dep=O.out.length∧∀ j,(small (dh ops) tr k).has j↔(tr 0).base.has j∨∃ k',Before ops k' k∧Names tr (dh ops) O.out.length k' j :=
 T.dom Z.dep k hk (M.MS T hk hd he)
theorem Sim.sub (M:Sim P O ops tr L a w q V μ sb) (T:Tr P F ops tr mv rd) (Z:Start O tr) (U:Turn ops L i o) (he:i∈rd∨i∈mv):∀ j x,(small (dh ops) tr i).get j=some x→sb.get j=some x:=by
 intro j x h;obtain ⟨h1,h2,h3,h4⟩:=M.phase T U he;have hdep:=(M.dom T Z U.lt U.done he).1;rw [M.mem];unfold small at h;rw [pq,hdep] at h;split at h
 ·rename_i e
  split at h
  ·rename_i b hb
   cases h;obtain ⟨k,bs,z1,z2,z3⟩:=qB hb;obtain ⟨y1,y2,y3⟩:=(h4 k bs).1 z1;exact .inr ⟨e,k,bs,U.done k z2,y1,y3,z3⟩
  ·exact .inl (by rw [← h3];exact h)
 ·exact .inl (by rw [← h3];exact h)
theorem Sim.JX (M:Sim P O ops tr L a w q V μ sb) (T:Tr P F ops tr mv rd) (Z:Start O tr) (U:Turn ops L i o) (he:i∈rd∨i∈mv):Closed (small (dh ops) tr i).get:=by
 intro id cs hid j hj;obtain ⟨h1,h2,h3,h4⟩:=M.phase T U he;obtain ⟨hdep,dom⟩:=M.dom T Z U.lt U.done he
 show (small (dh ops) tr i).has j
 have base:(tr i).base.get id=some cs→(small (dh ops) tr i).has j:=by
  intro hb;unfold small;rw [zt];rcases M.qs with hq | ⟨m,s',k1,k2,k3⟩
  ·have:=Z.closed id cs (by rw [← hq,← h3];exact hb) j hj;exact .inr (by rw [h3,hq];exact this)
  ·have hs:=(T.moved (M.inb m k2) k3).2.1;rw [← k1,← h3] at hs;have:=((M.kn m k2).set s' k3).2 id cs (by rw [← hs];exact hb) j hj;exact .inr (by rw [hs];exact this)
 unfold small at hid;rw [pq,hdep] at hid;split at hid
 ·rename_i e
  split at hid
  ·rename_i b hb
   cases hid;obtain ⟨k,bs,z1,z2,z3⟩:=qB hb;obtain ⟨y1,y2,y3⟩:=(h4 k bs).1 z1;have hkl:k < ops.length:=by have:=U.lt;omega
   have hLk:=U.done k z2;obtain ⟨hdk,domk⟩:=M.dom T Z hkl (fun j hj=>M.cl k j hLk hj) (.inl (T.laid hkl y3).1);have hdk':(small (dh ops) tr k).dep=O.out.length:=hdk;have hc:=(M.kn k hLk).add bs y3 id cs (by rw [pq,hdk',if_pos e,z3]) j hj;rcases zt.1 hc with ⟨q1,q2⟩ | q1
   ·rw [dom];refine .inr ⟨k,z2,?_⟩;unfold Names;rw [y3];exact ⟨by rw [← hdk'];exact q1,q2⟩
   ·rw [dom];rcases (domk j).1 q1 with p | ⟨k',p1,p2⟩
    ·exact .inl p
    ·exact .inr ⟨k',before_trans T.ord.ord p1 i U.lt z2,p2⟩
  ·exact base hid
 ·exact base hid
theorem Sim.operands (M:Sim P O ops tr L a w q V μ sb) (T:Tr P F ops tr mv rd) (Z:Start O tr) (U:Turn ops L i o) {t:Nat} {v:A} (h:look (vP ops o (tr i).env) t=some v) :
  Jj ops tr L t v∧∀ j,j∈v.ids→(tr 0).base.has j∨∃ k,Before ops k i∧Names tr (dh ops) O.out.length k j:=by
 obtain ⟨h1,h2⟩:=wE h;have hl:=JD (fun j o ho=>(T.step j o ho).1) i (Nat.le_of_lt U.lt) t v h2;refine ⟨Hf T.ord U.here U.done (M.Vo U) U.new h1 hl,?_⟩;intro j hj;rcases hl with ⟨k,p,k1,k2,k3,k4,_⟩ | ⟨_,k2⟩
 ·have hb:Before ops k i:=by
   rcases T.ord.names k i p o k2 U.here (by omega) with (z | z) | z
   ·exact z
   ·have:=jU T.ord.ord k (by have:=U.lt;omega) z;omega
   ·exact absurd h1 (z t k3).1
  subst k4;rcases (M.kn k (U.done k hb)).val j hj with z | ⟨k',z1,z2⟩
  ·exact .inl z
  ·refine .inr ⟨k',?_,z2⟩;rcases z1 with rfl | z1
   ·exact hb
   ·exact before_trans T.ord.ord z1 i U.lt hb
 ·exact .inl (Z.env t v k2 j hj)
theorem Sim.Va (M:Sim P O ops tr L a w q V μ sb) (T:Tr P F ops tr mv rd) (Z:Start O tr) (U:Turn ops L i o):nU P V sb.get μ (vP ops o (tr i).env) a.tmps :=
 fun t v hv=>M.env t v (M.operands T Z U hv).1
theorem Sim.Q3 (M:Sim P O ops tr L a w q V μ sb) (T:Tr P F ops tr mv rd) (Z:Start O tr) (U:Turn ops L i o) (he:i∈rd∨i∈mv):nU P V (small (dh ops) tr i).get μ (vP ops o (tr i).env) a.tmps:=by
 intro t v hv;obtain ⟨h1,h2⟩:=M.operands T Z U hv;refine (M.env t v h1).mono (.refl V) (fun j hj b hb=>?_);obtain ⟨x,hx⟩:=((M.dom T Z U.lt U.done he).2 j).2 (h2 j hj);have:=M.sub T Z U he j x hx;rw [hb] at this;cases this;exact ⟨b,hx, .refl _ _⟩
theorem Sim.Rz (M:Sim P O ops tr L a w q V μ sb) (T:Tr P F ops tr mv rd) (Z:Start O tr) (U:Turn ops L i o) (he:i∈rd∨i∈mv):Inv P V (small (dh ops) tr i).get μ w:=by
 refine M.inv.sub (M.sub T Z U he) (fun id cs hid j hj b hb=>?_);obtain ⟨x,hx⟩:=M.JX T Z U he id cs hid j hj;have:=M.sub T Z U he j x hx;rw [hb] at this;cases this;exact hx
theorem Sim.fresh (M:Sim P O ops tr L a w q V μ sb) (T:Tr P F ops tr mv rd) (U:Turn ops L i o) {bs:Loc} (hd:(tr i).dl=some (.add bs)) {j:Id} (hbase:(tr i).base.dep=O.out.length) (e:j.d=O.out.length) {x:Blk} (hx:bg bs j.t j.n=some x):sb.get j=none:=by
 have he:i∈rd∨i∈mv := .inl (T.laid U.lt hd).1;obtain ⟨h1,h2,h3,h4⟩:=M.phase T U he;cases hs:sb.get j with
 | none=>rfl
 | some y =>
  exfalso
  obtain ⟨f1,f2⟩:=T.free M.adds U.lt h1 h2 hd hx;rcases (M.mem j y).1 hs with z | ⟨_,k,cs,z1,z2,z3,z4⟩
  ·unfold S.get at z;rw [if_pos (by rw [e,← h3,hbase])] at z;rw [f1] at z;cases z
  ·have hkl:=M.inb k z1;by_cases hki:k < i
   ·rw [f2 k cs z2 hki z3] at z4;cases z4
   ·have hne:k≠i:=fun e=>U.new (e ▸ z1)
    have hno:∀ m s',q≤m→m < k→(tr m).dl≠some (.set s'):=by
     intro m s' a1 a2 a3;have hm:=T.moved (by omega) a3;rcases T.ord.mem m hm.1 k _ (List.getElem?_eq_getElem hkl) (by omega) (.inl (T.laid hkl z3).1) with y | y
     ·have:=M.sets m s' (M.cl k m z1 y) a3;omega
     ·have:=jU T.ord.ord m (by omega) y;omega
    have:=(T.free M.adds hkl z2 hno z3 z4).2 i bs h1 (by omega) hd;rw [hx] at this;cases this
theorem Ir (M:Sim P O ops tr L a w q V μ sb) (T:Tr P F ops tr mv rd) (U:Turn ops L i o) (hd:uA O.n ops=true) {V':View} {μ':Id→Pl} {sb':Go.Lx.S} {cv:Value} (E':∀ {v cv},dQ P V sb.get μ v cv→dQ P V' sb'.get μ' v cv)
  (H':dQ P V' sb'.get μ' (tr i).val cv):∀ t v,Jj ops tr (fun k=>L k∨k=i) t v→dQ P V' sb'.get μ' v ((a.put o.dst cv).tmps.getD t undef):=by
 intro t v hv;have hsz:∀ d,o.dst=some d→d < a.tmps.size:=fun d hq=>by
  rw [M.size];exact sN (ops:=ops.toArray) (by simpa using hd) (i:=i) (by simpa using U.here) hq
 rcases QR T.ord U.here U.done (M.Vo U) U.new hv with ⟨e1,rfl⟩ | ⟨e1,e2⟩
 ·have:(a.put o.dst cv).tmps.getD t undef=cv:=by rw [e1];simp [Act.put,hsz t e1]
  rw [this];exact H'
 ·have:(a.put o.dst cv).tmps.getD t undef=a.tmps.getD t undef:=by
   cases hq:o.dst with
   | none=>rfl
   | some d =>
    have hne:d≠t:=fun z=>e1 (by rw [hq,z])
    simp [Act.put,Array.getElem?_setIfInBounds_ne hne]
  rw [this];exact E' (M.env t v e2)
theorem Sim.cl' (M:Sim P O ops tr L a w q V μ sb) (U:Turn ops L i o):∀ k j,(L k∨k=i)→Before ops j k→(L j∨j=i):=by
 rintro k j (h | rfl) hb
 ·exact .inl (M.cl k j h hb)
 ·exact .inl (U.done j hb)
theorem Sim.keep (M:Sim P O ops tr L a w q V μ sb) (T:Tr P F ops tr mv rd) (U:Turn ops L i o) (hd:uA O.n ops=true) (hset:∀ s',(tr i).dl≠some (.set s')) (hk:FX ops tr O.out.length i) {V':View} {μ':Id→Pl} {sb':Go.Lx.S} {w':World} {cv:Value}
  (I':Inv P V' sb'.get μ' w') (E':Evo V sb.get μ w V' sb'.get μ' w') (H':dQ P V' sb'.get μ' (tr i).val cv) (hm:∀ j x,sb'.get j=some x↔HL O.out.length tr q (fun k=>L k∨k=i) j x) (ho:sb'.out=O.out) :
  Sim P O ops tr (fun k=>L k∨k=i) (a.put o.dst cv) w' q V' μ' sb' where
 kn:=by
  rintro k (h | rfl)
  ·exact M.kn k h
  ·exact hk
 cl:=M.cl' U
 inb:=by
  rintro k (h | rfl)
  ·exact M.inb k h
  ·exact U.lt
 qs:=by
  rcases M.qs with h | ⟨m,s',e1,e2,e3⟩
  ·exact .inl h
  ·exact .inr ⟨m,s',e1, .inl e2,e3⟩
 sets:=by
  rintro m s' (h | rfl) hs
  ·exact M.sets m s' h hs
  ·exact absurd hs (hset s')
 adds:=M.adds
 mem:=hm
 inv:=I'
 env:=Ir M T U hd E'.wU H'
 evo:=M.evo.trans E'
 outb:=ho
 outq:=M.outq
 size:=by rw [zg];exact M.size
 defers:=by rw [put_defers];exact M.defers
theorem Sim.change (M:Sim P O ops tr L a w q V μ sb) (T:Tr P F ops tr mv rd) (U:Turn ops L i o) (hd:uA O.n ops=true) {s':Go.Lx.S} (hset:(tr i).dl=some (.set s')) (hk:FX ops tr O.out.length i) {V':View} {μ':Id→Pl} {w':World} {cv:Value}
  (I':Inv P V' s'.get μ' w') (E':Evo V sb.get μ w V' s'.get μ' w') (H':dQ P V' s'.get μ' (tr i).val cv) (ho:s'.out=O.out) :
  Sim P O ops tr (fun k=>L k∨k=i) (a.put o.dst cv) w' (i+1) V' μ' s' where
 kn:=by
  rintro k (h | rfl)
  ·exact M.kn k h
  ·exact hk
 cl:=M.cl' U
 inb:=by
  rintro k (h | rfl)
  ·exact M.inb k h
  ·exact U.lt
 qs := .inr ⟨i,s',rfl, .inr rfl,hset⟩
 sets:=by
  rintro m s'' (h | rfl) hs
  ·have:=M.sets m s'' h hs;have:=(M.phase T U (.inr (T.moved U.lt hset).1)).1;omega
  ·omega
 adds:=(T.moved U.lt hset).2.2.1
 mem:=by
  intro j x;unfold HL;rw [(T.moved U.lt hset).2.1];constructor
  ·exact .inl
  ·rintro (h | ⟨_,k,bs,h1,h2,h3,_⟩)
   ·exact h
   ·exfalso
    rcases h1 with h1 | rfl
    ·have hkl:=M.inb k h1;rcases T.ord.mem i (T.moved U.lt hset).1 k _ (List.getElem?_eq_getElem hkl) (by omega) (.inl (T.laid hkl h3).1) with z | z
     ·exact M.Vo U k h1 z
     ·have:=jU T.ord.ord i U.lt z;omega
    ·omega
 inv:=I'
 env:=Ir M T U hd E'.wU H'
 evo:=M.evo.trans E'
 outb:=ho
 outq:=by rw [(T.moved U.lt hset).2.1];exact ho
 size:=by rw [zg];exact M.size
 defers:=by rw [put_defers];exact M.defers
end
end Go.Lx
namespace Go.Lx
section
variable {P:Program} {opsA:Array Oper} {tr:Nat→Rec} {F:Facts} {mv rd:List Nat} {O:nN}
variable {L:Nat→Prop} {a:Act} {w:World} {q:Nat} {V:View} {μ:Id→Pl} {sb:Go.Lx.S} {i:Nat} {o:Oper}
theorem JH {env env':Env} {x:Operand} (h:az (look env) x=az (look env') x):qJ env x=qJ env' x:=by
 cases x with
 | tmp t=>simp only [az] at h;simp only [qJ,h]
 | _=>rfl
theorem AU {env env':Env} {x:Operand} (h:az (look env) x=az (look env') x):qZ env x=qZ env' x:=by
 cases x with
 | tmp t=>simp only [az] at h;simp only [qZ,h]
 | _=>rfl
theorem Dw {α:Type} {p p':α→Bool}:∀ {l:List α},(∀ x,x∈l→p x=p' x)→l.all p=l.all p'
 | [],_=>rfl
 | x::l,h=>by simp only [List.all_cons];rw [h x (.head _),Dw (fun y hy=>h y (.tail _ hy))]
theorem Az {ops:List Oper} {o:Oper} {env:Env}:bI env o.op=bI (vP ops o env) o.op:=by
 have key:∀ x,x∈o.op.operands→qJ env x=qJ (vP ops o env) x:=fun x hx=>JH (qi x hx)
 have op:∀ x,x∈o.op.operands→az (look env) x=az (look (vP ops o env)) x:=qi
 revert key op
 generalize vP ops o env=env';intro key op;obtain ⟨dst,oo,type,pos,after,guard⟩:=o;simp only at key op ⊢;cases oo<;>simp only [Op.operands] at key op<;>try rfl
 case slice t x lo hi mx=>simp only [bI];rw [key x (by simp)]
 case indexAddr t x ix=>simp only [bI];rw [key x (by simp),AU (op x (by simp))]
 case load t x=>simp only [bI];rw [AU (op x (by simp))]
 case binOp b t x y t2=>simp only [bI];rw [key x (by simp),key y (by simp)]
 case buildSlice t n ps =>
  simp only [bI];rw [Dw (l:=ps.toList) (p:=fun x=>qJ env x.2) (p':=fun x=>qJ env' x.2) (fun x hx=>key x.2 (by simp only [List.mem_toArray,List.mem_map];exact ⟨x,hx,rfl⟩))]
 case call k =>
  obtain ⟨callee,args,ts⟩:=k;cases callee with
  | builtin b =>
   cases b<;>try rfl
   simp only [bI];rw [Dw (l:=args.toList)];intro x hx;have h1:=op x (by simp [Call.operands];simpa using hx);have h2:=key x (by simp [Call.operands];simpa using hx);cases x with
   | tmp t=>simp only [az] at h1;simp only [h1,h2]
   | _=>rfl
  | _=>rfl
theorem dR.only {env:Env} {s:Go.Lx.S} {v:A} {dl:Delta} (h:dR P env s o v dl) (ops:List Oper):dR P (vP ops o env) s o v dl:=by
 rcases h.ex with ⟨c,f,call,h1,h2,h3,v0,e,hw⟩ | ⟨h1,h2⟩
 ·exact ⟨.inl ⟨c,f,call,h1,h2,h3,v0,by rw [← NM (env:=look env) o qi];exact e,hw⟩⟩
 ·exact ⟨.inr ⟨by rw [← Az];exact h1,fun V μ w I a R K Q hK=>h2 V μ w I a (fun x hx u hu=>R x hx u (by rw [← qi x hx];exact hu)) K Q hK⟩⟩
theorem dR.anywhere {env:Env} {s s2:Go.Lx.S} {v:A} (h:dR P env s o v .same) (hr:bI env o.op=false):dR P env s2 o v .same:=by
 rcases h.ex with ⟨c,f,call,h1,h2,h3,v0,e,hw⟩ | ⟨h1,_⟩
 case inr=>rw [hr] at h1;cases h1
 refine ⟨.inl ⟨c,f,call,h1,h2,h3,v0,?_,hw⟩⟩;by_cases hcall:∃ k,o.op = .call k
 ·obtain ⟨k,hk⟩:=hcall;exact Nc hk hr e
 ·exact Rt (fun k hk=>hcall ⟨k,hk⟩) hr e
theorem dR.ids {env:Env} {s:Go.Lx.S} {v:A} (h:dR P env s o v .same) (hr:bI env o.op=false) {j:Id} (hj:j∈v.ids):∃ x,x∈o.op.operands∧∃ u,az (look env) x=some u∧j∈u.ids:=by
 rcases h.ex with ⟨c,f,call,h1,h2,h3,v0,e,hw⟩ | ⟨h1,_⟩
 case inr=>rw [hr] at h1;cases h1
 exact Qk hr e (hw.ids j hj)
theorem Sim.FT (M:Sim P O opsA.toList tr L a w q V μ sb) (U:Turn opsA.toList L i o) (hadd:∀ bs,(tr i).dl≠some (.add bs)):∀ j x,sb.get j=some x↔HL O.out.length tr q (fun k=>L k∨k=i) j x:=by
 intro j x;rw [M.mem];constructor
 ·rintro (z | ⟨z1,k,bs,z2,z3⟩)
  ·exact .inl z
  ·exact .inr ⟨z1,k,bs, .inl z2,z3⟩
 ·rintro (z | ⟨z1,k,bs,z2 | z2,z3,z4,z5⟩)
  ·exact .inl z
  ·exact .inr ⟨z1,k,bs,z2,z3,z4,z5⟩
  ·subst z2;exact absurd z4 (hadd bs)
theorem Sim.step (M:Sim P O opsA.toList tr L a w q V μ sb) (T:Tr P F opsA.toList tr mv rd) (Z:Start O tr) (U:Turn opsA.toList L i o) (hd:uA O.n opsA.toList=true)
  {K:Act→World→Prop} {Q:Exit→Act→World→Prop} (hK:∀ a' w' q' V' μ' sb',Sim P O opsA.toList tr (fun k=>L k∨k=i) a' w' q' V' μ' sb'→K a' w'):wpOp P opsA Q i K a w:=by
 have hget:opsA[i]?=some o:=by simpa using U.here
 unfold wpOp;rw [hget];simp only;have hR:=M.Va T Z U;have hgd:∀ b,iF opsA.toList (tr i).env o=some b→Region.wanted o (yielded opsA a.tmps)=b:=by
  intro b hb;rw [Kz] at hb;exact DZ hR hb (by rw [M.size];exact hd)
 obtain ⟨henv,hst⟩:=T.step i o U.here;cases hdl:(tr i).dl with
 | none =>
  rw [hdl] at hst;rw [hgd false hst.1];simp only [Bool.false_eq_true,if_false];have hval:(tr i).val = .undef:=hst.2.1;have hk:FX opsA.toList tr O.out.length i:=⟨fun s' h=>(by rw [hdl] at h;cases h),fun bs h=>(by rw [hdl] at h;cases h),fun j hj=>by rw [hval] at hj;cases hj⟩
  exact hK _ _ _ _ _ _ (M.keep T U hd (fun s' h=>by rw [hdl] at h;cases h) hk M.inv (Evo.refl _ _ _ _) (by rw [hval];exact .undef) (M.FT U (fun bs h=>by rw [hdl] at h;cases h)) M.outb)
 | some dl =>
  rw [hdl] at hst;obtain ⟨hg,hop,hrd,hst⟩:=hst;rw [hgd true hg];simp only [if_true];left;have hop:=hop.only opsA.toList;have run:(i∈rd∨i∈mv)→(∀ cv w',Left P V (small (dh opsA.toList) tr i) μ w (dl.apply (small (dh opsA.toList) tr i)) (tr i).val cv w'→K (a.put o.dst cv) w')→o.wp P a w K Q :=
   fun he hh=>hop.sound (M.Rz T Z U he) (M.Q3 T Z U he) hh
  have dom:=fun he=>M.dom T Z U.lt U.done he
  cases dl with
  | same =>
   by_cases hr:bI (tr i).env o.op=true
   ·rcases hrd (by rw [hr];rfl) with hrd | hloc
    case inr =>
     have hq:q≤opsA.toList.length:=by
      rcases M.qs with h | ⟨m,s',h1,h2,h3⟩
      ·omega
      ·have:=M.inb m h2;omega
     have hfac:Eg sb F:=fun p hp=>(M.mem p.1 p.2).2 (.inl (T.fac q hq p hp))
     refine ((hloc.ok sb hfac).only opsA.toList).sound M.inv hR (fun cv w' hl=>?_);obtain ⟨V',μ',h1,h2,h3,h4⟩:=hl;have hk:FX opsA.toList tr O.out.length i:=by
      refine ⟨fun s' h=>(by rw [hdl] at h;cases h),fun bs h=>(by rw [hdl] at h;cases h),fun j hj=>?_⟩;obtain ⟨p,hp,rfl | ⟨cs,e,hj2⟩⟩:=hloc.ids j hj
      ·exact .inl ⟨p.2,T.fac 0 (Nat.zero_le _) p hp⟩
      ·exact .inl (Z.closed p.1 (.box cs) (by rw [← e];exact T.fac 0 (Nat.zero_le _) p hp) j hj2)
     exact hK _ _ _ _ _ _ (M.keep T U hd (fun s' h=>by rw [hdl] at h;cases h) hk h2 h3 h1 (M.FT U (fun bs h=>by rw [hdl] at h;cases h)) M.outb)
    have he:i∈rd∨i∈mv := .inl hrd;refine run he (fun cv w' hl=>?_);obtain ⟨V',μ',h1,h2,h3,h4⟩:=hl;have hsub:=M.sub T Z U he;have hj:wP (small (dh opsA.toList) tr i).get sb.get=sb.get:=by
     funext j
     unfold wP;cases hs:(small (dh opsA.toList) tr i).get j with
     | none=>rfl
     | some b=>exact (hsub j b hs).symm
    obtain ⟨k1,k2⟩:=M.inv.join hsub h2 h3 (fun j b k1 k2=>by rw [show (Delta.same.apply (small (dh opsA.toList) tr i)).get=(small (dh opsA.toList) tr i).get from rfl,k2] at k1;cases k1);have hsame:(Delta.same.apply (small (dh opsA.toList) tr i)).get=(small (dh opsA.toList) tr i).get:=rfl;rw [hsame] at k1 k2 h1;have h1':dQ P V' (wP (small (dh opsA.toList) tr i).get sb.get) (zV (small (dh opsA.toList) tr i).get μ' μ) (tr i).val cv :=
     h1.mono (.refl _) (fun j _ b hb=>⟨b,oN hb,by rw [jT hb];exact .refl _ _⟩)
    rw [hj] at k1 k2 h1';have hk:FX opsA.toList tr O.out.length i:=by
     refine ⟨fun s' h=>(by rw [hdl] at h;cases h),fun bs h=>(by rw [hdl] at h;cases h),fun j hj=>?_⟩;rcases (((dom he).2 j).1 (oW h1 j hj)) with z | ⟨k,z1,z2⟩
     ·exact .inl z
     ·exact .inr ⟨k, .inr z1,z2⟩
    exact hK _ _ _ _ _ _ (M.keep T U hd (fun s' h=>by rw [hdl] at h;cases h) hk k1 k2 h1' (M.FT U (fun bs h=>by rw [hdl] at h;cases h)) M.outb)
   ·have hr':bI (tr i).env o.op=false:=by simpa using hr
    have hr2:bI (vP opsA.toList o (tr i).env) o.op=false:=by
     rw [← hr'];exact (Az).symm
    have hop2:dR P (vP opsA.toList o (tr i).env) sb o (tr i).val .same:=hop.anywhere hr2;refine hop2.sound M.inv hR (fun cv w' hl=>?_);obtain ⟨V',μ',h1,h2,h3,h4⟩:=hl;have hk:FX opsA.toList tr O.out.length i:=by
     refine ⟨fun s' h=>(by rw [hdl] at h;cases h),fun bs h=>(by rw [hdl] at h;cases h),fun j hj=>?_⟩;obtain ⟨x,hx,u,hu,hju⟩:=hop2.ids hr2 hj;cases x with
     | tmp t =>
      rcases (M.operands T Z U hu).2 j hju with z | ⟨k,z1,z2⟩
      ·exact .inl z
      ·exact .inr ⟨k, .inr z1,z2⟩
     | const v =>
      simp only [az] at hu;cases hv:ofValue v<;>rw [hv] at hu<;>cases hu
      cases hju
     | func g=>cases hu;cases hju
     | global g=>cases hu
    exact hK _ _ _ _ _ _ (M.keep T U hd (fun s' h=>by rw [hdl] at h;cases h) hk h2 h3 h1 (M.FT U (fun bs h=>by rw [hdl] at h;cases h)) M.outb)
  | add bs =>
   have he:i∈rd∨i∈mv := .inl (T.laid U.lt hdl).1;refine run he (fun cv w' hl=>?_);obtain ⟨V',μ',h1,h2,h3,h4⟩:=hl;have hsub:=M.sub T Z U he;have hdep:=(dom he).1;have hsd:(small (dh opsA.toList) tr i).dep=O.out.length:=hdep;have hbd:sb.dep=O.out.length:=by unfold S.dep;rw [M.outb]
   change dQ P V' ((small (dh opsA.toList) tr i).plus bs).get μ' _ cv at h1;change Inv P V' ((small (dh opsA.toList) tr i).plus bs).get μ' w' at h2;change Evo V (small (dh opsA.toList) tr i).get μ w V' ((small (dh opsA.toList) tr i).plus bs).get μ' w' at h3;have hfresh:∀ j x,j.d=O.out.length→bg bs j.t j.n=some x→sb.get j=none:=fun j x e hx=>M.fresh T U hdl hdep e hx
   have hj:wP ((small (dh opsA.toList) tr i).plus bs).get sb.get=(sb.plus bs).get:=by
    funext j
    unfold wP;rw [pq,pq,hsd,hbd];by_cases e:j.d=O.out.length
    ·rw [if_pos e,if_pos e];cases hf:bg bs j.t j.n with
     | some b=>rfl
     | none =>
      simp only;cases hs:(small (dh opsA.toList) tr i).get j with
      | none=>rfl
      | some b=>exact (hsub j b hs).symm
    ·rw [if_neg e,if_neg e];cases hs:(small (dh opsA.toList) tr i).get j with
     | none=>rfl
     | some b=>exact (hsub j b hs).symm
   obtain ⟨k1,k2⟩:=M.inv.join hsub h2 h3 (fun j b k1 k2=>by
    rw [pq,hsd] at k1;split at k1
    ·rename_i e
     split at k1
     ·rename_i x hx;exact hfresh j x e hx
     ·rw [k2] at k1;cases k1
    ·rw [k2] at k1;cases k1)
   have h1':dQ P V' (wP ((small (dh opsA.toList) tr i).plus bs).get sb.get) (zV ((small (dh opsA.toList) tr i).plus bs).get μ' μ) (tr i).val cv :=
    h1.mono (.refl _) (fun j _ b hb=>⟨b,oN hb,by rw [jT hb];exact .refl _ _⟩)
   rw [hj] at k1 k2 h1';have hk:FX opsA.toList tr O.out.length i:=by
    refine ⟨fun s' h=>(by rw [hdl] at h;cases h),fun bs' h=>(by rw [hdl] at h;cases h;exact h2.closed),fun j hj=>?_⟩;rcases zt.1 (oW h1 j hj) with ⟨z1,z2⟩ | z
    ·exact .inr ⟨i, .inl rfl,by unfold Names;rw [hdl];exact ⟨by rw [← hsd];exact z1,z2⟩⟩
    ·rcases ((dom he).2 j).1 z with z | ⟨k,z1,z2⟩
     ·exact .inl z
     ·exact .inr ⟨k, .inr z1,z2⟩
   refine hK _ _ _ _ _ _ (M.keep T U hd (fun s' h=>by rw [hdl] at h;cases h) hk k1 k2 h1' ?_ M.outb);intro j x;rw [pq,hbd];constructor
   ·intro h;split at h
    ·rename_i e
     split at h
     ·rename_i y hy
      cases h;exact .inr ⟨e,i,bs, .inr rfl,(M.phase T U he).1,hdl,hy⟩
     ·rcases (M.mem j x).1 h with z | ⟨z1,k,cs,z2,z3⟩
      ·exact .inl z
      ·exact .inr ⟨z1,k,cs, .inl z2,z3⟩
    ·rcases (M.mem j x).1 h with z | ⟨z1,k,cs,z2,z3⟩
     ·exact .inl z
     ·exact .inr ⟨z1,k,cs, .inl z2,z3⟩
   ·intro h;have old:sb.get j=some x→(if j.d=O.out.length then (match bg bs j.t j.n with | some b=>some b | none=>sb.get j) else sb.get j)=some x:=by
     intro h;split
     ·rename_i e
      split
      ·rename_i y hy
       rw [hfresh j y e hy] at h;cases h
      ·exact h
     ·exact h
    rcases h with z | ⟨z1,k,cs,z2 | z2,z3,z4,z5⟩
    ·exact old ((M.mem j x).2 (.inl z))
    ·exact old ((M.mem j x).2 (.inr ⟨z1,k,cs,z2,z3,z4,z5⟩))
    ·subst z2;rw [hdl] at z4;cases z4;rw [if_pos z1,z5]
  | set s' =>
   have hmv:=T.moved U.lt hdl;have he:i∈rd∨i∈mv := .inr hmv.1;obtain ⟨p1,p2,p3,p4⟩:=M.phase T U he;have hsub:=M.sub T Z U he;have hdep:=(dom he).1;have hsd:(small (dh opsA.toList) tr i).dep=O.out.length:=hdep;have hsb:sb.get=(small (dh opsA.toList) tr i).get:=by
    funext j
    cases hs:(small (dh opsA.toList) tr i).get j with
    | some b=>exact hsub j b hs
    | none =>
     cases hq:sb.get j with
     | none=>rfl
     | some x =>
      exfalso
      have hn:¬ (small (dh opsA.toList) tr i).has j:=by rintro ⟨y,hy⟩;rw [hs] at hy;cases hy
      apply hn;unfold small;rw [zt];rcases (M.mem j x).1 hq with z | ⟨z1,k,cs,z2,z3,z4,z5⟩
      ·exact .inr ⟨x,by rw [p3];exact z⟩
      ·have hkl:=M.inb k z2;have hb:Before opsA.toList k i:=by
        rcases T.ord.mem i hmv.1 k _ (List.getElem?_eq_getElem hkl) (fun e=>U.new (e ▸ z2)) (.inl (T.laid hkl z4).1) with y | y
        ·exact absurd y (M.Vo U k z2)
        ·exact y
       have hki:=jU T.ord.ord i U.lt hb;exact .inl ⟨by rw [hdep];exact z1,zX hb z5 ((p4 k cs).2 ⟨z3,hki,z4⟩)⟩
   refine run he (fun cv w' hl=>?_);obtain ⟨V',μ',h1,h2,h3,h4⟩:=hl;change dQ P V' s'.get μ' _ cv at h1;change Inv P V' s'.get μ' w' at h2;change Evo V (small (dh opsA.toList) tr i).get μ w V' s'.get μ' w' at h3;change s'.out=_ at h4;have hgrow:∀ j,(small (dh opsA.toList) tr i).has j→s'.has j:=by
    rintro j ⟨x,hx⟩
    obtain ⟨y,hy,_⟩:=h3.keep j x hx;exact ⟨y,hy⟩
   have hout:s'.out=O.out:=by
    rw [h4]
    show (tr i).base.out=O.out
    rw [p3];exact M.outq
   have hk:FX opsA.toList tr O.out.length i:=by
    refine ⟨fun s'' h=>(by rw [hdl] at h;cases h;exact ⟨⟨h4,hgrow⟩,h2.closed⟩),fun bs' h=>(by rw [hdl] at h;cases h),fun j hj=>?_⟩;by_cases hs:(small (dh opsA.toList) tr i).has j
    ·rcases ((dom he).2 j).1 hs with z | ⟨k,z1,z2⟩
     ·exact .inl z
     ·exact .inr ⟨k, .inr z1,z2⟩
    ·exact .inr ⟨i, .inl rfl,by unfold Names;rw [hdl];exact ⟨oW h1 j hj,hs⟩⟩
   exact hK _ _ _ _ _ _ (M.change T U hd hdl hk h2 (by rw [hsb];exact h3) h1 hout)
end
end Go.Lx
namespace Go.Lx
theorem Jb {α:Type} {p p':α→Bool}:∀ {l:List α} {x:α},x∈l→p x=true→p' x=false→(∀ y,p' y=true→p y=true)→l.countP p' < l.countP p
 | y::l,x,hx,h1,h2,h3=>by
  simp only [List.countP_cons];have hle:l.countP p'≤l.countP p:=List.countP_mono_left (fun z _ hz=>h3 z hz);cases hx with
  | head=>rw [h1,h2];simp;omega
  | tail _ hx =>
   have:=Jb hx h1 h2 h3;cases hp:p' y with
   | true=>rw [h3 y hp];simp;omega
   | false=>cases p y<;>simp<;>omega
section
variable {P:Program} {opsA:Array Oper} {tr:Nat→Rec} {F:Facts} {mv rd:List Nat} {O:nN}
theorem Sim.finish {L:Nat→Prop} {a:Act} {w:World} {q:Nat} {V:View} {μ:Id→Pl} {sb:Go.Lx.S} (M:Sim P O opsA.toList tr L a w q V μ sb) (T:Tr P F opsA.toList tr mv rd) (hall:∀ k,k < opsA.toList.length→L k) :
  St P O (tr opsA.toList.length).env ((tr opsA.toList.length).base.plus (kX (tr opsA.toList.length).adds)) a w:=by
 have hq:q≤opsA.toList.length:=by
  rcases M.qs with h | ⟨m,s',h1,h2,h3⟩
  ·omega
  ·have:=M.inb m h2;omega
 have hno:∀ m s',q≤m→m < opsA.toList.length→(tr m).dl≠some (.set s'):=fun m s' h1 h2 h3=>by
  have:=M.sets m s' (hall m h2) h3;omega
 obtain ⟨k1,k2⟩:=Go.Lx.phase T.step M.adds _ hq (Nat.le_refl _) hno;generalize hn:opsA.toList.length=n at *
 have hbd:sb.dep=O.out.length:=by unfold S.dep;rw [M.outb]
 have hqd:(tr n).base.dep=O.out.length:=by unfold S.dep;rw [k1,M.outq]
 have hget:((tr n).base.plus (kX (tr n).adds)).get=sb.get:=by
  funext j
  rw [pq,hqd];have none_of:∀ x,j.d=O.out.length→bg (kX (tr n).adds) j.t j.n=some x→sb.get j=some x:=by
   intro x e hx;obtain ⟨k,bs,z1,z2⟩:=A7 hx;obtain ⟨y1,y2,y3⟩:=(k2 k bs).1 z1;exact (M.mem j x).2 (.inr ⟨e,k,bs,hall k y2,y1,y3,z2⟩)
  cases hs:sb.get j with
  | some x =>
   rcases (M.mem j x).1 hs with z | ⟨e,k,bs,z1,z2,z3,z4⟩
   ·split
    ·rename_i e
     split
     ·rename_i y hy
      rw [none_of y e hy] at hs;exact hs
     ·rw [k1];exact z
    ·rw [k1];exact z
   ·rw [if_pos e];have hkl:k < n:=by have:=M.inb k z1;omega
    obtain ⟨y,hy⟩:=xQ z4 ((k2 k bs).2 ⟨z2,hkl,z3⟩);rw [hy];have:=none_of y e hy;rw [hs] at this;exact this.symm
  | none =>
   have hb:(tr n).base.get j=none:=by
    cases hz:(tr n).base.get j with
    | none=>rfl
    | some x =>
     have:=(M.mem j x).2 (.inl (by rw [← k1];exact hz));rw [hs] at this;cases this
   split
   ·rename_i e
    split
    ·rename_i y hy
     rw [none_of y e hy] at hs;cases hs
    ·exact hb
   ·exact hb
 refine ⟨V,μ,by rw [hget];exact M.inv,?_,by rw [hget];exact M.evo,by show (tr n).base.out=O.out;rw [k1];exact M.outq,M.size,M.defers⟩;intro t v hv;rw [hget];refine M.env t v ?_;have hl:=JD (fun j o ho=>(T.step j o ho).1) n (by omega) t v hv;rcases hl with ⟨k,o,z1,z2,z3,z4,z5⟩ | ⟨z1,z2⟩
 ·exact .inl ⟨k,o,hall k z1,z2,z3,z4,fun k' o' h1 h2 h3=>z5 k' o' (by have:=M.inb k' h1;omega) h2 h3⟩
 ·exact .inr ⟨fun k o h1 h2=>z1 k o (by have:=M.inb k h1;omega) h2,z2⟩
theorem Sim.congr {L L':Nat→Prop} {a:Act} {w:World} {q:Nat} {V:View} {μ:Id→Pl} {sb:Go.Lx.S} (M:Sim P O opsA.toList tr L a w q V μ sb) (h:∀ k,L k↔L' k):Sim P O opsA.toList tr L' a w q V μ sb:=by
 have:L=L':=funext fun k=>propext (h k)
 rw [← this];exact M
theorem any_ok (T:Tr P F opsA.toList tr mv rd) (Z:Start O tr) (hd:uA O.n opsA.toList=true) {Q:Exit→Act→World→Prop}
  (hQ:∀ a' w',St P O (tr opsA.toList.length).env ((tr opsA.toList.length).base.plus (kX (tr opsA.toList.length).adds)) a' w'→Q .normal a' w') :
  ∀ (fuel:Nat) (listed:Array Bool) (a:Act) (w:World) (q:Nat) (V:View) (μ:Id→Pl) (sb:Go.Lx.S),Sim P O opsA.toList tr (fun k=>k < opsA.toList.length∧listed.getD k false=true) a w q V μ sb→listed.size=opsA.size →
  (List.range opsA.size).countP (fun k=>!listed.getD k false)≤fuel→wpAny P .any opsA Q fuel listed a w:=by
 intro fuel
 induction fuel with
 | zero =>
  intro listed a w q V μ sb M hsz hc;have hall:∀ k,k < opsA.toList.length→listed.getD k false=true:=by
   intro k hk;have:=List.countP_eq_zero.1 (Nat.le_zero.1 hc) k (List.mem_range.2 (by simpa using hk));simpa using this
  refine ⟨?_,hQ a w (M.finish T (fun k hk=>⟨hk,hall k hk⟩))⟩;unfold Region.ready;refine List.filter_eq_nil_iff.2 (fun k hk=>?_);have h1:=hall k (by simpa using List.mem_range.1 hk);have h2:listed.getD k true=true:=by
   have hl:k < listed.size:=by rw [hsz];exact List.mem_range.1 hk
   simp [Array.getD,hl] at h1 ⊢;exact h1
  rw [h2];simp
 | succ fuel ih =>
  intro listed a w q V μ sb M hsz hc;have look_eq:∀ k,k < opsA.size→listed.getD k true=listed.getD k false:=by
   intro k hk;have hl:k < listed.size:=by rw [hsz];exact hk
   simp [Array.getD,hl]
  refine ⟨fun hr=>?_,fun i hi=>?_⟩
  ·refine hQ a w (M.finish T (fun k hk=>⟨hk,?_⟩))
   induction k using Nat.strongRecOn with
   | _ k ihk =>
    have hks:k < opsA.size:=by simpa using hk
    cases hl:listed.getD k false with
    | true=>rfl
    | false =>
     exfalso
     have hm:k∈Region.ready .any opsA listed:=by
      unfold Region.ready;refine List.mem_filter.2 ⟨List.mem_range.2 hks,?_⟩;rw [look_eq k hks,hl];have hget:opsA[k]?=some opsA[k]:=Array.getElem?_eq_getElem hks;rw [hget];simp only [Bool.not_false,Bool.true_and,Option.map_some,Option.getD_some];rw [← Array.all_toList];refine List.all_eq_true.2 (fun e he=>?_);cases hb:Region.binds .any e with
      | false=>rfl
      | true =>
       have hlt:=T.ord.ord k opsA[k] (by simp [hks]) e he hb;simp only [Bool.not_true,Bool.false_or];exact ihk e.on hlt (by omega)
     rw [hr] at hm;cases hm
  ·unfold Region.ready at hi;obtain ⟨h1,h2⟩:=List.mem_filter.1 hi;have his:i < opsA.size:=List.mem_range.1 h1;have hget:opsA[i]?=some opsA[i]:=Array.getElem?_eq_getElem his;rw [look_eq i his,hget] at h2;simp only [Bool.and_eq_true,Bool.not_eq_true',Option.map_some,Option.getD_some] at h2;obtain ⟨hnew,hedge⟩:=h2;have hone:∀ e,e∈opsA[i].after.toList→Region.binds .any e=true→e.on < opsA.toList.length∧listed.getD e.on false=true:=by
    intro e he hb;rw [← Array.all_toList] at hedge;have:=List.all_eq_true.1 hedge e he;rw [hb] at this;have hlt:=T.ord.ord i opsA[i] (by simp [his]) e he hb;exact ⟨by simp;omega,by simpa using this⟩
   have hit:opsA.toList[i]?=some opsA[i]:=by simp [his]
   have U:Turn opsA.toList (fun k=>k < opsA.toList.length∧listed.getD k false=true) i opsA[i]:=by
    refine ⟨hit,fun j hj=>?_,fun h=>by rw [hnew] at h;cases h.2⟩;obtain ⟨e,k1,k2,k3⟩:=(wu T.ord.ord hit j).1 hj;rcases k3 with rfl | k3
    ·exact hone e k1 k2
    ·exact M.cl e.on j (hone e k1 k2) k3
   refine M.step T Z U hd (fun a' w' q' V' μ' sb' M'=>?_);have hset:∀ k,(listed.setIfInBounds i true).getD k false=(decide (k=i) || listed.getD k false):=by
    intro k;by_cases e:k=i
    ·subst e;have hl:k < listed.size:=by rw [hsz];exact his
     simp [Array.getD,hl]
    ·simp only [Array.getD_eq_getD_getElem?,Array.getElem?_setIfInBounds_ne (fun q=>e q.symm),decide_eq_false e,Bool.false_or]
   refine ih _ a' w' q' V' μ' sb' (M'.congr (fun k=>?_)) (by simpa using hsz) ?_
   ·rw [hset];simp only [Bool.or_eq_true,decide_eq_true_eq];constructor
    ·rintro (⟨h1,h2⟩ | rfl)
     ·exact ⟨h1, .inr h2⟩
     ·exact ⟨by simpa using his, .inl rfl⟩
    ·rintro ⟨h1,h2 | h2⟩
     ·exact .inr h2
     ·exact .inl ⟨h1,h2⟩
   ·have:=Jb (l:=List.range opsA.size) (p:=fun k=>!listed.getD k false) (p':=fun k=>!(listed.setIfInBounds i true).getD k false) (x:=i) (List.mem_range.2 his) (by simp [hnew]) (by rw [hset];simp)
     (fun y hy=>by rw [hset] at hy;simp at hy ⊢;exact hy.2)
    omega
theorem KC (hm:P.follows .mixedOrders=true) {id:Nat} {ops:Array Oper} (hd:uA O.n ops.toList=true) {Q:Exit→Act→World→Prop} {env:Env} {s:Go.Lx.S} {a:Act} {w:World} {env':Env} {s':Go.Lx.S} {moved reads:List Nat} (hSt:St P O env s a w)
  {F:Facts} (hF:Eg s F) (e:Js P F ops.toList (dh ops.toList) (jO 0 ops.toList) [] env s env' s' moved reads) (ho:vX ops.toList moved reads=true) (hQ:∀ a' w',St P O env' s' a' w'→Q .normal a' w') :
  (Code.region id ops true).wp P Q a w:=by
 refine wp_region_any hm ?_;obtain ⟨V,μ,I,R,E,hout,hn,hdf⟩:=hSt;obtain ⟨tr,t1,t2,t3,t4,t5,t6⟩:=trace F ops.toList (dh ops.toList) ops.toList 0 e;simp only [Nat.zero_add] at t4 t5 t6;have T:Tr P F ops.toList tr moved reads:=⟨Gy ho,t4,t3,fun k=>by
  induction k with
  | zero=>intro _;rw [t2];exact hF
  | succ k ih =>
   intro hk;have ih:=ih (by omega);obtain ⟨_,hs⟩:=t4 k _ (List.getElem?_eq_getElem (by omega));cases hd:(tr k).dl with
   | none=>rw [hd] at hs;rw [hs.2.2.1];exact ih
   | some dl =>
    rw [hd] at hs;obtain ⟨_,_,_,hs⟩:=hs;cases dl with
    | same=>rw [hs.1];exact ih
    | add bs=>rw [hs.2.1];exact ih
    | set s'=>rw [hs.2.1];exact hs.2.2.2.2⟩
 have Z:Start O tr:=by
  refine ⟨by rw [t2];exact I.closed,fun t v hv j hj=>?_,by rw [t2];unfold S.dep;rw [hout]⟩;rw [t1] at hv;rw [t2];exact oW (R t v hv) j hj
 have I1:Inv P V s.get μ { w with drawn:=w.drawn+1 }:=⟨I.blk,I.apart,I.cell,I.map,I.tidy⟩
 have E1:Evo O.V O.h O.μ O.w V s.get μ { w with drawn:=w.drawn+1 }:=⟨E.os,E.tape,E.output,E.size,E.rest,E.view,E.newc,E.newm,E.place,E.keep⟩
 have M:Sim P O ops.toList tr (fun k=>k < ops.toList.length∧(Array.replicate ops.size false).getD k false=true) a { w with drawn:=w.drawn+1 } 0 V μ s:=by
  have no:∀ k,¬ (k < ops.toList.length∧(Array.replicate ops.size false).getD k false=true):=by
   rintro k ⟨_,h⟩
   simp [Array.getD] at h
  refine ⟨fun k h=>absurd h (no k),fun k j h=>absurd h (no k),fun k h=>h.1, .inl rfl,fun m s' h=>absurd h (no m),t3,fun i x=>?_,I1,fun t v hv=>?_,E1,hout,by rw [t2];exact hout,hn,hdf⟩
  ·unfold HL;rw [t2];constructor
   ·exact .inl
   ·rintro (h | ⟨_,k,bs,h,_⟩)
    ·exact h
    ·exact absurd h (no k)
  ·rcases hv with ⟨k,_,h,_⟩ | ⟨_,h⟩
   ·exact absurd h (no k)
   ·rw [t1] at h;exact R t v h
 refine any_ok T Z hd (fun a' w' h=>hQ a' w' ?_) ops.size _ a _ 0 V μ s M (by simp) ?_
 ·rw [t5] at h;rw [t6];exact h
 ·exact Nat.le_trans List.countP_le_length (by simp)
end
theorem CWp.draw {P:Program} (hm:P.follows .mixedOrders=true) {id:Nat} {ops:Array Oper} {env env':Env} {s s':Go.Lx.S} {Q:Ex→Env→Go.Lx.S→Prop} {moved reads:List Nat} {F:Facts} (hF:Eg s F)
  (h:Js P F ops.toList (dh ops.toList) (jO 0 ops.toList) [] env s env' s' moved reads) (ho:vX ops.toList moved reads=true) (hq:Q .norm env' s'):CWp P (.region id ops true) env s Q :=
 ⟨fun _ _ _ hc T=>KC hm hc T hF h ho (fun _ _ T'=>⟨.norm,env',s',rfl,T',hq⟩)⟩
end Go.Lx
