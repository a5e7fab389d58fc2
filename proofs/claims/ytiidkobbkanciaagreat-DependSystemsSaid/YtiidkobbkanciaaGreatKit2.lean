/- Values of the language, told by plain data; contracts of functions and operations, and how they are shown: part 2. -/
import Derived.Test.YtiidkobbkanciaaGreatKit1
import Derived.MapKept
import Derived.Orders
set_option linter.all false
namespace Go.Lx
section
variable {P:Program} {V:View} {μ:Id→Pl} {w:World}
theorem NZ {h:Id→Option Blk} {t:TypeId} {sz off:Nat} (hz:lQ P t=some sz) {cs:List A} {vs:Array Value} {y:A} (hC:lw P V h μ cs vs.toList) (hp:zy (qi P t) sz cs off=some y) :
  ∃ v,(part t vs off).run P w = .ok v w∧iI P V h μ y v:=by
 rcases FK hC hp with ⟨ha,ws,h1,h2,h3⟩ | ⟨ha,v,h1,h2,h3⟩
 ·refine ⟨.agg ws.toArray,?_,h3⟩;have hext:vs.extract off (off+sz)=ws.toArray:=by
   apply Array.ext';simp only [Array.toList_extract];apply List.ext_getElem?;intro j;rcases Nat.lt_or_ge j sz with q | q
   ·have hj:ws[j]?=some (ws[j]'(by omega)):=ax (by omega);rw [hj];have:=h2 j _ hj;simp only [List.extract_eq_take_drop,dh,fF];rw [if_pos (by omega)];exact this
   ·rw [kW (l:=ws) (by omega)];rw [kW];simp only [List.extract_eq_take_drop,jK,List.length_drop];omega
  simp [part,vk hz,ha,iP hz,hext]
 ·refine ⟨v,?_,h2⟩;have:vs[off]?=some v:=by simpa using h1
  simp [part,vk hz,ha,this]
theorem LH {c:Cfg} {h:Id→Option Blk} {t:TypeId} {x ix y:A} {cv ci:Value} (e:ES c t x ix=some y) (H:iI c.P V h μ x cv) (Hi:iI c.P V h μ ix ci) :
  ∃ v,(Instr.index t cv ci).run c.P w = .ok v w∧iI c.P V h μ y v:=by
 unfold ES at e;split at e
 ·rename_i len el cs k n hu
  have:=KY Hi;subst this;split at e
  ·rename_i sz hsz
   split at e
   ·rename_i hn
    cases hpd:yS (qi c.P el) sz cs (n.toNat * sz) with
    | none=>rw [hpd] at e;cases e
    | some z =>
     rw [hpd] at e;cases e;cases H.dOf with
     | agg _ vs hn' hh hp =>
      obtain ⟨v,h1,h2⟩:=NZ (w:=w) hsz (pV (h:=h) (μ:=μ) (.agg cs vs hn' hh hp)) (vN hpd);refine ⟨v,?_,h2⟩;unfold Instr.index;simp [asIntOf,cO hu,hn,iP hsz];exact h1
   ·cases e
  ·cases e
 ·cases e
theorem Pj {c:Cfg} {s:S} (I:Inv c.P V s.get μ w) {t:TypeId} {ts:List TypeId} {ty:TypeId} {x:A} {cx:Value} {z:D} (e:Gn c s t x=some z) (H:iI c.P V s.get μ x cx) :
  ∃ v,(Builtin.len_ (t::ts).toArray ty #[cx]).run c.P w = .ok v w∧jB c.P V z v:=by
 unfold Gn at e;split at e
 ·rename_i el xs hu
  cases e;cases H.dOf with
  | sl _ a cp b o sz ev hc ha hh hs hv=>exact ⟨_,by simp [Builtin.len_,cO hu,goInt], .int _ _⟩
 ·rename_i el hu
  cases e;cases H.dOf with
  | nilsl=>exact ⟨_,by simp [Builtin.len_,cO hu,goInt], .int _ _⟩
 ·rename_i el xs hu
  cases e;cases H with
  | tight _ a hd=>exact ⟨_,by simp [Builtin.len_,cO hu,goInt], .int _ _⟩
 ·rename_i el i off len full hu
  cases e;cases H with
  | ref _ _ _ _ sz l xs a cp hi hf hv=>exact ⟨_,by simp [Builtin.len_,cO hu,goInt], .int _ _⟩
 ·rename_i n el hu
  cases e;exact ⟨_,by simp [Builtin.len_,cO hu,goInt], .int _ _⟩
 ·rename_i k el kt es hu
  cases e;cases H.dOf with
  | mp _ _ r en clock hm hn hk hv ho hc hb =>
   have:=I.map _ _ _ hm;exact ⟨.int .i64 es.length,by simp [Builtin.len_,cO hu,goInt,MapKept.run_getObj_map this,hn], .int _ _⟩
 ·rename_i k el hu
  cases e;cases H.dOf with
  | mpnil=>exact ⟨_,by simp [Builtin.len_,cO hu,goInt], .int _ _⟩
 ·rename_i k el i hu
  split at e
  ·rename_i kt l es hi
   cases e;obtain ⟨h1,h3,en,h5,h6,h7,h8⟩:=I.blk i _ hi;cases H with
   | mref _ _ _ _ hi'=>exact ⟨.int .i64 es.length,by simp [Builtin.len_,cO hu,goInt,MapKept.run_getObj_map h5,h6], .int _ _⟩
  ·cases e
 ·cases e
theorem NU {lo:Bool} {x y z:D} {cx cy:Value} (e:TP lo x y=some z) (Hx:jB P V x cx) (Hy:jB P V y cy) :
  ∃ v,(if lo=true then Builtin.min2 cx cy else Builtin.max2 cx cy).run P w = .ok v w∧jB P V z v:=by
 unfold TP at e;split at e
 ·rename_i k a k' b
  split at e
  ·rename_i hk
   subst hk;cases e;cases Hx;cases Hy;cases lo with
   | true=>exact ⟨_,by simp [Builtin.min2], .int _ _⟩
   | false=>exact ⟨_,by simp [Builtin.max2], .int _ _⟩
  ·cases e
 ·cases e
inductive iy (P:Program) (V:View) (h:Id→Option Blk) (μ:Id→Pl):List A→List Value→Prop where
 | nil:iy P V h μ [] []
 | cons (a:A) (v:Value) (as:List A) (vs:List Value) (ha:iI P V h μ a v) (hr:iy P V h μ as vs):iy P V h μ (a::as) (v::vs)
theorem BK {lo:Bool} {h:Id→Option Blk}:∀ {rest:List A} {vs:List Value} {x z:D} {cx:Value},sV lo x rest=some z→jB P V x cx→iy P V h μ rest vs →
  ∃ v,(vs.foldlM (fun a b=>if lo=true then Builtin.min2 a b else Builtin.max2 a b) cx).run P w = .ok v w∧jB P V z v:=by
 intro rest
 induction rest with
 | nil =>
  intro vs x z cx e H R;cases R;simp only [sV] at e;cases e;exact ⟨cx,by simp,H⟩
 | cons a rest ih =>
  intro vs x z cx e H R;cases R with
  | cons _ v _ vs ha hr =>
   cases a with
   | d y =>
    simp only [sV] at e;cases hm:TP lo x y with
    | none=>rw [hm] at e;cases e
    | some q =>
     rw [hm] at e;obtain ⟨v1,h1,h2⟩:=NU (w:=w) hm H ha.dOf;obtain ⟨v2,h3,h4⟩:=ih e h2 hr;exact ⟨v2,by simp only [List.foldlM_cons,Sem.run_bind,h1,Result.andThen_ok,h3],h4⟩
   | _=>simp [sV] at e
theorem Pn {h:Id→Option Blk} {ts:Array TypeId} {ty:TypeId} {x z:D} {rest:List A} {vs:List Value} (e:sV true x rest=some z) (R:iy P V h μ (.d x::rest) vs) :
  ∃ v,(Builtin.min_ ts ty vs.toArray).run P w = .ok v w∧jB P V z v:=by
 cases R with
 | cons _ cx _ vs ha hr =>
  obtain ⟨v,h1,h2⟩:=BK (w:=w) e ha.dOf hr;refine ⟨v,?_,h2⟩;simp only [aS] at h1;simpa [Builtin.min_] using h1
theorem Pm {h:Id→Option Blk} {ts:Array TypeId} {ty:TypeId} {x z:D} {rest:List A} {vs:List Value} (e:sV false x rest=some z) (R:iy P V h μ (.d x::rest) vs) :
  ∃ v,(Builtin.max_ ts ty vs.toArray).run P w = .ok v w∧jB P V z v:=by
 cases R with
 | cons _ cx _ vs ha hr =>
  obtain ⟨v,h1,h2⟩:=BK (w:=w) e ha.dOf hr;refine ⟨v,?_,h2⟩;simp only [aN,aI] at h1;simpa [Builtin.max_] using h1
def Qz (k:Nat):A→A
 | .d (.sl xs) => .d (.sl (xs.take k))
 | .tight xs => .d (.sl (xs.take k))
 | .ref i off len full => .ref i off (min k len) full
 | x=>x
theorem P5 {xs:List D} {a:Option Addr} {n c:Nat} (k:Nat) (H:jB P V (.sl xs) (.slice a n c)):jB P V (.sl (xs.take k)) (.slice a (min k n) c):=by
 cases H with
 | sl _ _ _ b o sz ev hc ha hh hs hv =>
  have:=jB.sl (P:=P) (V:=V) (xs.take k) a c b o sz ev (by simp;omega) (by rcases ha with rfl | ha;exact .inl (by simp);exact .inr ha)
   (fun i d hd=>by rw [dh] at hd;split at hd;exact hh i d hd;cases hd) (fun i hi=>hs i (by simp at hi;omega)) (fun i hi=>hv i (by simp at hi;omega))
  rw [jK] at this;exact this
theorem OB {s:S} {k:Nat} {y:A} {a:Option Addr} {n c:Nat} {ys:List D} (H:iI P V s.get μ y (.slice a n c)) (e:s.elems y=some ys) :
  iI P V s.get μ (Qz k y) (.slice a (min k n) c)∧s.elems (Qz k y)=some (ys.take k):=by
 cases H with
 | d x v hd =>
  cases hd with
  | sl xs _ _ b o sz ev hc ha hh hs hv =>
   cases e;exact ⟨.d _ _ (P5 k (.sl ys a c b o sz ev hc ha hh hs hv)),rfl⟩
  | nilsl=>cases e;exact ⟨.d _ _ (by simpa using jB.nilsl),by simp [Qz,S.elems]⟩
  | junk _ _=>cases e
 | tight xs _ hd=>cases e;exact ⟨.d _ _ (P5 k hd),rfl⟩
 | ref i off len full sz l xs _ _ hi hf hv =>
  simp only [S.elems,hi] at e;split at e
  ·rename_i hh
   cases e;refine ⟨.ref i off _ full sz l xs a c hi hf (fun q=>?_),?_⟩
   ·obtain ⟨a',c',e1,h2⟩:=hv q;cases e1;exact ⟨_,_,rfl,h2⟩
   ·simp only [Qz,S.elems,hi];rw [if_pos ⟨hh.1,by omega⟩,List.take_take]
  ·cases e
 | unk v=>cases e
 | rcap=>cases e
 | bref=>cases e
 | nref=>cases e
 | tref=>cases e
theorem Eb (sz n:Nat) (a:Option Addr) (x y x' y':Nat):Builtin.firstCells sz n (.slice a x y)=Builtin.firstCells sz n (.slice a x' y'):=by cases a<;>rfl
theorem F9 {s:S} (I:Inv P V s.get μ w) {i:Id} {sz off len c:Nat} {xs ys:List D} {yc:List Value} {a:Option Addr} (hi:s.get i=some (.arr sz false xs)) (hle:off+len≤xs.length)
  (hsv:yV (μ i) sz off len (.slice a len c)) (hY:iw P V sz ys yc) (hn:ys≠[]) (hl:ys.length≤len) :
  ∃ ad w',a=some ad∧(storeCells ad yc).run P w = .ok () w'∧Inv P V (s.set i (.arr sz false (splice xs off ys))).get μ w'∧Evo V s.get μ w V (s.set i (.arr sz false (splice xs off ys))).get μ w':=by
 have hy0:0 < ys.length:=List.length_pos_iff.2 hn;have hx:xs≠[]:=by rintro rfl;simp at hle;omega
 obtain ⟨g1,g2,cells,elem,g5,g6,g7,g8⟩:=Oq I hi hx;obtain ⟨a',c',e1,h2⟩:=hsv;cases e1;rcases h2 with ⟨q1,_⟩ | ⟨q1,q2,q3,q4,q5⟩
 ·rw [g1] at q1;cases q1
 ·have ha:=q5 (.inl (by omega));subst ha;have hcap:xs.length * sz≤cells.size:=by rw [g6];exact aX _ g2
  have hfit:off * sz+yc.length≤xs.length * sz:=by rw [hY.1,← fD];exact aX _ (by omega)
  obtain ⟨w',k1,k2,k3,k4,k5,k6,k7⟩:=rY (P:=P) (μ i).blk elem yc (off * sz) 0 cells w g5 (by omega) hY.2.1;obtain ⟨r1,r2,r3⟩:=N8 g8 hY (off:=off) (by omega) hcap g7.1;obtain ⟨I',E'⟩:=PK I hi (xs':=splice xs off ys) r3 g1 g5 (by simpa using k2) (by simpa using r2) k3 k4 k5 k6 k7 r1;exact ⟨_,w',rfl,k1,I',E'⟩
theorem DK {α:Type} (xs:List α) (off:Nat):splice xs off []=xs:=by simp [splice]
theorem Ew {s:S} {i:Id} {b:Blk} (hi:s.get i=some b) (hone:b.one=true:=by rfl):(s.set i b).get=s.get:=by
 rw [(S.nH hi _ hone).1]
 funext j
 unfold upd;split
 ·rename_i e;rw [e,hi]
 ·rfl
theorem NE {c:Cfg} {s:S} (I:Inv c.P V s.get μ w) {t:TypeId} {ts:List TypeId} {x y z:A} {dl:Delta} {cx cy:Value} (e:Jq c s t x y=some (z,dl))
  (Hx:iI c.P V s.get μ x cx) (Hy:iI c.P V s.get μ y cy) (ty:TypeId):Done c.P V s μ w (dl.apply s) z ((Builtin.copy_ (t::ts).toArray ty #[cx,cy]).run c.P w):=by
 unfold Jq at e;split at e
 ·rename_i el ys hel hys
  have hu:=pY hel;split at e
  ·rename_i sz i off len full hsz
   split at e
   ·rename_i sz' xJ xs hi
    split at e
    ·rename_i hc
     obtain ⟨h1,h2,rfl,rfl,hall⟩:=hc;cases e;cases Hx with
     | ref _ _ _ _ sz2 l2 xs2 a cap hi2 hf hv =>
      rw [hi] at hi2;cases hi2;obtain ⟨b,n,c',rfl,hn,hnc,_⟩:=vI I Hy hys hall;obtain ⟨Hy',hys'⟩:=OB (k:=len) Hy hys;have hall':(ys.take len).all (fun y=>decide (y.size=sz'))=true:=aW.2 (fun z hz=>aW.1 hall z (jU hz));obtain ⟨b2,n2,c2,e2,hn2,_,yc,hyC,hyr⟩:=vI I Hy' hys' hall';cases e2;rw [Eb _ _ _ _ _ n c'] at hyr;have hmin:Nat.min n len=min len n:=Nat.min_comm _ _;have hz:(.int .i64 (min ys.length len:Nat):Value)=goInt ((min len n:Nat):Int):=by rw [← hn,Nat.min_comm];rfl
      by_cases he:ys.take len=[]
      ·rw [he] at hyC;have hyc:yc=[]:=fC (by have:=hyC.1;simpa using this);subst hyc;rw [he,DK];refine ⟨goInt ((min len n:Nat):Int),w,V,μ,?_,?_,?_,?_,?_⟩
       ·simp only [Builtin.copy_];cases a with
        | none=>simp [cO hu,Builtin.lenOf,iP hsz,hyr,hmin]
        | some ad=>simp [cO hu,Builtin.lenOf,iP hsz,hyr,hmin,storeCells]
       ·rw [← hz];exact .d _ _ (.int _ _)
       ·simp only [Delta.apply];rw [Ew hi];exact I
       ·simp only [Delta.apply];rw [Ew hi];exact .refl _ _ _ _
       ·exact (S.nH hi _).2
      ·obtain ⟨ad,w',rfl,k1,I',E'⟩:=F9 I hi (by omega) (hv h1) hyC he (by simp;omega);refine ⟨goInt ((min len n:Nat):Int),w',V,μ,?_,?_,I',E',(S.nH hi _).2⟩
       ·simp only [Builtin.copy_];simp [cO hu,Builtin.lenOf,iP hsz,hyr,hmin,k1]
       ·rw [← hz];exact .d _ _ (.int _ _)
    ·cases e
   ·cases e
  ·cases e
 ·cases e
theorem KT {c:Cfg} {s:S} (I:Inv c.P V s.get μ w) {t:TypeId} {ts:List TypeId} {x z:A} {dl:Delta} {cx:Value} (e:Lc c s t x=some (z,dl))
  (Hx:iI c.P V s.get μ x cx) (ty:TypeId):Done c.P V s μ w (dl.apply s) z ((Builtin.clear_ (t::ts).toArray ty #[cx]).run c.P w):=by
 unfold Lc at e;split at e
 ·rename_i el i off len full hel
  have hu:=pY hel;split at e
  ·rename_i sz zd sz' xJ xs hsz hzd hi
   split at e
   ·rename_i hc
    obtain ⟨h1,h2,rfl,rfl,hzz⟩:=hc;cases e;obtain ⟨zv,hzv,hzr⟩:=xE hzd w;have hzc:zv.cells.size=sz':=by rw [(hzr V).cells.1,hzz]
    have R0:∀ s',iI c.P V s' μ (.tup []) (.tuple #[]):=fun s' => .tup [] #[] rfl (fun i d v h=>by simp at h)
    cases Hx with
    | ref _ _ _ _ sz2 l2 xs2 a cap hi2 hf hv =>
     rw [hi] at hi2;cases hi2;cases hlen:len with
     | zero =>
      subst hlen;refine ⟨.tuple #[],w,V,μ,?_,R0 _,?_,?_,?_⟩
      ·simp only [Builtin.clear_];cases a<;>simp [cO hu]
      ·simp only [Delta.apply,List.replicate_zero,DK];rw [Ew hi];exact I
      ·simp only [Delta.apply,List.replicate_zero,DK];rw [Ew hi];exact .refl _ _ _ _
      ·exact (S.nH hi _).2
     | succ m =>
      subst hlen;obtain ⟨ad,w',rfl,k1,I',E'⟩:=F9 I hi (by omega) (hv h1) (vT (hzr V) hzc (m+1)) (by simp) (by simp);refine ⟨.tuple #[],w',V,μ,?_,R0 _,I',E',(S.nH hi _).2⟩;simp only [Builtin.clear_];simp [cO hu,hzv];rw [k1];simp
   ·cases e
  ·cases e
 ·cases e
end
end Go.Lx
namespace Go.Lx
open Go.MapKept
section
variable {P:Program} {V:View} {μ:Id→Pl} {w:World}
theorem G5 {kt:TypeId} {d:D} {v:Value} (h:A7 P kt d=true) (H:jB P V d v):∃ desc,P.underlying kt=some desc∧IsKey desc v:=by
 unfold A7 at h;split at h
 ·split at h
  ·rename_i k n k' hu
   cases H;exact ⟨_,hu,by simpa [IsKey] using h⟩
  ·cases h
 ·split at h
  ·rename_i hu;cases H;exact ⟨_,hu,trivial⟩
  ·cases h
 ·split at h
  ·rename_i hu;cases H;exact ⟨_,hu,trivial⟩
  ·cases h
 ·cases h
theorem SL {kt:TypeId} {d d':D} {v v':Value} (h:A7 P kt d=true) (h':A7 P kt d'=true) (H:jB P V d v) (H':jB P V d' v'):D.beq d d'=true↔v=v':=by
 obtain ⟨desc,hu,hk⟩:=G5 h H;obtain ⟨desc',hu',hk'⟩:=G5 h' H';rw [hu] at hu';cases hu';cases H<;>cases desc<;>first | exact hk.elim | skip
 all_goals cases H'<;>first | exact hk'.elim | skip
 all_goals first | (simp [A7] at h;done) | (simp [A7] at h';done) | (simp_all [D.beq,bytes_beq,IsKey];done)
structure uZ (P:Program) (V:View) (kt:TypeId) (es:List (D×D)) (en:List MapEntry):Prop where
 len:en.length=es.length
 rel:∀ (i:Nat) e m,es[i]?=some e→en[i]?=some m→jB P V e.1 m.key∧jB P V e.2 m.val
 ok:∀ e,e∈es→A7 P kt e.1=true
def NI:List (D×D)→D→Option Nat
 | [],_=>none
 | (k,_)::rest,x=>if D.beq k x then some 0 else (NI rest x).map (·+1)
theorem uZ.tail {kt:TypeId} {e:D×D} {m:MapEntry} {es:List (D×D)} {en:List MapEntry} (H:uZ P V kt (e::es) (m::en)):uZ P V kt es en :=
 ⟨by have:=H.len;simpa using this,fun i a b ha hb=>H.rel (i+1) a b (by simpa using ha) (by simpa using hb),fun a ha=>H.ok a (.tail _ ha)⟩
theorem GR {kt:TypeId} {x:D} {v:Value} {desc:TypeDesc} (hu:P.underlying kt=some desc) (hx:A7 P kt x=true) (Hx:jB P V x v) :
  ∀ {es:List (D×D)} {en:List MapEntry},uZ P V kt es en→∀ i0,
  (NI es x=none∧Gp es x=none∧(∀ y,Gi es x y=es++[(x,y)])∧Instr.findNow desc v en i0=some none) ∨
  (∃ j e m,NI es x=some j∧es[j]?=some e∧en[j]?=some m∧Gp es x=some e.2∧(∀ y,Gi es x y=es.set j (e.1,y))∧m.key=v∧Instr.findNow desc v en i0=some (some (i0+j,m.val))):=by
 intro es
 induction es with
 | nil =>
  intro en H i0;have:=H.len;cases en with
  | nil=>exact .inl ⟨rfl,rfl,fun _=>rfl,rfl⟩
  | cons _ _=>simp at this
 | cons e es ih =>
  intro en H i0;cases en with
  | nil=>have:=H.len;simp at this
  | cons m en =>
   obtain ⟨k,val⟩:=e;have hk:=H.ok (k,val) (.head _);have hr:=(H.rel 0 (k,val) m rfl rfl).1;obtain ⟨d1,hu1,ik1⟩:=G5 hk hr;obtain ⟨d2,hu2,ik2⟩:=G5 hx Hx;rw [hu] at hu1 hu2;cases hu1;cases hu2;obtain ⟨r,hs,hiff⟩:=sameNow_of_keys ik2 ik1;have hb:=SL hk hx hr Hx;cases hbk:D.beq k x with
   | true =>
    right;have hv:m.key=v:=hb.1 hbk;have hrt:r=true:=hiff.2 hv.symm;subst hrt;exact ⟨0,(k,val),m,by simp [NI,hbk],rfl,rfl,by simp [Gp,hbk],fun y=>by simp [Gi,hbk],hv,by simp [Instr.findNow,hs]⟩
   | false =>
    have hv:¬ (v=m.key):=fun q=>by have:=hb.2 q.symm;rw [hbk] at this;cases this
    have hrt:r=false:=by cases r with | false=>rfl | true=>exact absurd (hiff.1 rfl) hv
    subst hrt;rcases ih H.tail (i0+1) with ⟨h1,h2,h3,h4⟩ | ⟨j,e',m',h1,h2,h3,h4,h5,h6,h7⟩
    ·exact .inl ⟨by simp [NI,hbk,h1],by simp [Gp,hbk,h2],fun y=>by simp [Gi,hbk,h3],by simp [Instr.findNow,hs,h4]⟩
    ·exact .inr ⟨j+1,e',m',by simp [NI,hbk,h1],by simpa using h2,by simpa using h3,by simp [Gp,hbk,h4],fun y=>by simp [Gi,hbk,h5],h6,by simp [Instr.findNow,hs,h7];omega⟩
theorem JH {c:Cfg} {s:S} (I:Inv c.P V s.get μ w) {t:TypeId} {m k z:A} {ok:Bool} {cm ck:Value} (e:BH c s t m k ok=some z) (Hm:iI c.P V s.get μ m cm) (Hk:iI c.P V s.get μ k ck) :
  ∃ v,(Instr.lookup t cm ck ok).run c.P w = .ok v w∧iI c.P V s.get μ z v:=by
 unfold BH at e;split at e
 ·rename_i kt el kd hu
  split at e
  ·rename_i hkd
   split at e
   ·rename_i zd es hzd hes
    cases e;obtain ⟨desc,huk,hisk⟩:=G5 hkd Hk.dOf;obtain ⟨zv,hzv,hzr⟩:=xE hzd w;have key:∃ en:Array MapEntry,uZ c.P V kt es en.toList∧((cm = .map none∧en=#[])∨∃ r clock,cm = .map (some r)∧w.heap[r]?=some (.map en clock)):=by
     cases Hm with
     | d x v hd =>
      cases hd with
      | mp kt' es' r en clock hm hn hk hv ho hc hb =>
       simp only at hes;split at hes
       ·rename_i q
        subst q;cases hes;exact ⟨en,⟨by simpa using hn,fun i a b ha hb=>⟨hk i a b ha (by simpa using hb),hv i a b ha (by simpa using hb)⟩,ho⟩, .inr ⟨r,clock,rfl,I.map _ _ _ hm⟩⟩
       ·cases hes
      | mpnil=>cases hes;exact ⟨#[],⟨rfl,fun i a b ha=>by simp at ha,fun a ha=>by cases ha⟩, .inl ⟨rfl,rfl⟩⟩
      | _=>cases hes
     | mref i kt' l es' hi =>
      simp only [hi] at hes;split at hes
      ·rename_i q
       subst q;cases hes;obtain ⟨h1,h3,en,h5,h6,h7,h8⟩:=I.blk i _ hi;exact ⟨en,⟨by simpa using h6,fun i a b ha hb=>⟨(h7 i a b ha (by simpa using hb)).1,(h7 i a b ha (by simpa using hb)).2.1⟩,h8⟩, .inr ⟨_,_,rfl,h5⟩⟩
      ·cases hes
     | _=>cases hes
    obtain ⟨en,hen,hcm⟩:=key;have fin:∀ r:Option (Nat×Value),Instr.findNow desc ck en.toList 0=some r→(Instr.lookup t cm ck ok).run c.P w = .ok (if ok then .tuple #[(match r with | some (_,v)=>v | none=>zv), .bool r.isSome] else (match r with | some (_,v)=>v | none=>zv)) w:=by
     intro r hr;rcases hcm with ⟨rfl,rfl⟩ | ⟨rr,clock,rfl,hh⟩
     ·cases hr;simp [Instr.lookup,cO hu,run_checkKey huk hisk,run_findKey huk (show Instr.findNow desc ck [] 0=some none from rfl),hzv]
     ·cases r with
      | none=>simp [Instr.lookup,cO hu,MapKept.run_getObj_map hh,run_checkKey huk hisk,run_findKey huk hr,hzv]
      | some q=>obtain ⟨j,v⟩:=q;simp [Instr.lookup,cO hu,MapKept.run_getObj_map hh,run_checkKey huk hisk,run_findKey huk hr]
    rcases GR huk hkd Hk.dOf hen 0 with ⟨h1,h2,h3,h4⟩ | ⟨j,e',m',h1,h2,h3,h4,h5,h6,h7⟩
    ·refine ⟨_,fin _ h4,?_⟩;rw [h2];cases ok with
     | true =>
      refine .tup _ _ rfl (fun i d v hd hv=>?_);rcases i with _ | _ | i
      ·simp at hd hv;subst hd hv;exact .d _ _ (hzr V)
      ·simp at hd hv;subst hd hv;exact .d _ _ (.bool _)
      ·simp at hd
     | false=>exact .d _ _ (hzr V)
    ·refine ⟨_,fin _ h7,?_⟩;rw [h4];have hv:=(hen.rel j e' m' h2 h3).2;cases ok with
     | true =>
      refine .tup _ _ rfl (fun i d v hd hv'=>?_);rcases i with _ | _ | i
      ·simp at hd hv';subst hd hv';exact .d _ _ hv
      ·simp at hd hv';subst hd hv';exact .d _ _ (.bool _)
      ·simp at hd
     | false=>exact .d _ _ hv
   ·cases e
  ·cases e
 ·cases e
theorem zu {c:Cfg} {s s':S} (I:Inv c.P V s.get μ w) {t:TypeId} {m k v:A} {cm ck cv:Value} (e:qg c s t m k v=some s') (Hm:iI c.P V s.get μ m cm) (Hk:iI c.P V s.get μ k ck) (Hv:iI c.P V s.get μ v cv) :
  ∃ w' V',(Instr.mapUpdate t cm ck cv).run c.P w = .ok () w'∧Inv c.P V' s'.get μ w'∧Evo V s.get μ w V' s'.get μ w'∧s'.out=s.out:=by
 have hμ:∀ i,yG μ i (μ i)=μ:=by intro i;funext j;unfold yG;split<;>simp_all
 unfold qg at e;split at e
 ·rename_i kt el i kd hu
  cases ht:s.toD v with
  | none=>rw [ht] at e;cases e
  | some r =>
   obtain ⟨x,o⟩:=r;rw [ht] at e;simp only at e;obtain ⟨V',L,hd⟩:=Nr I ht Hv;cases Hm with
   | mref _ kt0 l0 es0 hi0 =>
    split at e
    ·rename_i kt' xJ es hi
     split at e
     ·rename_i hc
      obtain ⟨rfl,rfl,hkd⟩:=hc;cases e;have Hkd:jB c.P V' kd ck:=Hk.dOf.mono L.evo.view;obtain ⟨desc,huk,hisk⟩:=G5 hkd Hkd;obtain ⟨h1,h3,en,h5,h6,h7,h8⟩:=L.inv.blk i _ hi;have hen:uZ c.P V' kt' es en.toList:=⟨by simpa using h6,fun i a b ha hb=>⟨(h7 i a b ha (by simpa using hb)).1,(h7 i a b ha (by simpa using hb)).2.1⟩,h8⟩
      obtain ⟨hget,hdep⟩:=S.nH hi (.map kt' false (Gi es kd x));have fin:∀ en':Array MapEntry,en'.size=(Gi es kd x).length →
        (∀ (i:Nat) e m,(Gi es kd x)[i]?=some e→en'[i]?=some m→jB c.P V' e.1 m.key∧jB c.P V' e.2 m.val∧m.born=i)→(∀ e,e∈Gi es kd x→A7 c.P kt' e.1=true) →
        Inv c.P V' ((S.ok o s).set i (.map kt' false (Gi es kd x))).get μ { w with heap:=w.heap.setIfInBounds (μ i).blk (.map en' (Gi es kd x).length) } ∧
        Evo V s.get μ w V' ((S.ok o s).set i (.map kt' false (Gi es kd x))).get μ { w with heap:=w.heap.setIfInBounds (μ i).blk (.map en' (Gi es kd x).length) }:=by
       intro en' g1 g2 g3;obtain ⟨q1,q2⟩:=heap_set (o' := .map en' (Gi es kd x).length) h5;obtain ⟨I',E'⟩:=L.inv.Rf (w':={ w with heap:=w.heap.setIfInBounds (μ i).blk (.map en' (Gi es kd x).length) }) hi (.map kt' false (Gi es kd x)) (μ i) (fun q => .inl ⟨rfl,q⟩)
        (fun k _ hk=>q2 k (hk.resolve_left (by rw [h1];simp)))
        (fun cc v _ hv=>by
         have:=L.inv.cell _ _ _ hv;unfold World.cell? at this;simp [h5] at this)
        (fun e c _ hv=>absurd hv (h3 rfl e c)) rfl rfl rfl (by simp) ⟨h1,fun _=>h3 rfl,en',q1,g1,g2,g3⟩ rfl
       rw [hμ] at I' E';rw [hget];exact ⟨I',L.evo.trans E'⟩
      rcases GR huk hkd Hkd hen 0 with ⟨f1,f2,f3,f4⟩ | ⟨j,e',m',f1,f2,f3,f4,f5,f6,f7⟩
      ·have hset:=f3 x;obtain ⟨I',E'⟩:=fin (en.push { key:=ck,val:=cv,born:=es.length }) (by rw [hset];simp [h6])
        (by
         intro n a b ha hb;rw [hset] at ha;rw [Array.getElem?_push] at hb;by_cases q:n=en.size
         ·rw [if_pos q] at hb;cases hb;have:n=es.length:=by omega
          subst this;simp at ha;subst ha;exact ⟨Hkd,hd,rfl⟩
         ·rw [if_neg q] at hb;have hlt:=(aO.1 hb).1;rw [cZ (by omega)] at ha;exact h7 n a b ha hb)
        (by
         intro a ha;rw [hset] at ha;rcases aU.1 ha with q | q
         ·exact h8 a q
         ·simp at q;subst q;exact hkd)
       refine ⟨_,V',?_,I',E',hdep.trans L.dep⟩;have hl:(Gi es kd x).length=es.length+1:=by rw [hset];simp
       rw [hl];simp [Instr.mapUpdate,cO hu,MapKept.run_getObj_map h5,run_checkKey huk hisk,run_findKey huk f4,run_setObj_map _ h5]
      ·have hset:=f5 x;have hj:en[j]?=some m':=by simpa using f3
       have hjl:j < es.length:=(aC.1 f2).1;obtain ⟨I',E'⟩:=fin (en.modify j fun e=>{ e with key:=ck,val:=cv }) (by rw [hset];simp [h6])
        (by
         intro n a b ha hb;rw [hset] at ha;rw [Array.getElem?_modify] at hb;by_cases q:j=n
         ·subst q;rw [if_pos rfl,hj] at hb;rw [List.getElem?_set_self hjl] at ha;cases ha;cases hb;obtain ⟨g1,g2,g3⟩:=h7 j e' m' f2 hj;exact ⟨by rw [← f6];exact g1,hd,g3⟩
         ·rw [if_neg q] at hb;rw [List.getElem?_set_ne q] at ha;exact h7 n a b ha hb)
        (by
         intro a ha;rw [hset] at ha;rcases List.mem_or_eq_of_mem_set ha with q | q
         ·exact h8 a q
         ·subst q;exact h8 e' (dm f2))
       refine ⟨_,V',?_,I',E',hdep.trans L.dep⟩;have hl:(Gi es kd x).length=es.length:=by rw [hset];simp
       rw [hl];have f7':Instr.findNow desc ck en.toList 0=some (some (j,m'.val)):=by simpa using f7
       simp [Instr.mapUpdate,cO hu,MapKept.run_getObj_map h5,run_checkKey huk hisk,run_findKey huk f7',hj,f6,run_keyThatStays hisk,run_setObj_map _ h5]
     ·cases e
    ·cases e
 ·cases e
end
end Go.Lx
namespace Go.Lx
section
variable {P:Program} {V:View} {μ:Id→Pl} {w:World}
def uz (out:Out):S:=⟨[],out,[]⟩
theorem AZ (s:S):(uz (s.loc::s.cur)).get=s.get:=by
 funext i
 have hcl:s.cur.length=s.out.length:=uj _ _;have hd:(uz (s.loc::s.cur)).dep=s.dep+1:=by show (s.loc::s.cur).length=_;simp [S.dep,hcl]
 have hc:(uz (s.loc::s.cur)).cur=s.loc::s.cur:=by show jP _ []=_;simp [jP,uz]
 unfold S.get;rw [hd,hc];by_cases e0:i.d=s.dep+1
 ·rw [if_pos e0,if_neg (by omega),if_neg (by omega)];rfl
 ·rw [if_neg e0];by_cases e1:i.d=s.dep
  ·rw [if_pos e1,if_pos (by omega)];rw [show s.dep+1 - 1 - i.d=0 from by omega];simp
  ·rw [if_neg e1];by_cases e2:i.d < s.dep
   ·rw [if_pos (by omega),if_pos e2];obtain ⟨m,hm⟩:∃ m,s.dep - 1 - i.d=m:=⟨_,rfl⟩
    rw [show s.dep+1 - 1 - i.d=m+1 from by omega,hm];simp
   ·rw [if_neg (by omega),if_neg e2]
theorem DT:∀ (out:Out) (xs ys:List (Option Loc)),jP (jP out xs) ys=jP out (BZ xs ys)
 | out,[],ys=>by cases ys<;>simp [BZ,jP]
 | out,x::xs,[]=>by simp [BZ,jP]
 | [],x::xs,y::ys=>by simp [BZ,jP]
 | l::out,x::xs,y::ys=>by
  simp only [BZ,jP];rw [DT out xs ys];cases y<;>simp
def Gl (s:S) (chg:List (Option Loc)):S :=
 match chg with
 | []=>s
 | l::out'=>{ s with loc:=l.getD s.loc,chg:=BZ s.chg out' }
theorem QL (s:S) (chg:List (Option Loc)):(⟨[],s.loc::s.cur,chg⟩:S).get=(Gl s chg).get∧(Gl s chg).out=s.out:=by
 cases chg with
 | nil=>exact ⟨AZ s,rfl⟩
 | cons l out' =>
  refine ⟨?_,rfl⟩;have h1:(Gl s (l::out')).cur=jP s.cur out':=(DT s.out s.chg out').symm;have h2:=AZ (Gl s (l::out'));rw [← h2,h1]
  funext i
  have:(⟨[],s.loc::s.cur,l::out'⟩:S).cur=(uz ((Gl s (l::out')).loc::jP s.cur out')).cur:=by
   show jP (s.loc::s.cur) (l::out')=jP _ []
   simp [jP,Gl,uz]
  unfold S.get;rw [this];have hd:(⟨[],s.loc::s.cur,l::out'⟩:S).dep=(uz ((Gl s (l::out')).loc::jP s.cur out')).dep:=by
   show (s.loc::s.cur).length=((Gl s (l::out')).loc::jP s.cur out').length
   simp [uj]
  rw [hd];rfl
theorem iy.mono {V':View} {h h':Id→Option Blk} {μ':Id→Pl} {w':World} {as:List A} {vs:List Value} (R:iy P V h μ as vs) (E:Evo V h μ w V' h' μ' w'):iy P V' h' μ' as vs:=by
 induction R with
 | nil=>exact .nil
 | cons a v as vs ha hr ih=>exact .cons a v as vs (E.zI ha) ih
theorem iy.length {h:Id→Option Blk} {as:List A} {vs:List Value} (R:iy P V h μ as vs):vs.length=as.length:=by
 induction R with
 | nil=>rfl
 | cons a v as vs ha hr ih=>simp [ih]
theorem iy.get {h:Id→Option Blk} {as:List A} {vs:List Value} (R:iy P V h μ as vs):∀ (i:Nat) a v,as[i]?=some a→vs[i]?=some v→iI P V h μ a v:=by
 induction R with
 | nil=>intro i a v ha;simp at ha
 | cons a v as vs ha hr ih =>
  intro i a' v' h1 h2;cases i with
  | zero=>simp at h1 h2;subst h1 h2;exact ha
  | succ i=>exact ih i a' v' (by simpa using h1) (by simpa using h2)
theorem iy.of {h:Id→Option Blk}:∀ {as:List A} {vs:List Value},vs.length=as.length→(∀ (i:Nat) a v,as[i]?=some a→vs[i]?=some v→iI P V h μ a v)→iy P V h μ as vs
 | [],[],_,_ => .nil
 | [],_::_,hn,_=>by simp at hn
 | _::_,[],hn,_=>by simp at hn
 | a::as,v::vs,hn,H => .cons a v as vs (H 0 a v rfl rfl) (.of (by simpa using hn) (fun i a v ha hv=>H (i+1) a v (by simpa using ha) (by simpa using hv)))
theorem iy.append {h:Id→Option Blk} {as bs:List A} {vs us:List Value} (R:iy P V h μ as vs) (R':iy P V h μ bs us):iy P V h μ (as++bs) (vs++us):=by
 induction R with
 | nil=>exact R'
 | cons a v as vs ha hr ih=>exact .cons a v _ _ ha ih
theorem Oo {c:Cfg} {g:FuncId}:∀ (as:List A) {j:Nat} {s:S} {V:View} (_:Inv P V s.get μ w) {as':List A} {o:Option S} {vs:List Value},uM c g j s as=some (as',o)→iy P V s.get μ as vs →
  ∃ V',RG P V s μ w o V'∧iy P V' (S.ok o s).get μ as' vs
 | [],j,s,V,I,as',o,vs,e,R=>by
  simp only [uM] at e;cases e;cases R;exact ⟨V, .none I, .nil⟩
 | a::as,j,s,V,I,as',o,vs,e,R=>by
  cases R with
  | cons _ v _ vs ha hr =>
   simp only [uM] at e;cases hx:(if c.byref g j=true then some (a,none) else s.yt a) with
   | none=>rw [hx] at e;cases e
   | some r =>
    obtain ⟨x',o1⟩:=r;rw [hx] at e;simp only at e;cases hr2:uM c g (j+1) (S.ok o1 s) as with
    | none=>rw [hr2] at e;cases e
    | some r2 =>
     obtain ⟨rest',o2⟩:=r2;rw [hr2] at e;cases e;have key:∃ V1,RG P V s μ w o1 V1∧iI P V1 (S.ok o1 s).get μ x' v:=by
      split at hx
      ·cases hx;exact ⟨V, .none I,ha⟩
      ·exact Fz a I hx ha
     obtain ⟨V1,L1,R1⟩:=key;obtain ⟨V2,L2,R2⟩:=Oo as L1.inv hr2 (hr.mono L1.evo);have hok:S.ok (orS o2 o1) s=S.ok o2 (S.ok o1 s):=by cases o2<;>rfl
     refine ⟨V2,⟨by rw [hok];exact L2.inv,by rw [hok];exact L1.evo.trans L2.evo,by rw [hok];exact L2.dep.trans L1.dep⟩,?_⟩;rw [hok];exact .cons x' v _ _ (L2.evo.zI R1) R2
abbrev EC:=Pl×Nat×List D
mutual
def dZ (P:Program) (V:View) (h:Id→Option Blk) (μ:Id→Pl):A→Value→List EC→Prop
 | .own sz xs,v,gs=>∃ p,gs=[(p,sz,xs)]∧yV p sz 0 xs.length v
 | .agg cs,v,gs=>∃ vs,v = .agg vs∧(∀ (i:Nat) x,vs[i]?=some x→Plain x)∧kQ P V h μ cs vs.toList gs
 | .tup cs,v,gs=>∃ vs,v = .tuple vs∧kQ P V h μ cs vs.toList gs
 | a,v,gs=>gs=[]∧iI P V h μ a v
def kQ (P:Program) (V:View) (h:Id→Option Blk) (μ:Id→Pl):List A→List Value→List EC→Prop
 | [],vs,gs=>vs=[]∧gs=[]
 | a::as,vs,gs=>∃ v vr g1 g2,vs=v::vr∧gs=g1++g2∧dZ P V h μ a v g1∧kQ P V h μ as vr g2
end
structure Loose (P:Program) (V:View) (h:Id→Option Blk) (μ:Id→Pl) (w:World) (n:Nat) (gs:List EC):Prop where
 rel:∀ g,g∈gs→I8 P V h μ w g.1 (.arr g.2.1 false g.2.2)
 free:∀ g,g∈gs→g.1.nil=false→¬ oq h μ g.1.blk∧n≤g.1.blk∧g.1.blk < w.heap.size
 apart:gs.Pairwise fun a b=>a.1.nil=false→b.1.nil=false→a.1.blk≠b.1.blk
theorem Inv.SG {h:Id→Option Blk} (I:Inv P V h μ w) {i:Id} (hi:h i=none) {sz:Nat} {l:Bool} {xs:List D} {p:Pl} (hb:I8 P V h μ w p (.arr sz l xs)) (hf:p.nil=false→¬ oq h μ p.blk) :
  Inv P V (upd h i (.arr sz l xs)) (yG μ i p) w:=by
 have K:∀ j x,h j=some x→∃ x',upd h i (.arr sz l xs) j=some x'∧qo x (μ j) x' (yG μ i p j):=by
  intro j x hx;have e:j≠i:=fun e=>by rw [e,hi] at hx;cases hx
  exact ⟨x,by rw [upd_ne _ _ e];exact hx,by rw [iW _ _ e];exact .refl _ _⟩
 refine ⟨?_,?_,I.cell,I.map,zT I.tidy⟩
 ·intro j x hx;by_cases e:j=i
  ·subst e;rw [upd_same] at hx;cases hx;rw [fP];exact hb
  ·rw [upd_ne _ _ e] at hx;rw [iW _ _ e];exact (I.blk j x hx).mono K
 ·intro j k x y hx hy hne n1 n2;by_cases e1:j=i
  ·subst e1;have e2:k≠j:=fun e=>hne e.symm
   rw [fP] at n1;rw [upd_ne _ _ e2] at hy;rw [iW _ _ e2] at n2;rw [fP,iW _ _ e2];exact fun q=>hf n1 ⟨k,y,hy,n2,q.symm⟩
  ·rw [upd_ne _ _ e1] at hx;rw [iW _ _ e1] at n1;rw [iW _ _ e1];by_cases e2:k=i
   ·subst e2;rw [fP] at n2;rw [fP];exact fun q=>hf n2 ⟨j,x,hx,n1,q⟩
   ·rw [upd_ne _ _ e2] at hy;rw [iW _ _ e2] at n2;rw [iW _ _ e2];exact I.apart j k x y hx hy hne n1 n2
theorem Evo.SG {h h0:Id→Option Blk} {V0:View} {μ0:Id→Pl} {w0:World} (E:Evo V0 h0 μ0 w0 V h μ w) {i:Id} (hi:h i=none) {b:Blk} {p:Pl} (hf:p.nil=false→w0.heap.size≤p.blk) :
  Evo V0 h0 μ0 w0 V (upd h i b) (yG μ i p) w :=
 ⟨E.os,E.tape,E.output,E.size,E.rest,E.view,E.newc,E.newm,by
  intro j x hx n1;by_cases e:j=i
  ·subst e;rw [fP] at n1;rw [fP];exact .inr (hf n1)
  ·rw [upd_ne _ _ e] at hx;rw [iW _ _ e] at n1;rw [iW _ _ e];exact E.place j x hx n1,by
  intro j x hx;obtain ⟨x',h1,h2⟩:=E.keep j x hx;have e:j≠i:=fun e=>by rw [e,hi] at h1;cases h1
  exact ⟨x',by rw [upd_ne _ _ e];exact h1,by rw [iW _ _ e];exact h2⟩⟩
end
end Go.Lx
namespace Go.Lx
section
variable {P:Program} {V:View} {μ:Id→Pl} {w:World}
theorem S.OW (s:S) (t n:Nat) (b:Blk) (hone:b.one=true:=by rfl):(s.plus [((t,n),b)]).get=upd s.get ⟨s.dep,t,n⟩ b:=by
 funext j
 unfold upd;have hd:(s.plus [((t,n),b)]).dep=s.dep:=rfl;by_cases ej:j.d=s.dep
 ·have h1:(s.plus [((t,n),b)]).get j=bV (((t,n),b)::s.loc) j.t j.n:=by
   unfold S.get;rw [hd,if_pos ej];rfl
  have h2:s.get j=bV s.loc j.t j.n:=by unfold S.get;exact if_pos ej
  rw [h1,h2];rw [lq hone];by_cases e2:j=⟨s.dep,t,n⟩
  ·subst e2;simp
  ·rw [if_neg e2];by_cases e3:j.t=t
   ·by_cases e4:j.n=n
    ·exact absurd (by cases j;simp_all) e2
    ·rw [if_pos e3,if_neg e4]
   ·rw [if_neg e3]
 ·have e2:j≠⟨s.dep,t,n⟩:=fun h=>ej (by rw [h])
  rw [if_neg e2];unfold S.get;rw [hd,if_neg ej,if_neg ej];rfl
def lV (t:Nat):Nat→List EC→Loc
 | _,[]=>[]
 | n,g::r=>((t,n), .arr g.2.1 false g.2.2)::lV t (n+1) r
theorem Ak (t:Nat):∀ (n:Nat) (a b:List EC),lV t n (a++b)=lV t n a++lV t (n+a.length) b
 | n,[],b=>by simp [lV]
 | n,g::a,b=>by
  simp only [List.cons_append,lV,Ak t (n+1) a b,lm];rw [show n+1+a.length=n+(a.length+1) from by omega]
theorem wO (t:Nat):∀ (n:Nat) (a:List EC),(lV t n a).length=a.length
 | n,[]=>rfl
 | n,g::a=>by simp [lV,wO t (n+1) a]
def Same (h:Id→Option Blk) (μ:Id→Pl) (h':Id→Option Blk) (μ':Id→Pl):Prop:=∀ i b,h i=some b→h' i=some b∧μ' i=μ i
theorem Same.zI {h h':Id→Option Blk} {μ':Id→Pl} {a:A} {v:Value} (K:Same h μ h' μ') (H:iI P V h μ a v):iI P V h' μ' a v :=
 H.mono (.refl V) (fun i _ b hb=>⟨b,(K i b hb).1,by rw [(K i b hb).2];exact .refl _ _⟩)
theorem JF {s:S} (t:Nat) {m:Nat} (I:Inv P V s.get μ w):∀ (gs:List EC) (n:Nat),Loose P V s.get μ w m gs→nU s.loc t≤n →
  ∃ μ',Inv P V (s.plus (lV t n gs)).get μ' w∧Same s.get μ (s.plus (lV t n gs)).get μ' ∧
   (∀ k g,gs[k]?=some g→(s.plus (lV t n gs)).get ⟨s.dep,t,n+k⟩=some (.arr g.2.1 false g.2.2)∧μ' ⟨s.dep,t,n+k⟩=g.1) ∧
   (∀ k,k < n→(s.plus (lV t n gs)).get ⟨s.dep,t,k⟩=s.get ⟨s.dep,t,k⟩) ∧
   (∀ b,oq (s.plus (lV t n gs)).get μ' b→oq s.get μ b∨∃ g,g∈gs∧g.1.nil=false∧g.1.blk=b) ∧
   (∀ V0 h0 μ0 w0,Evo V0 h0 μ0 w0 V s.get μ w→w0.heap.size≤m→Evo V0 h0 μ0 w0 V (s.plus (lV t n gs)).get μ' w)
 | [],n,L,hn=>⟨μ,I,fun i b hb=>⟨hb,rfl⟩,fun k g hg=>by simp at hg,fun k _=>rfl,fun b hb => .inl hb,fun _ _ _ _ E _=>E⟩
 | g::gs,n,L,hn=>by
  have L':Loose P V s.get μ w m gs:=⟨fun x hx=>L.rel x (.tail _ hx),fun x hx=>L.free x (.tail _ hx),(List.pairwise_cons.1 L.apart).2⟩
  obtain ⟨μ1,I1,S1,G1,F1,O1,E1⟩:=JF t I gs (n+1) L' (by omega);have hfree:(s.plus (lV t (n+1) gs)).get ⟨s.dep,t,n⟩=none:=by
   rw [F1 n (by omega)];unfold S.get;rw [if_pos rfl];exact Hf _ _ _ hn
  have hb:I8 P V (s.plus (lV t (n+1) gs)).get μ1 w g.1 (.arr g.2.1 false g.2.2):=L.rel g (.head _);have hf:g.1.nil=false→¬ oq (s.plus (lV t (n+1) gs)).get μ1 g.1.blk:=by
   intro q ho;rcases O1 _ ho with z | ⟨g',h1,h2,h3⟩
   ·exact (L.free g (.head _) q).1 z
   ·exact (List.pairwise_cons.1 L.apart).1 g' h1 q h2 h3.symm
  have hg1:(s.plus (lV t n (g::gs))).get=upd (s.plus (lV t (n+1) gs)).get ⟨s.dep,t,n⟩ (.arr g.2.1 false g.2.2):=S.OW (s.plus (lV t (n+1) gs)) t n _;refine ⟨yG μ1 ⟨s.dep,t,n⟩ g.1,by rw [hg1];exact I1.SG hfree hb hf,?_,?_,?_,?_,?_⟩
  ·intro i b hi;obtain ⟨h1,h2⟩:=S1 i b hi;have e:i≠⟨s.dep,t,n⟩:=fun e=>by rw [e,hfree] at h1;cases h1
   rw [hg1,upd_ne _ _ e,iW _ _ e];exact ⟨h1,h2⟩
  ·intro k g' hk;rw [hg1];cases k with
   | zero =>
    simp at hk;subst hk;exact ⟨upd_same _ _ _,fP _ _ _⟩
   | succ k =>
    have e:(⟨s.dep,t,n+(k+1)⟩:Id)≠⟨s.dep,t,n⟩:=by
     intro q;have:=congrArg Id.n q;simp at this
    rw [upd_ne _ _ e,iW _ _ e];have:=G1 k g' (by simpa using hk);rw [show n+1+k=n+(k+1) from by omega] at this;exact this
  ·intro k hk;have e:(⟨s.dep,t,k⟩:Id)≠⟨s.dep,t,n⟩:=by
    intro q;have:=congrArg Id.n q;simp at this;omega
   rw [hg1,upd_ne _ _ e];exact F1 k (by omega)
  ·rintro b ⟨j,x,hx,n1,rfl⟩
   rw [hg1] at hx;by_cases e:j=⟨s.dep,t,n⟩
   ·subst e;rw [fP] at n1 ⊢;exact .inr ⟨g, .head _,n1,rfl⟩
   ·rw [upd_ne _ _ e] at hx;rw [iW _ _ e] at n1 ⊢;rcases O1 _ ⟨j,x,hx,n1,rfl⟩ with z | ⟨g',h1,h2,h3⟩
    ·exact .inl z
    ·exact .inr ⟨g', .tail _ h1,h2,h3⟩
  ·intro V0 h0 μ0 w0 E hm;rw [hg1];exact (E1 V0 h0 μ0 w0 E hm).SG hfree (fun q=>Nat.le_trans hm (L.free g (.head _) q).2.1)
mutual
theorem IA {h h':Id→Option Blk} {μ':Id→Pl} {dep t:Nat} (K:Same h μ h' μ'):∀ (a:A) {v:Value} {gs:List EC} {n:Nat},dZ P V h μ a v gs →
  (∀ k g,gs[k]?=some g→h' ⟨dep,t,n+k⟩=some (.arr g.2.1 false g.2.2)∧μ' ⟨dep,t,n+k⟩=g.1) →
  iI P V h' μ' (gY dep t n a).1 v∧(gY dep t n a).2=lV t n gs
 | .own sz xs,v,gs,n,R,G=>by
  simp only [dZ] at R;obtain ⟨p,rfl,hs⟩:=R;obtain ⟨g1,g2⟩:=G 0 _ rfl;obtain ⟨a,c,rfl,hsv⟩:=hs;refine ⟨?_,rfl⟩;simp only [gY];refine .ref _ 0 _ _ sz false xs a c g1 (bu _) (fun _=>?_);have g2':μ' ⟨dep,t,n⟩=p:=g2;rw [g2'];exact ⟨a,c,rfl,hsv⟩
 | .agg cs,v,gs,n,R,G=>by
  simp only [dZ] at R;obtain ⟨vs,rfl,hp,hr⟩:=R;obtain ⟨h1,h2,h3⟩:=Fg K cs hr G;refine ⟨?_,h3⟩;simp only [gY];exact .agg _ vs (by rw [h1];simpa using (qU cs hr)) (fun i d v hd hv=>h2 i d v hd (by simpa using hv)) hp
 | .tup cs,v,gs,n,R,G=>by
  simp only [dZ] at R;obtain ⟨vs,rfl,hr⟩:=R;obtain ⟨h1,h2,h3⟩:=Fg K cs hr G;refine ⟨?_,h3⟩;simp only [gY];exact .tup _ vs (by rw [h1];simpa using (qU cs hr)) (fun i d v hd hv=>h2 i d v hd (by simpa using hv))
 | .undef,v,gs,n,R,G=>by simp only [dZ] at R;obtain ⟨rfl,hr⟩:=R;exact ⟨K.zI hr,rfl⟩
 | .unk,v,gs,n,R,G=>by simp only [dZ] at R;obtain ⟨rfl,hr⟩:=R;exact ⟨K.zI hr,rfl⟩
 | .d x,v,gs,n,R,G=>by simp only [dZ] at R;obtain ⟨rfl,hr⟩:=R;exact ⟨K.zI hr,rfl⟩
 | .tight x,v,gs,n,R,G=>by simp only [dZ] at R;obtain ⟨rfl,hr⟩:=R;exact ⟨K.zI hr,rfl⟩
 | .ref _ _ _ _,v,gs,n,R,G=>by simp only [dZ] at R;obtain ⟨rfl,hr⟩:=R;exact ⟨K.zI hr,rfl⟩
 | .rcap _ _ _ _ _,v,gs,n,R,G=>by simp only [dZ] at R;obtain ⟨rfl,hr⟩:=R;exact ⟨K.zI hr,rfl⟩
 | .bptr _ _,v,gs,n,R,G=>by simp only [dZ] at R;obtain ⟨rfl,hr⟩:=R;exact ⟨K.zI hr,rfl⟩
 | .bref _ _,v,gs,n,R,G=>by simp only [dZ] at R;obtain ⟨rfl,hr⟩:=R;exact ⟨K.zI hr,rfl⟩
 | .nref _ _,v,gs,n,R,G=>by simp only [dZ] at R;obtain ⟨rfl,hr⟩:=R;exact ⟨K.zI hr,rfl⟩
 | .nptr _ _ _ _,v,gs,n,R,G=>by simp only [dZ] at R;obtain ⟨rfl,hr⟩:=R;exact ⟨K.zI hr,rfl⟩
 | .tref _ _ _,v,gs,n,R,G=>by simp only [dZ] at R;obtain ⟨rfl,hr⟩:=R;exact ⟨K.zI hr,rfl⟩
 | .tptr _ _ _,v,gs,n,R,G=>by simp only [dZ] at R;obtain ⟨rfl,hr⟩:=R;exact ⟨K.zI hr,rfl⟩
 | .eptr _ _ _ _,v,gs,n,R,G=>by simp only [dZ] at R;obtain ⟨rfl,hr⟩:=R;exact ⟨K.zI hr,rfl⟩
 | .pimm _ _,v,gs,n,R,G=>by simp only [dZ] at R;obtain ⟨rfl,hr⟩:=R;exact ⟨K.zI hr,rfl⟩
 | .mref _,v,gs,n,R,G=>by simp only [dZ] at R;obtain ⟨rfl,hr⟩:=R;exact ⟨K.zI hr,rfl⟩
 | .iter _,v,gs,n,R,G=>by simp only [dZ] at R;obtain ⟨rfl,hr⟩:=R;exact ⟨K.zI hr,rfl⟩
 | .clo _ _,v,gs,n,R,G=>by simp only [dZ] at R;obtain ⟨rfl,hr⟩:=R;exact ⟨K.zI hr,rfl⟩
theorem Fg {h h':Id→Option Blk} {μ':Id→Pl} {dep t:Nat} (K:Same h μ h' μ'):∀ (as:List A) {vs:List Value} {gs:List EC} {n:Nat},kQ P V h μ as vs gs →
  (∀ k g,gs[k]?=some g→h' ⟨dep,t,n+k⟩=some (.arr g.2.1 false g.2.2)∧μ' ⟨dep,t,n+k⟩=g.1) →
  (fH dep t n as).1.length=as.length∧(∀ (i:Nat) a v,(fH dep t n as).1[i]?=some a→vs[i]?=some v→iI P V h' μ' a v)∧(fH dep t n as).2=lV t n gs
 | [],vs,gs,n,R,G=>by
  simp only [kQ] at R;obtain ⟨rfl,rfl⟩:=R;exact ⟨rfl,fun i a v ha=>by simp [fH] at ha,rfl⟩
 | a::as,vs,gs,n,R,G=>by
  simp only [kQ] at R;obtain ⟨v,vr,g1,g2,rfl,rfl,r1,r2⟩:=R;obtain ⟨h1,h2⟩:=IA K a r1 (n:=n) (fun k g hk=>G k g (by rw [cZ (aC.1 hk).1];exact hk));have hl:(gY dep t n a).2.length=g1.length:=by rw [h2,wO]
  obtain ⟨k1,k2,k3⟩:=Fg K as r2 (n:=n+(gY dep t n a).2.length) (fun k g hk=>by
   have:=G (g1.length+k) g (by rw [dY (by omega)];simpa using hk);rw [hl,show n+g1.length+k=n+(g1.length+k) from by omega];exact this)
  refine ⟨by simp [fH,k1],?_,by simp only [fH];rw [k3,h2,Ak,wO]⟩;intro i x y hx hy;cases i with
  | zero=>simp [fH] at hx hy;subst hx hy;exact h1
  | succ i=>exact k2 i x y (by simpa [fH] using hx) (by simpa using hy)
theorem qU {h:Id→Option Blk}:∀ (as:List A) {vs:List Value} {gs:List EC},kQ P V h μ as vs gs→vs.length=as.length
 | [],vs,gs,R=>by simp only [kQ] at R;rw [R.1];rfl
 | a::as,vs,gs,R=>by
  simp only [kQ] at R;obtain ⟨v,vr,g1,g2,rfl,rfl,r1,r2⟩:=R;simp [qU as r2]
end
end
end Go.Lx
namespace Go.Lx
section
variable {P:Program} {V:View} {μ:Id→Pl} {w:World}
theorem Tf {h:Id→Option Blk} (I:Inv P V h μ w) {p:Pl} {sz:Nat} {xs:List D} (hb:I8 P V h μ w p (.arr sz false xs)) (hf:p.nil=false→¬ oq h μ p.blk) :
  ∃ V',V.Le V'∧Inv P V' h μ w∧(∀ b c v,V'.cell b c v→V.cell b c v∨(p.nil=false∧b=p.blk))∧V'.map=V.map∧∀ v,yV p sz 0 xs.length v→jB P V' (.sl xs) v:=by
 rcases hb with ⟨h1,h2,h3⟩ | ⟨h1,h2,h3,h4,cells,elem,h5,h6,_,ev,h7⟩
 ·subst h2;refine ⟨V, .refl V,I,fun _ _ _ x => .inl x,rfl,?_⟩
  rintro v ⟨a,c,rfl,q⟩
  exact .sl [] a c 0 0 0 (fun _=>Go.undef) (kE _) (.inl rfl) (fun i d hd=>by simp at hd) (fun i hi=>by simp at hi) (fun i hi=>by simp at hi)
 ·let V':View:=⟨fun b c v=>V.cell b c v∨(b=p.blk∧cells[c]?=some v),V.map⟩
  have hV:V.Le V':=⟨fun _ _ _ x => .inl x,fun _ _ _ x=>x⟩
  refine ⟨V',hV,I.frame (fun _ _=>rfl) hV ?_ (fun _ _ _ x _=>x) ?_ I.map,?_,rfl,?_⟩
  ·rintro b c v (q | ⟨rfl,q⟩) ho
   ·exact q
   ·exact absurd ho (hf h1)
  ·rintro b c v (q | ⟨rfl,q⟩)
   ·exact I.cell b c v q
   ·rw [cell_of_row w _ c cells elem (0,0) h5];exact q
  ·rintro b c v (q | ⟨rfl,q⟩)
   ·exact .inl q
   ·exact .inr ⟨h1,rfl⟩
  ·rintro v ⟨a,c,rfl,q⟩
   have:=uy (P:=P) (V:=V') (xs:=xs) (off:=0) (len:=xs.length) ⟨a,c,rfl,q⟩ (by omega) (fun _=>h2) (fun z=>by rw [h1] at z;cases z)
    (fun k d hd=>⟨ev k,(h7 k d hd).1.mono hV,(h7 k d hd).2.1,fun j v hj => .inr ⟨rfl,(h7 k d hd).2.2 j v hj⟩⟩)
   simpa using this
theorem GX {h:Id→Option Blk} {m:Nat}:∀ (gs:List EC) {V:View} (_:Inv P V h μ w),Loose P V h μ w m gs →
  ∃ V',V.Le V'∧Inv P V' h μ w∧(∀ b c v,V'.cell b c v→V.cell b c v∨∃ g,g∈gs∧g.1.nil=false∧b=g.1.blk)∧V'.map=V.map ∧
   ∀ g,g∈gs→∀ v,yV g.1 g.2.1 0 g.2.2.length v→jB P V' (.sl g.2.2) v
 | [],V,I,L=>⟨V, .refl V,I,fun _ _ _ x => .inl x,rfl,fun g hg=>by cases hg⟩
 | g::gs,V,I,L=>by
  obtain ⟨V1,h1,I1,c1,m1,d1⟩:=Tf I (L.rel g (.head _)) (fun q=>(L.free g (.head _) q).1);have L1:Loose P V1 h μ w m gs:=by
   refine ⟨?_,fun x hx=>L.free x (.tail _ hx),(List.pairwise_cons.1 L.apart).2⟩;intro x hx;have B:=L.rel x (.tail _ hx);rcases B with B | ⟨b1,b2,b3,b4,cells,elem,b5,b6,hpl,ev,b7⟩
   ·exact .inl B
   ·have hne:∀ c v,V1.cell x.1.blk c v→V.cell x.1.blk c v:=by
     intro c v hv;rcases c1 _ _ _ hv with q | ⟨q1,q2⟩
     ·exact q
     ·exact absurd q2.symm ((List.pairwise_cons.1 L.apart).1 x hx q1 b1)
    exact .inr ⟨b1,b2,fun e c v hv=>b3 e c v (hne c v hv),fun c v hv=>b4 c v (hne c v hv),cells,elem,b5,b6,hpl,ev,fun i d hd=>⟨(b7 i d hd).1.mono h1,(b7 i d hd).2⟩⟩
  obtain ⟨V2,h2,I2,c2,m2,d2⟩:=GX gs I1 L1;refine ⟨V2,h1.trans h2,I2,?_,m2.trans m1,?_⟩
  ·intro b c v hv;rcases c2 b c v hv with q | ⟨g',q1,q2,q3⟩
   ·rcases c1 b c v q with z | ⟨z1,z2⟩
    ·exact .inl z
    ·exact .inr ⟨g, .head _,z1,z2⟩
   ·exact .inr ⟨g', .tail _ q1,q2,q3⟩
  ·intro g' hg' v hv;cases hg' with
   | head=>exact (d1 v hv).mono h2
   | tail _ hg'=>exact d2 g' hg' v hv
mutual
theorem OT {h:Id→Option Blk} {V':View} (hV:V.Le V'):∀ (a:A) {v:Value} {gs:List EC},dZ P V h μ a v gs →
  (∀ g,g∈gs→∀ v,yV g.1 g.2.1 0 g.2.2.length v→jB P V' (.sl g.2.2) v)→iI P V' h μ a.frz v
 | .own sz xs,v,gs,R,G=>by
  simp only [dZ] at R;obtain ⟨p,rfl,hs⟩:=R;exact .d _ _ (G _ (.head _) v hs)
 | .agg cs,v,gs,R,G=>by
  simp only [dZ] at R;obtain ⟨vs,rfl,hp,hr⟩:=R;obtain ⟨h1,h2⟩:=Iy hV cs hr G;simp only [A.frz];exact zx (.agg _ vs (by rw [h1];simpa using (qU cs hr)) (fun i d v hd hv=>h2 i d v hd (by simpa using hv)) hp)
 | .tup cs,v,gs,R,G=>by
  simp only [dZ] at R;obtain ⟨vs,rfl,hr⟩:=R;obtain ⟨h1,h2⟩:=Iy hV cs hr G;simp only [A.frz];exact .tup _ vs (by rw [h1];simpa using (qU cs hr)) (fun i d v hd hv=>h2 i d v hd (by simpa using hv))
 | .undef,v,gs,R,G=>by simp only [dZ] at R;exact R.2.mono hV (fun i _ b hb=>⟨b,hb, .refl _ _⟩)
 | .unk,v,gs,R,G=>by simp only [dZ] at R;exact R.2.mono hV (fun i _ b hb=>⟨b,hb, .refl _ _⟩)
 | .d x,v,gs,R,G=>by simp only [dZ] at R;exact R.2.mono hV (fun i _ b hb=>⟨b,hb, .refl _ _⟩)
 | .tight x,v,gs,R,G=>by simp only [dZ] at R;exact R.2.mono hV (fun i _ b hb=>⟨b,hb, .refl _ _⟩)
 | .ref _ _ _ _,v,gs,R,G=>by simp only [dZ] at R;exact R.2.mono hV (fun i _ b hb=>⟨b,hb, .refl _ _⟩)
 | .rcap _ _ _ _ _,v,gs,R,G=>by simp only [dZ] at R;exact R.2.mono hV (fun i _ b hb=>⟨b,hb, .refl _ _⟩)
 | .bptr _ _,v,gs,R,G=>by simp only [dZ] at R;exact R.2.mono hV (fun i _ b hb=>⟨b,hb, .refl _ _⟩)
 | .bref _ _,v,gs,R,G=>by simp only [dZ] at R;exact R.2.mono hV (fun i _ b hb=>⟨b,hb, .refl _ _⟩)
 | .nref _ _,v,gs,R,G=>by simp only [dZ] at R;exact R.2.mono hV (fun i _ b hb=>⟨b,hb, .refl _ _⟩)
 | .nptr _ _ _ _,v,gs,R,G=>by simp only [dZ] at R;exact R.2.mono hV (fun i _ b hb=>⟨b,hb, .refl _ _⟩)
 | .tref _ _ _,v,gs,R,G=>by simp only [dZ] at R;exact R.2.mono hV (fun i _ b hb=>⟨b,hb, .refl _ _⟩)
 | .tptr _ _ _,v,gs,R,G=>by simp only [dZ] at R;exact R.2.mono hV (fun i _ b hb=>⟨b,hb, .refl _ _⟩)
 | .eptr _ _ _ _,v,gs,R,G=>by simp only [dZ] at R;exact R.2.mono hV (fun i _ b hb=>⟨b,hb, .refl _ _⟩)
 | .pimm _ _,v,gs,R,G=>by simp only [dZ] at R;exact R.2.mono hV (fun i _ b hb=>⟨b,hb, .refl _ _⟩)
 | .mref _,v,gs,R,G=>by simp only [dZ] at R;exact R.2.mono hV (fun i _ b hb=>⟨b,hb, .refl _ _⟩)
 | .iter _,v,gs,R,G=>by simp only [dZ] at R;exact R.2.mono hV (fun i _ b hb=>⟨b,hb, .refl _ _⟩)
 | .clo _ _,v,gs,R,G=>by simp only [dZ] at R;exact R.2.mono hV (fun i _ b hb=>⟨b,hb, .refl _ _⟩)
theorem Iy {h:Id→Option Blk} {V':View} (hV:V.Le V'):∀ (as:List A) {vs:List Value} {gs:List EC},kQ P V h μ as vs gs →
  (∀ g,g∈gs→∀ v,yV g.1 g.2.1 0 g.2.2.length v→jB P V' (.sl g.2.2) v) →
  (A.QJ as).length=as.length∧(∀ (i:Nat) a v,(A.QJ as)[i]?=some a→vs[i]?=some v→iI P V' h μ a v)
 | [],vs,gs,R,G=>⟨rfl,fun i a v ha=>by simp [A.QJ] at ha⟩
 | a::as,vs,gs,R,G=>by
  simp only [kQ] at R;obtain ⟨v,vr,g1,g2,rfl,rfl,r1,r2⟩:=R;have h1:=OT hV a r1 (fun g hg=>G g (aU.2 (.inl hg)));obtain ⟨k1,k2⟩:=Iy hV as r2 (fun g hg=>G g (aU.2 (.inr hg)));refine ⟨by simp [A.QJ,k1],?_⟩;intro i x y hx hy;cases i with
  | zero=>simp [A.QJ] at hx hy;subst hx hy;exact h1
  | succ i=>exact k2 i x y (by simpa [A.QJ] using hx) (by simpa using hy)
end
mutual
theorem JQ {h:Id→Option Blk}:∀ (a:A) {v:Value} {gs:List EC},dZ P V h μ a v gs→a.xq=false→iI P V h μ a v
 | .own sz xs,v,gs,R,e=>by simp [A.xq] at e
 | .agg cs,v,gs,R,e=>by
  simp only [dZ] at R;obtain ⟨vs,rfl,hp,hr⟩:=R;exact .agg cs vs (by simpa using (qU cs hr)) (fun i d v hd hv=>Dv cs hr e i d v hd (by simpa using hv)) hp
 | .tup cs,v,gs,R,e=>by
  simp only [dZ] at R;obtain ⟨vs,rfl,hr⟩:=R;exact .tup cs vs (by simpa using (qU cs hr)) (fun i d v hd hv=>Dv cs hr e i d v hd (by simpa using hv))
 | .undef,v,gs,R,e=>by simp only [dZ] at R;exact R.2
 | .unk,v,gs,R,e=>by simp only [dZ] at R;exact R.2
 | .d x,v,gs,R,e=>by simp only [dZ] at R;exact R.2
 | .tight x,v,gs,R,e=>by simp only [dZ] at R;exact R.2
 | .ref _ _ _ _,v,gs,R,e=>by simp only [dZ] at R;exact R.2
 | .rcap _ _ _ _ _,v,gs,R,e=>by simp only [dZ] at R;exact R.2
 | .bptr _ _,v,gs,R,e=>by simp only [dZ] at R;exact R.2
 | .bref _ _,v,gs,R,e=>by simp only [dZ] at R;exact R.2
 | .nref _ _,v,gs,R,e=>by simp only [dZ] at R;exact R.2
 | .nptr _ _ _ _,v,gs,R,e=>by simp only [dZ] at R;exact R.2
 | .tref _ _ _,v,gs,R,e=>by simp only [dZ] at R;exact R.2
 | .tptr _ _ _,v,gs,R,e=>by simp only [dZ] at R;exact R.2
 | .eptr _ _ _ _,v,gs,R,e=>by simp only [dZ] at R;exact R.2
 | .pimm _ _,v,gs,R,e=>by simp only [dZ] at R;exact R.2
 | .mref _,v,gs,R,e=>by simp only [dZ] at R;exact R.2
 | .iter _,v,gs,R,e=>by simp only [dZ] at R;exact R.2
 | .clo _ _,v,gs,R,e=>by simp only [dZ] at R;exact R.2
theorem Dv {h:Id→Option Blk}:∀ (as:List A) {vs:List Value} {gs:List EC},kQ P V h μ as vs gs→A.Ff as=false →
  ∀ (i:Nat) a v,as[i]?=some a→vs[i]?=some v→iI P V h μ a v
 | [],vs,gs,R,e=>fun i a v ha=>by simp at ha
 | a::as,vs,gs,R,e=>by
  simp only [kQ] at R;obtain ⟨v,vr,g1,g2,rfl,rfl,r1,r2⟩:=R;simp only [A.Ff,Bool.or_eq_false_iff] at e;intro i x y hx hy;cases i with
  | zero=>simp at hx hy;subst hx hy;exact JQ a r1 e.1
  | succ i=>exact Dv as r2 e.2 i x y (by simpa using hx) (by simpa using hy)
end
def H8 (P:Program) (V:View) (μ:Id→Pl) (w:World) (out:Out) (r:Ret) (cv:Value) (w':World):Prop :=
 ∃ V' μ' gs,dZ P V' (⟨[],out,r.chg⟩:S).get μ' r.val cv gs∧Inv P V' (⟨[],out,r.chg⟩:S).get μ' w'∧Loose P V' (⟨[],out,r.chg⟩:S).get μ' w' w.heap.size gs ∧
  Evo V (uz out).get μ w V' (⟨[],out,r.chg⟩:S).get μ' w'
def Gz (c:Cfg) (call:FuncId→List A→Out→Option Ret):Prop :=
 ∀ g args out r,call g args out=some r→∀ V μ w (cargs:List Value),Inv c.P V (uz out).get μ w→iy c.P V (uz out).get μ args cargs →
  Calls c.P g cargs.toArray w (fun e w'=>match e with | .returned cv=>H8 c.P V μ w out r cv w' | _=>False)
def Left (P:Program) (V:View) (s:S) (μ:Id→Pl) (w:World) (s':S) (x:A) (cv:Value) (w':World):Prop :=
 ∃ V' μ',iI P V' s'.get μ' x cv∧Inv P V' s'.get μ' w'∧Evo V s.get μ w V' s'.get μ' w'∧s'.out=s.out
theorem Bl (s:S) (o:Option S):(Delta.of o).apply s=S.ok o s:=by cases o<;>rfl
theorem QC {c:Cfg} {f:FuncId} {call:FuncId→List A→Out→Option Ret} (HC:Gz c call) {s:S} (I:Inv c.P V s.get μ w) {dst:Option Nat} {g:FuncId} {caps args:List A} {ccaps cargs:List Value}
  {x:A} {dl:Delta} (e:wI c f call s dst g caps args=some (x,dl)) (Ra:iy c.P V s.get μ args cargs) (Rc:iy c.P V s.get μ caps ccaps) :
  Calls c.P g (cargs++ccaps).toArray w (fun en w'=>match en with | .returned cv=>Left c.P V s μ w (dl.apply s) x cv w' | _=>False):=by
 unfold wI at e;cases ha:uM c g 0 s args with
 | none=>rw [ha] at e;cases e
 | some r0 =>
  obtain ⟨args',o⟩:=r0;rw [ha] at e;simp only at e;obtain ⟨V1,L,R1⟩:=Oo args I ha Ra;cases hr:call g (args'++caps) ((S.ok o s).loc::(S.ok o s).cur) with
  | none=>rw [hr] at e;cases e
  | some r =>
   rw [hr] at e;have hcall:=HC g _ _ r hr V1 μ w (cargs++ccaps) (by rw [AZ];exact L.inv) (by rw [AZ];exact R1.append (Rc.mono L.evo));refine Calls.mono hcall ?_;intro en w' hen;cases en with
   | panicked ch=>exact hen
   | outgrown=>exact hen
   | returned cv =>
    simp only at hen ⊢;obtain ⟨V',μ',gs,h1,h2,h3,h4⟩:=hen;obtain ⟨hb,hbd⟩:=QL (S.ok o s) r.chg;rw [hb] at h1 h2 h3 h4;rw [AZ] at h4;have hE:=L.evo.trans h4;simp only at e;generalize ho2:Ij (S.ok o s) o r.chg=o2 at e;have hs2:S.ok o2 s=Gl (S.ok o s) r.chg:=by
     rw [← ho2];unfold Gl Ij;cases r.chg<;>rfl
    have hdep:(S.ok o2 s).out=s.out:=by rw [hs2,hbd];exact L.dep
    rw [← hs2] at h1 h2 h3 hE;split at e
    ·rename_i hno
     cases e;exact ⟨V',μ',by rw [Bl];exact JQ _ h1 hno,by rw [Bl];exact h2,by rw [Bl];exact hE,by rw [Bl];exact hdep⟩
    ·cases e
    ·rename_i t hno
     split at e
     ·cases e;rw [Bl];obtain ⟨V2,k1,k2,k3,k4,k5⟩:=GX gs h2 h3;refine ⟨V2,μ',OT k1 _ h1 k5,k2,⟨hE.os,hE.tape,hE.output,hE.size,hE.rest,hE.view.trans k1,?_,by rw [k4];exact hE.newm,hE.place,hE.keep⟩,hdep⟩;intro b cc v hv;rcases k3 b cc v hv with q | ⟨g',q1,q2,q3⟩
      ·exact hE.newc b cc v q
      ·subst q3;exact .inr (.inr (h3.free g' q1 q2).2.1)
     ·have key:dl.apply s=(S.ok o2 s).plus (gY s.dep t (nU (S.ok o2 s).loc t) r.val).2∧x=(gY s.dep t (nU (S.ok o2 s).loc t) r.val).1:=by
       cases ho:o2<;>(rw [ho] at e;cases e;exact ⟨rfl,rfl⟩)
      obtain ⟨e1,e2⟩:=key;obtain ⟨μ2,I2,S2,G2,_,_,E2⟩:=JF t h2 gs (nU (S.ok o2 s).loc t) h3 (bu _);have hdep':(S.ok o2 s).dep=s.dep:=congrArg List.length hdep;rw [hdep'] at G2;have hloc:(gY s.dep t (nU (S.ok o2 s).loc t) r.val).2=lV t (nU (S.ok o2 s).loc t) gs :=
       (IA S2 r.val h1 (dep:=s.dep) (t:=t) (n:=nU (S.ok o2 s).loc t) G2).2
      have hrel:=(IA S2 r.val h1 (dep:=s.dep) (t:=t) (n:=nU (S.ok o2 s).loc t) G2).1;rw [e1,e2,hloc];exact ⟨V',μ2,hrel,I2,E2 _ _ _ _ hE (bu _),hdep⟩
end
end Go.Lx
namespace Go.Lx
def Bi (P:Program) (g:FuncId):Prop:=∃ fn,P.funcs[g]?=some fn∧fn.name ≠ "runtime.NumGoroutine" ∧ fn.body≠none
def Oj (c:Cfg) (call:FuncId→List A→Out→Option Ret):Prop:=∀ g args out r,call g args out=some r→Bi c.P g
section
variable {c:Cfg} {V:View} {μ:Id→Pl} {w:World}
theorem Qk {o:Oper} {a:Act} {K:Act→World→Prop} {Q:Exit→Act→World→Prop} {m:Sem Value} (hx:execOp a.eval o=(do pure (.value (← m)))) {cv:Value} {w':World} (hr:m.run c.P w = .ok cv w')
  (h:K (a.put o.dst cv) w'):o.wp c.P a w K Q:=by
 unfold Oper.wp;rw [hx];simp [hr,Oper.upon];exact h
theorem Vh {o:Oper} {a:Act} {K:Act→World→Prop} {Q:Exit→Act→World→Prop} {m:Sem Unit} (hx:execOp a.eval o=(do m;pure .skip)) {w':World} (hr:m.run c.P w = .ok () w')
  (h:K (a.put o.dst undef) w'):o.wp c.P a w K Q:=by
 unfold Oper.wp;rw [hx];simp [hr,Oper.upon];exact h
theorem Qj {o:Oper} {a:Act} {K:Act→World→Prop} {Q:Exit→Act→World→Prop} {cv:Value} (hx:(execOp a.eval o).run c.P w = .ok (.value cv) w) (h:K (a.put o.dst cv) w):o.wp c.P a w K Q:=by
 unfold Oper.wp;rw [hx];exact h
theorem V6 {o:Oper} {a:Act} {K:Act→World→Prop} {Q:Exit→Act→World→Prop} {g:FuncId} {args:Array Value} (hx:(execOp a.eval o).run c.P w = .ok (.enter g args) w)
  {R:Value→World→Prop} (hc:Calls c.P g args w (fun e w'=>match e with | .returned cv=>R cv w' | _=>False)) (h:∀ cv w',R cv w'→K (a.put o.dst cv) w'):o.wp c.P a w K Q:=by
 unfold Oper.wp;rw [hx];exact Calls.mono hc (fun e w' he=>by cases e with | returned v=>exact h v w' he | panicked ch=>exact he.elim | outgrown=>exact he.elim)
theorem J5 {g:FuncId} (h:Bi c.P g) (args:Array Value):(callFunc g args).run c.P w = .ok (.enter g args) w:=by
 obtain ⟨fn,h1,h2,h3⟩:=h;simp [callFunc,h1,h2,h3]
theorem tN {h:Id→Option Blk} {env:Nat→Option A} {ρ:Operand→Value} (hρ:∀ x v,ay env x=some v→iI c.P V h μ v (ρ x)) :
  ∀ {xs:List Operand} {vs:List A},dR env xs=some vs→iy c.P V h μ vs (xs.map ρ)
 | [],vs,e=>by simp only [dR] at e;cases e;exact .nil
 | x::xs,vs,e=>by
  simp only [dR] at e;split at e
  ·rename_i v vs' h1 h2
   cases e;exact .cons v _ _ _ (hρ x v h1) (tN hρ h2)
  ·cases e
theorem AY {h:Id→Option Blk} {env:Nat→Option A} {ρ:Operand→Value} (hρ:∀ x v,ay env x=some v→iI c.P V h μ v (ρ x)) :
  ∀ {xs:List (Nat×Operand)} {vs:List (Nat×A)},oH env xs=some vs→rE c.P V h μ vs (xs.map (fun p=>(p.1,ρ p.2)))
 | [],vs,e=>by simp only [oH] at e;cases e;exact .nil
 | (i,x)::xs,vs,e=>by
  simp only [oH] at e;split at e
  ·rename_i v vs' h1 h2
   cases e;exact .cons i v _ _ _ (hρ x v h1) (AY hρ h2)
  ·cases e
theorem Left.pure {s:S} (I:Inv c.P V s.get μ w) {x:A} {cv:Value} (H:iI c.P V s.get μ x cv):Left c.P V s μ w (Delta.same.apply s) x cv w:=⟨V,μ,H,I, .refl _ _ _ _,rfl⟩
theorem UG {h:Id→Option Blk} {y:A} {vs:List Value} (R:iy c.P V h μ [y] vs):∃ v,vs=[v]∧iI c.P V h μ y v:=by
 cases R with
 | cons _ v _ _ r1 R=>cases R;exact ⟨v,rfl,r1⟩
theorem VD {h:Id→Option Blk} {y z:A} {vs:List Value} (R:iy c.P V h μ [y,z] vs):∃ v u,vs=[v,u]∧iI c.P V h μ y v∧iI c.P V h μ z u:=by
 cases R with
 | cons _ v _ _ r1 R =>
  obtain ⟨u,rfl,r2⟩:=UG R;exact ⟨v,u,rfl,r1,r2⟩
theorem Iq {s:S} (I:Inv c.P V s.get μ w) {dst:Option Nat} {b:Builtin} {ts:Array TypeId} {ty:TypeId} {consts:Array Bool} {args:List A} {cargs:List Value} {x:A} {dl:Delta}
  (e:jH c s dst b ts.toList args=some (x,dl)) (R:iy c.P V s.get μ args cargs) :
  ∃ m:Sem Value,builtin b ts ty consts cargs.toArray=(do pure (.value (← m)))∧Done c.P V s μ w (dl.apply s) x (m.run c.P w):=by
 have hts:ts=ts.toList.toArray:=by simp
 unfold jH at e;split at e
 ·rename_i t t2 y z hl
  rw [hts,hl];obtain ⟨v1,v2,rfl,r1,r2⟩:=VD R;split at e
  ·rename_i h2
   exact ⟨_,rfl,Je I e h2 r1 r2 ty⟩
  ·cases e
 ·rename_i t tr y hl
  rw [hts,hl];obtain ⟨v1,rfl,r1⟩:=UG R;cases hlen:Gn c s t y with
  | none=>rw [hlen] at e;cases e
  | some d =>
   rw [hlen] at e;cases e;obtain ⟨v,k1,k2⟩:=Pj (ts:=tr) (ty:=ty) I hlen r1;exact ⟨_,rfl, .pure I k1 (.d _ _ k2)⟩
 ·rename_i t t2 tr y z hl
  rw [hts,hl];obtain ⟨v1,v2,rfl,r1,r2⟩:=VD R;exact ⟨_,rfl,NE I e r1 r2 ty⟩
 ·rename_i t tr y hl
  rw [hts,hl];obtain ⟨v1,rfl,r1⟩:=UG R;exact ⟨_,rfl,KT I e r1 ty⟩
 ·rename_i y rest
  cases hm:sV true y rest with
  | none=>rw [hm] at e;cases e
  | some d =>
   rw [hm] at e;cases e;obtain ⟨v,k1,k2⟩:=Pn (w:=w) (ts:=ts) (ty:=ty) hm R;exact ⟨_,rfl, .pure I k1 (.d _ _ k2)⟩
 ·rename_i y rest
  cases hm:sV false y rest with
  | none=>rw [hm] at e;cases e
  | some d =>
   rw [hm] at e;cases e;obtain ⟨v,k1,k2⟩:=Pm (w:=w) (ts:=ts) (ty:=ty) hm R;exact ⟨_,rfl, .pure I k1 (.d _ _ k2)⟩
 ·rename_i t tr hl
  rw [hts,hl];obtain ⟨v1,rfl,r1⟩:=UG R;cases hel:um c.P t with
  | none=>rw [hel] at e;cases e
  | some el =>
   rw [hel] at e;cases e;have hu:=pY hel;have r2:=r1.dOf;cases r2;exact ⟨_,rfl, .pure (cv := .int .i64 0) I (by simp [Builtin.cap_,cO hu,goInt]) (.d _ _ (.int _ _))⟩
 ·rename_i t tr i off len full k hl
  rw [hts,hl];obtain ⟨v1,rfl,r1⟩:=UG R;cases hel:um c.P t with
  | none=>rw [hel] at e;cases e
  | some el =>
   rw [hel] at e;cases e;have hu:=pY hel;cases r1;exact ⟨_,rfl, .pure (cv := .int .i64 k) I (by simp [Builtin.cap_,cO hu,goInt]) (.d _ _ (.int _ _))⟩
 ·cases e
end
end Go.Lx
namespace Go.Lx
section
variable {c:Cfg} {V:View} {μ:Id→Pl} {w:World}
theorem zk {o:Oper} {a:Act} {K:Act→World→Prop} {Q:Exit→Act→World→Prop} {s s':S} {x:A} {m:Sem Value} (hx:execOp a.eval o=(do pure (.value (← m)))) (D:Done c.P V s μ w s' x (m.run c.P w))
  (hK:∀ cv w',Left c.P V s μ w s' x cv w'→K (a.put o.dst cv) w'):o.wp c.P a w K Q:=by
 obtain ⟨cv,w',V',μ',h1,h2,h3,h4,h5⟩:=D;exact Qk hx h1 (hK cv w' ⟨V',μ',h2,h3,h4,h5⟩)
theorem yA {o:Oper} {a:Act} {K:Act→World→Prop} {Q:Exit→Act→World→Prop} {s:S} (I:Inv c.P V s.get μ w) {x:A} {m:Sem Value} (hx:execOp a.eval o=(do pure (.value (← m))))
  (h:∃ v,m.run c.P w = .ok v w∧iI c.P V s.get μ x v) (hK:∀ cv w',Left c.P V s μ w (Delta.same.apply s) x cv w'→K (a.put o.dst cv) w'):o.wp c.P a w K Q:=by
 obtain ⟨v,h1,h2⟩:=h;exact Qk hx h1 (hK v w (Left.pure I h2))
theorem LU {h:Id→Option Blk} {env:Nat→Option A} {ρ:Operand→Value} (hρ:∀ x v,ay env x=some v→iI c.P V h μ v (ρ x)) {lo:Option Operand} {l:Option A}
  (e:(match lo with | none=>some none | some a=>(ay env a).map some)=some l):ug c.P V h μ l (lo.map ρ):=by
 cases lo with
 | none=>cases e;exact True.intro
 | some x =>
  simp only at e;cases hx:ay env x with
  | none=>rw [hx] at e;cases e
  | some v=>rw [hx] at e;cases e;exact hρ x v hx
theorem U2 {o:Oper} {a:Act} {K:Act→World→Prop} {Q:Exit→Act→World→Prop} {s:S} (I:Inv c.P V s.get μ w) {x:D} {m:Sem Value} (hx:execOp a.eval o=(do pure (.value (← m))))
  (h:∃ v,m.run c.P w = .ok v w∧jB c.P V x v) (hK:∀ cv w',Left c.P V s μ w (Delta.same.apply s) (.d x) cv w'→K (a.put o.dst cv) w'):o.wp c.P a w K Q:=by
 obtain ⟨v,h1,h2⟩:=h;exact yA I hx ⟨v,h1, .d _ _ h2⟩ hK
theorem Oy {f:FuncId} {call:FuncId→List A→Out→Option Ret} (HC:Gz c call) (HE:Oj c call) {s:S} (I:Inv c.P V s.get μ w) {g:FuncId} {caps args:List A} {ccaps cargs:List Value} {o:Oper} {a:Act}
  {x:A} {dl:Delta} (e:wI c f call s o.dst g caps args=some (x,dl)) (Ra:iy c.P V s.get μ args cargs) (Rc:iy c.P V s.get μ caps ccaps)
  (hx:execOp a.eval o=callFunc g (cargs++ccaps).toArray) {K:Act→World→Prop} {Q:Exit→Act→World→Prop} (hK:∀ cv w',Left c.P V s μ w (dl.apply s) x cv w'→K (a.put o.dst cv) w'):o.wp c.P a w K Q:=by
 have hen:Bi c.P g:=by
  unfold wI at e;split at e
  ·cases e
  ·simp only at e;split at e
   ·cases e
   ·rename_i r hr
    exact HE _ _ _ _ hr
 exact V6 (by rw [hx];exact J5 hen _) (QC HC I e Ra Rc) hK
theorem Q7 {f:FuncId} {call:FuncId→List A→Out→Option Ret} (HC:Gz c call) (HE:Oj c call) {env:Nat→Option A} {s:S} (I:Inv c.P V s.get μ w) {o:Oper} {a:Act}
  (hρ:∀ x v,ay env x=some v→iI c.P V s.get μ v (a.eval x)) {x:A} {dl:Delta} (e:nT c f call env s o=some (x,dl)) {K:Act→World→Prop} {Q:Exit→Act→World→Prop}
  (hK:∀ cv w',Left c.P V s μ w (dl.apply s) x cv w'→K (a.put o.dst cv) w'):o.wp c.P a w K Q:=by
 unfold nT at e;cases hop:o.op with
 | move y =>
  rw [hop] at e;simp only at e;cases hy:ay env y with
  | none=>rw [hy] at e;cases e
  | some v =>
   rw [hy] at e;cases e;exact Qj (cv:=a.eval y) (by simp [execOp,hop]) (hK _ _ (Left.pure I (hρ y _ hy)))
 | assign y =>
  rw [hop] at e;simp only at e;split at e
  ·rename_i v0 t hdst hy
   split at e
   ·cases e;exact Qj (cv:=a.eval (.const v0)) (by simp [execOp,hop]) (hK _ _ (Left.pure I (hρ _ _ hy)))
   ·split at e
    ·rename_i sz hsz
     cases e;have hrel:=hρ _ _ hy;have hv:a.eval (.const v0) = .slice none 0 0:=by
      have:=hrel.dOf;generalize a.eval (.const v0)=q at this;cases this;rfl
     obtain ⟨cv,w',V',μ',h1,h2,h3,h4,h5⟩:=Ar I t sz;cases h1;have hx:(execOp a.eval o).run c.P w = .ok (.value (.slice none 0 0)) w:=by simp [execOp,hop,hv]
     exact Qj hx (hK _ _ ⟨V',μ',h2,h3,h4,h5⟩)
    ·cases e;exact Qj (cv:=a.eval (.const v0)) (by simp [execOp,hop]) (hK _ _ (Left.pure I (hρ _ _ hy)))
  ·rename_i yy _ _ _ _ hh _
   cases e;exact Qj (cv:=a.eval yy) (by simp [execOp,hop]) (hK _ _ (Left.pure I (hρ _ _ hh)))
  ·cases e
 | pick k y z =>
  rw [hop] at e;simp only at e;split at e
  ·rename_i b hk
   cases hv:ay env (if b=true then y else z) with
   | none=>rw [hv] at e;cases e
   | some v =>
    rw [hv] at e;cases e;have hkr:=(hρ k _ hk).dOf;have hkv:a.eval k = .bool b:=by
     generalize a.eval k=q at hkr;cases hkr;rfl
    refine Qj (cv:=a.eval (if b=true then y else z)) ?_ (hK _ _ (Left.pure I (hρ _ _ hv)));cases b<;>simp [execOp,hop,hkv,asBool]
  ·cases e
 | alloc t =>
  rw [hop] at e;simp only at e;exact zk (by simp only [execOp,hop]) (KN I e) hK
 | box t y =>
  rw [hop] at e;simp only at e;split at e
  ·rename_i v d hy hd
   split at e
   ·rename_i hs
    cases e;exact zk (by simp only [execOp,hop]) (Ov I d t (hρ y v hy) hs) hK
   ·cases e
  ·cases e
 | build t parts =>
  rw [hop] at e;simp only at e;split at e
  ·rename_i ps hps
   cases hb:zn c.P t ps with
   | none=>rw [hb] at e;cases e
   | some v =>
    rw [hb] at e;cases e;exact yA I (m:=Instr.build t (parts.map fun p=>(p.1,a.eval p.2))) (by simp only [execOp,hop]) (KQ (by simpa using AY hρ hps) hb) hK
  ·cases e
 | buildSlice t len parts =>
  rw [hop] at e;simp only at e;split at e
  ·rename_i ps hps
   exact zk (m:=Instr.buildSlice t len (parts.map fun p=>(p.1,a.eval p.2))) (by simp only [execOp,hop]) (D8 I (by simpa using AY hρ hps) e) hK
  ·cases e
 | load t y =>
  rw [hop] at e;simp only at e;split at e
  ·rename_i p sz hp hsz
   cases hl:nZ s (qi c.P t) sz p with
   | none=>rw [hl] at e;cases e
   | some v =>
    rw [hl] at e;cases e;exact yA I (by simp only [execOp,hop]) (G7 I hsz hl (hρ y p hp)) hK
  ·cases e
 | store t y z =>
  rw [hop] at e;simp only at e;split at e
  ·rename_i p v sz hp hv hsz
   cases hl:wJ s sz p v with
   | none=>rw [hl] at e;cases e
   | some s' =>
    rw [hl] at e;cases e;obtain ⟨w',V',h1,h2,h3,h4⟩:=Me I hsz hl (hρ y p hp) (hρ z v hv);exact Vh (by simp only [execOp,hop]) h1 (hK _ _ ⟨V',μ, .undef,h2,h3,h4⟩)
  ·cases e
 | nilCheck y =>
  rw [hop] at e;simp only at e;have fin:∀ v,ay env y=some v→(execOp a.eval o).run c.P w = .ok (.value (a.eval y)) w→(x,dl)=(v,Delta.same)→o.wp c.P a w K Q:=by
   intro v hv hr hx;cases hx;exact Qj hr (hK _ _ (Left.pure I (hρ y _ hv)))
  split at e
  ·rename_i i off hy
   cases e;refine fin _ hy ?_ rfl;have:=hρ y _ hy;generalize hq:a.eval y=q at this;cases this;simp [execOp,hop,hq]
  ·rename_i i ix off len hy
   cases e;refine fin _ hy ?_ rfl;have:=hρ y _ hy;generalize hq:a.eval y=q at this;cases this;simp [execOp,hop,hq]
  ·rename_i i ix off len hy
   cases e;refine fin _ hy ?_ rfl;have:=hρ y _ hy;generalize hq:a.eval y=q at this;cases this;simp [execOp,hop,hq]
  ·rename_i d off hy
   cases e;refine fin _ hy ?_ rfl;have:=hρ y _ hy;generalize hq:a.eval y=q at this;cases this;simp [execOp,hop,hq]
  ·rename_i d hy
   cases e;refine fin _ hy ?_ rfl;have:=(hρ y _ hy).dOf;generalize hq:a.eval y=q at this;cases this;simp [execOp,hop,hq]
  ·rename_i g hy
   cases e;refine fin _ hy ?_ rfl;have:=(hρ y _ hy).dOf;generalize hq:a.eval y=q at this;cases this;simp [execOp,hop,hq]
  ·rename_i g caps hy
   cases e;refine fin _ hy ?_ rfl;have:=hρ y _ hy;generalize hq:a.eval y=q at this;cases this;simp [execOp,hop,hq]
  ·cases e
 | binOp op t y z t2 =>
  rw [hop] at e;simp only at e;split at e
  ·rename_i u v hu hv
   cases hb:La c.P op t (lW s u) (lW s v) with
   | none=>rw [hb] at e;cases e
   | some d =>
    rw [hb] at e;cases e;exact U2 I (by simp only [execOp,hop]) (Ou I hb (hρ y u hu) (hρ z v hv) y z) hK
  ·cases e
 | unOp op t y =>
  rw [hop] at e;simp only at e;split at e
  ·rename_i u hu
   cases hb:TM op u with
   | none=>rw [hb] at e;cases e
   | some d =>
    rw [hb] at e;cases e;exact U2 I (by simp only [execOp,hop]) (Rn hb (hρ y u hu)) hK
  ·cases e
 | convert src dst y =>
  rw [hop] at e;simp only at e;split at e
  ·rename_i u hu
   cases hb:Jp c.P src dst u with
   | none=>rw [hb] at e;cases e
   | some d =>
    rw [hb] at e;cases e;exact U2 I (by simp only [execOp,hop]) (NC hb (hρ y u hu)) hK
  ·cases e
 | makeFunc fn first captured =>
  rw [hop] at e;cases fn with
  | func g =>
   simp only at e;split at e
   ·rename_i hf
    have hfe:first=#[]:=fQ hf
    subst hfe;have e0:(#[]:Array Operand).map a.eval=#[]:=by simp
    split at e
    ·rename_i hc
     cases e;have R:=tN hρ hc;have hm:captured.map a.eval=#[]:=by
      apply Array.ext';rw [Array.toList_map];generalize captured.toList.map a.eval=l at R;cases R;rfl
     exact Qk (m:=Instr.makeFunc (.func g) #[] #[]) (by simp only [execOp,hop,hm,e0]) (by simp [Instr.makeFunc]) (hK _ _ (Left.pure I (.d _ _ (.fn g))))
    ·rename_i vs hne hc
     cases e;have R:=tN hρ hc;exact Qk (cv := .func (.func g) #[] (captured.map a.eval)) (m:=Instr.makeFunc (.func g) #[] (captured.map a.eval)) (by simp only [execOp,hop,e0]) (by simp [Instr.makeFunc])
      (hK _ _ (Left.pure I (.clo g _ _ (by have:=R.length;simpa using this) (fun i d v hd hv=>R.get i d v hd (by simpa using hv)))))
    ·cases e
   ·cases e
  | _=>cases e
 | makeMap t r =>
  rw [hop] at e;simp only at e;split at e
  ·rename_i kt el d hu hd
   cases e;exact zk (by simp only [execOp,hop];rfl) (IU I d t kt) hK
  ·cases e
 | makeSlice t l k =>
  rw [hop] at e;simp only at e;split at e
  ·rename_i n m hn hm
   exact zk (by simp only [execOp,hop]) (FC I e (hρ _ _ hn) (hρ _ _ hm)) hK
  ·cases e
 | slice t y lo hi mx =>
  rw [hop] at e;simp only at e;split at e
  ·rename_i v l h m hv hl hh hm
   exact zk (by simp only [execOp,hop]) (Md I e (hρ _ _ hv) (LU hρ hl) (LU hρ hh) (LU hρ hm)) hK
  ·cases e
 | fieldAddr t y i =>
  rw [hop] at e;simp only at e;split at e
  ·rename_i v hv
   cases hb:qf c t v i with
   | none=>rw [hb] at e;cases e
   | some d =>
    rw [hb] at e;cases e;exact yA I (by simp only [execOp,hop]) (EX (hρ _ _ hv) hb) hK
  ·cases e
 | field t y i =>
  rw [hop] at e;simp only at e;split at e
  ·rename_i v hv
   cases hb:Dc c t v i with
   | none=>rw [hb] at e;cases e
   | some d =>
    rw [hb] at e;cases e;exact yA I (by simp only [execOp,hop]) (Lp hb (hρ _ _ hv)) hK
  ·cases e
 | indexAddr t y ix =>
  rw [hop] at e;simp only at e;split at e
  ·rename_i v n hv hn
   cases hb:fJ c s t v n with
   | none=>rw [hb] at e;cases e
   | some d =>
    rw [hb] at e;cases e;exact yA I (by simp only [execOp,hop]) (Fq I hb (hρ _ _ hv) (hρ _ _ hn)) hK
  ·cases e
 | index t y ix =>
  rw [hop] at e;simp only at e;split at e
  ·rename_i v n hv hn
   cases hb:ES c t v n with
   | none=>rw [hb] at e;cases e
   | some d =>
    rw [hb] at e;cases e;exact yA I (by simp only [execOp,hop]) (LH hb (hρ _ _ hv) (hρ _ _ hn)) hK
  ·cases e
 | lookup t m k ok =>
  rw [hop] at e;simp only at e;split at e
  ·rename_i v n hv hn
   cases hb:BH c s t v n ok with
   | none=>rw [hb] at e;cases e
   | some d =>
    rw [hb] at e;cases e;exact yA I (by simp only [execOp,hop]) (JH I hb (hρ _ _ hv) (hρ _ _ hn)) hK
  ·cases e
 | mapUpdate t m k y =>
  rw [hop] at e;simp only at e;split at e
  ·rename_i v n u hv hn hu
   cases hb:qg c s t v n u with
   | none=>rw [hb] at e;cases e
   | some d =>
    rw [hb] at e;cases e;obtain ⟨w',V',h1,h2,h3,h4⟩:=zu I hb (hρ _ _ hv) (hρ _ _ hn) (hρ _ _ hu);exact Vh (by simp only [execOp,hop]) h1 (hK _ _ ⟨V',μ, .undef,h2,h3,h4⟩)
  ·cases e
 | insert t m k y =>
  rw [hop] at e;simp only at e;split at e
  ·rename_i v n u hv hn hu
   cases hb:qg c s t v n u with
   | none=>rw [hb] at e;cases e
   | some d =>
    rw [hb] at e;cases e;obtain ⟨w',V',h1,h2,h3,h4⟩:=zu I hb (hρ _ _ hv) (hρ _ _ hn) (hρ _ _ hu);exact Vh (by simp only [execOp,hop]) h1 (hK _ _ ⟨V',μ, .undef,h2,h3,h4⟩)
  ·cases e
 | extract y i =>
  rw [hop] at e;simp only at e;split at e
  ·rename_i vs hv
   cases hb:vs[i]? with
   | none=>rw [hb] at e;cases e
   | some d =>
    rw [hb] at e;cases e;refine yA I (m:=Instr.extract (a.eval y) i) (by simp only [execOp,hop]) ?_ hK;have:=hρ y _ hv;generalize hq:a.eval y=q at this;cases this with
    | tup _ us hn hc =>
     have hl:i < us.size:=by rw [hn];exact (aC.1 hb).1
     exact ⟨us[i],by simp [Instr.extract,hl],hc i _ _ hb (bI hl)⟩
  ·cases e
 | call k =>
  rw [hop] at e;simp only [BG] at e;split at e
  ·cases e
  ·rename_i args hargs
   have R:=tN hρ hargs;have hmap:k.args.map a.eval=(k.args.toList.map a.eval).toArray:=by
    apply Array.ext';simp
   split at e
   ·rename_i b hb
    obtain ⟨m,h1,h2⟩:=Iq (ty:=o.type) (consts:=(k.args.map fun | .const _=>true | _=>false)) I e R;refine zk (m:=m) ?_ h2 hK;simp only [execOp,hop,resolve,hb];simp only [pure_bind,invoke];rw [hmap];exact h1
   ·rename_i y hcal
    split at e
    ·rename_i g hy
     have hg:=(hρ y _ hy).dOf;have hgv:a.eval y = .func (.func g) #[] #[]:=by
      generalize a.eval y=q at hg;cases hg;rfl
     refine Oy HC HE I e R .nil ?_ hK;simp [execOp,hop,resolve,hcal,hgv,Deferred.ofValue,invoke,hmap]
    ·rename_i g caps hy
     have hg:=hρ y _ hy;generalize hq:a.eval y=q at hg;cases hg with
     | clo _ _ us hn hc =>
      refine Oy HC HE I e R (ccaps:=us.toList) (.of (by simpa using hn) (fun i d v hd hv=>hc i d v hd (by simpa using hv))) ?_ hK;have happ:((k.args.toList.map a.eval).toArray++us:Array Value)=(k.args.toList.map a.eval++us.toList).toArray:=by apply Array.ext';simp
      simp [execOp,hop,resolve,hcal,hq,Deferred.ofValue,invoke,hmap,happ]
    ·cases e
   ·cases e
 | _=>rw [hop] at e;cases e
end
end Go.Lx
namespace Go.Lx
section
variable {P:Program}
def pM (P:Program) (V:View) (h:Id→Option Blk) (μ:Id→Pl) (env:Env) (tmps:Array Value):Prop :=
 ∀ t v,look env t=some v→iI P V h μ v (tmps.getD t undef)
structure nY where
 V:View
 h:Id→Option Blk
 μ:Id→Pl
 w:World
 out:Out
 n:Nat
 low:∀ i b,h i=some b→i.d < out.length
def St (P:Program) (O:nY) (env:Env) (s:S) (a:Act) (w:World):Prop :=
 ∃ V μ,Inv P V s.get μ w∧pM P V s.get μ env a.tmps∧Evo O.V O.h O.μ O.w V s.get μ w∧s.out=O.out∧a.tmps.size=O.n∧a.defers=[]
theorem pM.evo {V V':View} {h h':Id→Option Blk} {μ μ':Id→Pl} {w w':World} {env:Env} {tmps:Array Value} (R:pM P V h μ env tmps) (E:Evo V h μ w V' h' μ' w'):pM P V' h' μ' env tmps :=
 fun t v hv=>E.zI (R t v hv)
theorem pM.put {V:View} {h:Id→Option Blk} {μ:Id→Pl} {env:Env} {a:Act} (R:pM P V h μ env a.tmps) {dst:Option Nat} (hd:∀ d,dst=some d→d < a.tmps.size) {v:A} {cv:Value} (H:iI P V h μ v cv) :
  pM P V h μ (yB dst v env) (a.put dst cv).tmps:=by
 cases dst with
 | none=>exact R
 | some d =>
  intro t x hx;simp only [yB,look] at hx;have hl:=hd d rfl;by_cases e:t=d
  ·subst e;rw [if_pos rfl] at hx;cases hx;have:(a.put (some t) cv).tmps.getD t undef=cv:=by simp [Act.put,hl]
   rw [this];exact H
  ·rw [if_neg e] at hx;have:(a.put (some d) cv).tmps.getD t undef=a.tmps.getD t undef:=by
    simp [Act.put,iQ (fun q=>e q.symm)]
   rw [this];exact R t x hx
theorem qQ (a:Act) (dst:Option Nat) (v:Value):(a.put dst v).tmps.size=a.tmps.size:=by cases dst<;>simp [Act.put]
theorem put_defers (a:Act) (dst:Option Nat) (v:Value):(a.put dst v).defers=a.defers:=by cases dst<;>rfl
theorem pM.operand {V:View} {h:Id→Option Blk} {μ:Id→Pl} {env:Env} {a:Act} (R:pM P V h μ env a.tmps):∀ x v,ay (look env) x=some v→iI P V h μ v (a.eval x):=by
 intro x v hv;cases x with
 | tmp t=>exact R t v hv
 | const k =>
  simp only [ay] at hv;cases hk:ofValue k with
  | none=>rw [hk] at hv;cases hv
  | some d=>rw [hk] at hv;cases hv;exact .d _ _ (yz hk V)
 | func f=>cases hv;exact .d _ _ (.fn f)
 | global g=>cases hv
def xh (n:Nat) (ops:List Oper):Bool:=ops.all fun o=>match o.dst with | some d=>decide (d < n) | none=>true
def codeOk (n:Nat):Code→Bool
 | .region _ ops _=>xh n ops.toList
 | .seq a b=>codeOk n a&&codeOk n b
 | .cond _ a b=>codeOk n a&&codeOk n b
 | .block _ b=>codeOk n b
 | .loop b=>codeOk n b
 | .scope b=>codeOk n b
 | _=>true
theorem xk {n:Nat} {ops:Array Oper} (h:xh n ops.toList=true) {i:Nat} {o:Oper} (ho:ops[i]?=some o) {d:Nat} (hd:o.dst=some d):d < n:=by
 have:=aW.1 h o (dm (by simpa using ho:ops.toList[i]?=some o));rw [hd] at this;exact of_decide_eq_true this
theorem Fe {V:View} {h:Id→Option Blk} {μ:Id→Pl} {env:Env} {a:Act} {ops:Array Oper} (R:pM P V h μ env a.tmps) {o:Oper} {b:Bool} (e:jZ ops.toList env o=some b)
  (hd:xh a.tmps.size ops.toList=true):Region.wanted o (yielded ops a.tmps)=b:=by
 unfold jZ at e;unfold Region.wanted;cases hg:o.guard with
 | none=>rw [hg] at e;cases e;rfl
 | some jw =>
  obtain ⟨j,want⟩:=jw;rw [hg] at e;simp only at e ⊢;cases hj:(ops.toList[j]?).bind (·.dst) with
  | none=>rw [hj] at e;cases e
  | some d =>
   rw [hj] at e;simp only at e;have hj':(ops[j]?).bind (·.dst)=some d:=by simpa using hj
   have hdl:d < a.tmps.size:=by
    cases ho:ops[j]? with
    | none=>rw [ho] at hj';cases hj'
    | some o'=>rw [ho] at hj';exact xk hd ho hj'
   have hget:a.tmps[d]?=some (a.tmps.getD d undef):=by simp [hdl]
   split at e
   ·rename_i b' hl
    cases e;have:=(R d _ hl).dOf;generalize hq:a.tmps.getD d undef=q at this hget;cases this;simp only [yielded,hj',ag,hget];cases b'<;>cases want<;>rfl
   ·rename_i hl
    cases e;have:=R d _ hl;generalize hq:a.tmps.getD d undef=q at this hget;cases this;simp only [yielded,hj',ag,hget,undef];rfl
   ·cases e
structure yL (v v':A):Prop where
 ok:∀ (P:Program) (V:View) (h:Id→Option Blk) (μ:Id→Pl) (cv:Value),iI P V h μ v cv→iI P V h μ v' cv
 ids:∀ j,j∈v'.ids→j∈v.ids
theorem yL.refl (v:A):yL v v:=⟨fun _ _ _ _ _ h=>h,fun _ h=>h⟩
theorem yL.trans {v v' v'':A} (h:yL v v') (k:yL v' v''):yL v v'':=⟨fun P V h' μ cv r=>k.ok P V h' μ cv (h.ok P V h' μ cv r),fun j hj=>h.ids j (k.ids j hj)⟩
theorem Du {P:Program} {V:View} {x:D} {v:Value} (h:jB P V x v):jB P V (Nc x) v:=by
 cases x with
 | nilsl=>cases h;exact .sl [] none 0 0 0 0 (fun _=>undef) (bu _) (.inl rfl) (fun i d hd=>by simp at hd) (fun i hi=>by simp at hi) (fun i hi=>by simp at hi)
 | _=>exact h
theorem F7 {P:Program} {V:View} {x:D} {v:Value} (h:jB P V x v):jB P V (wS x) v:=by
 cases x with
 | nilsl=>exact Du h
 | agg cs =>
  cases h with
  | agg _ vs hn h hp =>
   refine .agg _ vs (by simpa using hn) (fun i d v hd hv=>?_) hp;simp only [eF,aQ] at hd;obtain ⟨d0,h1,rfl⟩:=hd;exact Du (h i d0 v h1 hv)
 | _=>exact h
theorem yL.nil (x:D):yL (.d x) (.d (wS x)):=⟨fun P V h μ cv r => .d _ _ (F7 r.dOf),fun j hj=>by cases hj⟩
structure bU (P:Program) (g:FuncId) (args:List A) (out:Out) (r:Ret):Prop where
 ent:Bi P g
 ok:∀ V μ w (cargs:List Value),Inv P V (uz out).get μ w→iy P V (uz out).get μ args cargs →
  Calls P g cargs.toArray w (fun e w'=>match e with | .returned cv=>H8 P V μ w out r cv w' | _=>False)
inductive RF:List A→List A→Prop where
 | n:RF [] []
 | c {a:A} {as as':List A} (k:RF as as'):RF (a::as) (a::as')
 | w {a a':A} {as as':List A} (h:yL a a') (k:RF as as'):RF (a::as) (a'::as')
theorem RF.rel {V:View} {h:Id→Option Blk} {μ:Id→Pl} {as as':List A} (H:RF as as'):∀ {vs:List Value},iy P V h μ as vs→iy P V h μ as' vs:=by
 induction H with
 | n=>exact fun h=>h
 | c k ih=>intro vs hv;cases hv with | cons _ _ _ _ h1 h2=>exact .cons _ _ _ _ h1 (ih h2)
 | w h k ih=>intro vs hv;cases hv with | cons _ _ _ _ h1 h2=>exact .cons _ _ _ _ (h.ok _ _ _ _ _ h1) (ih h2)
theorem bU.args {g:FuncId} {as as':List A} {out:Out} {r:Ret} (h:bU P g as' out r) (H:RF as as'):bU P g as out r :=
 ⟨h.ent,fun V μ w cargs I R=>h.ok V μ w cargs I (H.rel R)⟩
structure iJ (P:Program) (env:Env) (s:S) (o:Oper) (v:A) (dl:Delta):Prop where
 ex:(∃ (c:Cfg) (f:FuncId) (call:FuncId→List A→Out→Option Ret),c.P=P∧Gz c call∧Oj c call∧∃ v0,nT c f call (look env) s o=some (v0,dl)∧yL v0 v) ∨
  (eG env o.op=true∧∀ (V:View) (μ:Id→Pl) (w:World),Inv P V s.get μ w→∀ (a:Act),(∀ x,x∈o.op.operands→∀ u,ay (look env) x=some u→iI P V s.get μ u (a.eval x)) →
   ∀ (K:Act→World→Prop) (Q:Exit→Act→World→Prop),(∀ cv w',Left P V s μ w (dl.apply s) v cv w'→K (a.put o.dst cv) w')→o.wp P a w K Q)
theorem iJ.weak {env:Env} {s:S} {o:Oper} {v v':A} {dl:Delta} (H:iJ P env s o v dl) (hw:yL v v'):iJ P env s o v' dl:=by
 rcases H.ex with ⟨c,f,call,h1,h2,h3,v0,h4,h5⟩ | ⟨h1,h2⟩
 ·exact ⟨.inl ⟨c,f,call,h1,h2,h3,v0,h4,h5.trans hw⟩⟩
 ·exact ⟨.inr ⟨h1,fun V μ w I a R K Q hK=>h2 V μ w I a R K Q fun cv w' hl=>hK cv w' (by obtain ⟨V',μ',k1,k2⟩:=hl;exact ⟨V',μ',hw.ok _ _ _ _ _ k1,k2⟩)⟩⟩
theorem iJ.wk {env:Env} {s:S} {o:Oper} {x x':D} {dl:Delta} (H:iJ P env s o (.d x) dl) (hw:wS x=x'):iJ P env s o (.d x') dl:=by
 subst hw;exact H.weak (.nil x)
theorem iJ.sound {V:View} {μ:Id→Pl} {w:World} {env:Env} {s:S} {o:Oper} {v:A} {dl:Delta} (H:iJ P env s o v dl) (I:Inv P V s.get μ w) {a:Act} (R:pM P V s.get μ env a.tmps)
  {K:Act→World→Prop} {Q:Exit→Act→World→Prop} (hK:∀ cv w',Left P V s μ w (dl.apply s) v cv w'→K (a.put o.dst cv) w'):o.wp P a w K Q:=by
 rcases H.ex with ⟨c,f,call,rfl,HC,HE,v0,e,hw⟩ | ⟨_,h2⟩
 case inr=>exact h2 V μ w I a (fun x _ u hu=>R.operand x u hu) K Q hK
 refine Q7 HC HE I R.operand e (fun cv w' hl=>hK cv w' ?_);obtain ⟨V',μ',h1,h2⟩:=hl;exact ⟨V',μ',hw.ok _ _ _ _ _ h1,h2⟩
theorem St.op {O:nY} {env:Env} {s:S} {a:Act} {w:World} (T:St P O env s a w) {o:Oper} {v:A} {dl:Delta}
  (e:iJ P env s o v dl) (hd:∀ d,o.dst=some d→d < O.n) {K:Act→World→Prop} {Q:Exit→Act→World→Prop} (hK:∀ a' w',St P O (yB o.dst v env) (dl.apply s) a' w'→K a' w') :
  o.wp P a w K Q:=by
 obtain ⟨V,μ,I,R,E,hdep,hn,hdf⟩:=T;refine e.sound I R (fun cv w' L=>hK _ _ ?_);obtain ⟨V',μ',h1,h2,h3,h4⟩:=L;exact ⟨V',μ',h2,(R.evo h3).put (by rw [hn];exact hd) h1,E.trans h3,h4.trans hdep,by rw [qQ];exact hn,by rw [put_defers];exact hdf⟩
theorem St.skip {O:nY} {env:Env} {s:S} {a:Act} {w:World} (T:St P O env s a w) {dst:Option Nat} (hd:∀ d,dst=some d→d < O.n):St P O (yB dst .undef env) s (a.put dst undef) w:=by
 obtain ⟨V,μ,I,R,E,hdep,hn,hdf⟩:=T;exact ⟨V,μ,I,R.put (by rw [hn];exact hd) .undef,E,hdep,by rw [qQ];exact hn,by rw [put_defers];exact hdf⟩
theorem St.guard {O:nY} {env:Env} {s:S} {a:Act} {w:World} (T:St P O env s a w) {ops:Array Oper} {o:Oper} {b:Bool} (e:jZ ops.toList env o=some b) (hd:xh O.n ops.toList=true) :
  Region.wanted o (yielded ops a.tmps)=b:=by
 obtain ⟨V,μ,I,R,E,hdep,hn,hdf⟩:=T;exact Fe R e (by rw [hn];exact hd)
theorem zip_fst:∀ (n:Nat) (l:List Oper),(mM n l).map (·.1)=List.range' n l.length
 | n,[]=>rfl
 | n,o::l=>by simp [mM,zip_fst (n+1) l,List.range'_succ]
theorem Qd:∀ (n:Nat) (l:List Oper) (p:Nat×Oper),p∈mM n l→n≤p.1∧l[p.1 - n]?=some p.2
 | n,[],p,h=>by cases h
 | n,o::l,p,h=>by
  cases h with
  | head=>exact ⟨bu _,by simp⟩
  | tail _ h =>
   obtain ⟨h1,h2⟩:=Qd (n+1) l p h;refine ⟨by omega,?_⟩;rw [show p.1 - n=(p.1 - (n+1))+1 from by omega];simpa using h2
end
end Go.Lx
namespace Go.Lx
theorem Inv.sub {P:Program} {V:View} {h h':Id→Option Blk} {μ:Id→Pl} {w:World} (I:Inv P V h μ w) (hs:∀ i b,h' i=some b→h i=some b)
  (hc:∀ i c,h' i=some c→∀ j∈c.ids,∀ b,h j=some b→h' j=some b):Inv P V h' μ w where
 apart i j b b' hi hj:=I.apart i j b b' (hs i b hi) (hs j b' hj)
 cell:=I.cell
 map:=I.map
 tidy i c hi:=I.tidy i c (hs i _ hi)
 blk i b hi:=by
  have B:=I.blk i b (hs i b hi);cases b with
  | box cs =>
   obtain ⟨b1,b3,cells,elem,b5,b6,b7⟩:=B;exact ⟨b1,b3,cells,elem,b5,b6,fun k a v ha hv=>⟨(b7 k a v ha hv).1.mono (.refl V) (fun j hj bb hbb=>⟨bb,hc i _ hi j (qy ha hj) bb hbb, .refl _ _⟩),(b7 k a v ha hv).2⟩⟩
  | nest sz xs =>
   rcases B with B | ⟨b1,b2,b3,cells,elem,b5,b6,hpl,b7⟩
   ·exact .inl B
   ·exact .inr ⟨b1,b2,b3,cells,elem,b5,b6,hpl,fun k e he=>⟨(b7 k e he).1,fun q a v ha hv=>((b7 k e he).2 q a v ha hv).mono (.refl V) (fun j hj bb hbb=>⟨bb,hc i _ hi j (BX he ha hj) bb hbb, .refl _ _⟩)⟩⟩
  | arr _ _ _=>exact B
  | map _ _ _=>exact B
  | fam _=>exact B.elim
  | gap=>exact B
  | tail _ _ _=>exact B
theorem Evo.sub {V V0:View} {h h' h0:Id→Option Blk} {μ μ0:Id→Pl} {w w0:World} (E:Evo V0 h0 μ0 w0 V h μ w) (hs:∀ i b,h' i=some b→h i=some b) (hk:∀ i b,h0 i=some b→h' i=h i):Evo V0 h0 μ0 w0 V h' μ w :=
 ⟨E.os,E.tape,E.output,E.size,E.rest,E.view,E.newc,E.newm,fun j x hx hn=>E.place j x (hs j x hx) hn,fun i b hb=>by
  obtain ⟨b',h1,h2⟩:=E.keep i b hb;exact ⟨b',by rw [hk i b hb];exact h1,h2⟩⟩
theorem QN {rows:List Blk} {b:Blk} (h:b∈rows):b.ids ⊆ Blk.lT rows:=by
 induction rows with
 | nil=>cases h
 | cons x rest ih =>
  simp only [Blk.lT];rcases iM.1 h with rfl | h
  ·exact List.subset_append_left _ _
  ·exact fun q hq=>aU.2 (.inr (ih h hq))
theorem Ns {x b:Blk} {m n:Nat} (h:x.view m n=some b):b.ids ⊆ x.ids:=by
 cases x with
 | fam rows=>simp only [Blk.view] at h;simp only [Blk.ids];exact QN (dm h)
 | _ =>
  simp only [Blk.view] at h;split at h
  ·cases h;exact fun _ h=>h
  ·cases h
theorem E5 {l:Loc} {t n:Nat} {b:Blk} (h:bV l t n=some b):b.ids ⊆ vK l:=by
 induction l with
 | nil=>cases h
 | cons x rest ih =>
  obtain ⟨⟨a,m⟩,y⟩:=x;simp only [bV] at h;simp only [vK];split at h
  ·split at h
   ·rename_i hv
    cases h;exact fun q hq=>aU.2 (.inl (Ns hv hq))
   ·exact fun q hq=>aU.2 (.inr (ih h hq))
  ·exact fun q hq=>aU.2 (.inr (ih h hq))
theorem IK {env:Env} {t:Nat} {v:A} (h:look env t=some v):∀ j,j∈v.ids→j∈wo env:=by
 induction env with
 | nil=>cases h
 | cons x rest ih =>
  obtain ⟨u,y⟩:=x;simp only [look] at h;simp only [wo];intro j hj;split at h
  ·cases h;exact aU.2 (.inl hj)
  ·exact aU.2 (.inr (ih h j hj))
structure Trim (env:Env) (s:S) (env':Env) (s':S):Prop where
 env:∀ t v,look env' t=some v→∃ v0,look env t=some v0∧yL v0 v
 loc:∀ t n b,bV s'.loc t n=some b→bV s.loc t n=some b
 out:s'.out=s.out
 chg:s'.chg=s.chg
 ids:s'=s∨∀ i,i∈wo env'∨i∈vK s'.loc→i.d=s.dep→∃ b,bV s'.loc i.t i.n=some b
theorem Trim.get {env env':Env} {s s':S} (h:Trim env s env' s') (i:Id):s'.get i=if i.d=s.dep then bV s'.loc i.t i.n else s.get i:=by
 have hd:s'.dep=s.dep:=by unfold S.dep;rw [h.out]
 by_cases e:i.d=s.dep
 ·rw [if_pos e];unfold S.get;rw [hd,if_pos e]
 ·rw [if_neg e];unfold S.get S.cur;rw [hd,if_neg e,if_neg e,h.out,h.chg]
theorem St.trim {P:Program} {O:nY} {env env':Env} {s s':S} {a:Act} {w:World} (T:St P O env s a w) (h:Trim env s env' s'):St P O env' s' a w:=by
 obtain ⟨V,μ,I,R,E,hdep,hn,hdf⟩:=T;have own:∀ i,i.d=s.dep→s.get i=bV s.loc i.t i.n:=fun i e=>by unfold S.get;rw [if_pos e]
 have hsub:∀ i b,s'.get i=some b→s.get i=some b:=by
  intro i b hb;rw [h.get] at hb;split at hb
  ·rename_i e;rw [own i e];exact h.loc _ _ _ hb
  ·exact hb
 have hkeep:∀ j,j∈wo env'∨j∈vK s'.loc→∀ b,s.get j=some b→s'.get j=some b:=by
  intro j hj b hb;rcases h.ids with hs | hids
  ·rw [hs];exact hb
  rw [h.get];split
  ·rename_i e
   obtain ⟨b',hb'⟩:=hids j hj e;have:=h.loc _ _ _ hb';rw [own j e,this] at hb;rw [hb',← hb]
  ·exact hb
 have hd:s'.dep=s.dep:=by unfold S.dep;rw [h.out]
 have hclosed:∀ i c,s'.get i=some c→∀ j∈c.ids,∀ b,s.get j=some b→s'.get j=some b:=by
  intro i c hi j hj b hb;by_cases e1:i.d=s.dep
  ·rcases h.ids with hs | _
   ·rw [hs];exact hb
   have hi':bV s'.loc i.t i.n=some c:=by rw [h.get,if_pos e1] at hi;exact hi
   exact hkeep j (.inr (E5 hi' hj)) b hb
  ·have hle:=I.tidy i c (hsub i _ hi) j hj;have hlt:=S.uN (hsub i _ hi);rw [h.get,if_neg (by omega)];exact hb
 refine ⟨V,μ,I.sub hsub hclosed,?_,E.sub hsub ?_,h.out.trans hdep,hn,hdf⟩
 ·intro t v hv;obtain ⟨v0,h1,h2⟩:=h.env t v hv;have h3:=h2.ok _ _ _ _ _ (R t v0 h1);exact h3.mono (.refl V) (fun j hj b hb=>⟨b,hkeep j (.inl (IK hv j hj)) b hb, .refl _ _⟩)
 ·intro i b hb;have:=O.low i b hb;have hdl:s.dep=O.out.length:=congrArg List.length hdep;rw [h.get,if_neg (by omega)]
structure Le (P:Program) (env:Env) (s:S) (env':Env) (s':S):Prop where
 ok:∀ (O:nY) (a:Act) (w:World),St P O env s a w→St P O env' s' a w
theorem Trim.le {P:Program} {env env':Env} {s s':S} (h:Trim env s env' s'):Le P env s env' s':=⟨fun _ _ _ T=>T.trim h⟩
theorem Le.refl {P:Program} (env:Env) (s:S):Le P env s env s:=⟨fun _ _ _ T=>T⟩
theorem Le.trans {P:Program} {e1 e2 e3:Env} {s1 s2 s3:S} (h:Le P e1 s1 e2 s2) (k:Le P e2 s2 e3 s3):Le P e1 s1 e3 s3:=⟨fun O a w T=>k.ok O a w (h.ok O a w T)⟩
theorem Le.yt {P:Program} {env:Env} {s:S} {t:Nat} {v:A} {x:D} {o:Option S} (hv:look env t=some v) (hx:s.toD v=some (x,o)):Le P env s ((t, .d x)::env) (S.ok o s):=by
 refine ⟨fun O a w T=>?_⟩;obtain ⟨V,μ,I,R,E,hdep,hn,hdf⟩:=T;obtain ⟨V',L,H⟩:=Nr I hx (R t v hv);refine ⟨V',μ,L.inv,?_,E.trans L.evo,L.dep.trans hdep,hn,hdf⟩;intro u y hy;simp only [look] at hy;split at hy
 ·rename_i e;subst e;cases hy;exact .d _ _ H
 ·exact L.evo.zI (R u y hy)
theorem Le.sJ {P:Program} {env:Env} {loc loc1:Loc} {out:Out} {chg:List (Option Loc)} {t n t' n' off sz:Nat} {cs:List A} (hb:bV loc t n=some (.box cs)) (hc:cs[off]?=some (.d .nilsl)) (hn:bV loc t' n'=none)
  (hl:setB loc t n (.box (cs.set off (.ref ⟨out.length,t',n'⟩ 0 0 0)))=loc1):Le P env ⟨loc,out,chg⟩ env ⟨((t',n'), .arr sz false [])::loc1,out,chg⟩:=by
 refine ⟨fun O a w T=>?_⟩;obtain ⟨V,μ,I,R,E,hdep,hsz,hdf⟩:=T;have own:∀ (l:Loc) (i:Id),i.d=out.length→S.get ⟨l,out,chg⟩ i=bV l i.t i.n:=fun l i e=>by unfold S.get S.dep;rw [if_pos e]
 have far:∀ (l l':Loc) (i:Id),i.d≠out.length→S.get ⟨l,out,chg⟩ i=S.get ⟨l',out,chg⟩ i:=fun l l' i e=>by unfold S.get S.cur S.dep;rw [if_neg e,if_neg e]
 let j:Id:=⟨out.length,t',n'⟩
 let i:Id:=⟨out.length,t,n⟩
 have hij:i≠j:=by intro e;have h1:=congrArg Id.t e;have h2:=congrArg Id.n e;simp only [i,j] at h1 h2;rw [h1,h2,hn] at hb;cases hb
 have hj:S.get ⟨loc,out,chg⟩ j=none:=by rw [own _ _ rfl];exact hn
 have hi:S.get ⟨loc,out,chg⟩ i=some (.box cs):=by rw [own _ _ rfl];exact hb
 obtain ⟨I1,E1⟩:=I.lay (w':=w) hj (.arr sz false []) ⟨0,0,true,0⟩ (fun _ _=>rfl) rfl rfl rfl (bu _) (fun h=>by cases h) (.inl ⟨rfl,rfl,rfl⟩);have hi1:upd (S.get ⟨loc,out,chg⟩) j (.arr sz false []) i=some (.box cs):=by rw [upd_ne _ _ hij];exact hi
 have hji:yG μ j ⟨0,0,true,0⟩ i=μ i:=iW _ _ hij;have B:=I1.blk i _ hi1;obtain ⟨b1,b2,cells,elem,b3,b4,b5⟩:=B;have hlt:off < cs.length:=(aC.1 hc).1;have K:∀ x b,upd (S.get ⟨loc,out,chg⟩) j (.arr sz false []) x=some b→∃ b',upd (upd (S.get ⟨loc,out,chg⟩) j (.arr sz false [])) i (.box (cs.set off (.ref j 0 0 0))) x=some b'∧qo b (yG μ j ⟨0,0,true,0⟩ x) b' (yG (yG μ j ⟨0,0,true,0⟩) i (yG μ j ⟨0,0,true,0⟩ i) x):=by
  intro x b hx;by_cases e:x=i
  ·subst e;rw [hi1] at hx;cases hx;exact ⟨_,upd_same _ _ _,by rw [fP];simp [qo]⟩
  ·exact ⟨b,by rw [upd_ne _ _ e];exact hx,by rw [iW _ _ e];exact .refl _ _⟩
 obtain ⟨I2,E2⟩:=I1.Rf (w':=w) hi1 (.box (cs.set off (.ref j 0 0 0))) (yG μ j ⟨0,0,true,0⟩ i) (fun h => .inl ⟨rfl,h⟩) (fun _ _ _=>rfl) (fun c v _ h=>I1.cell _ _ _ h) (fun e c _ h=>I1.map _ _ _ h) rfl rfl rfl (bu _)
  ⟨b1,b2,cells,elem,b3,by simpa using b4,fun k x v hk hv=>by
   by_cases e:off=k
   ·subst e;rw [List.getElem?_set_self hlt] at hk;cases hk;obtain ⟨h1,h2⟩:=b5 _ _ v hc hv;refine ⟨?_,h2⟩;have:=h1.dOf;cases this;refine .ref j 0 0 0 sz false [] none 0 (by rw [upd_ne _ _ hij.symm];exact upd_same _ _ _) (bu _) (fun _=>⟨none,0,rfl, .inl ⟨?_,rfl,rfl,rfl⟩⟩);rw [iW _ _ hij.symm,fP]
   ·rw [List.getElem?_set_ne e] at hk;obtain ⟨h1,h2⟩:=b5 k x v hk hv;exact ⟨h1.mono (.refl V) (fun y _ b hb=>K y b hb),h2⟩⟩ (by simp [qo]) (by
   intro y hy;obtain ⟨k,x,h1,h2⟩:=BP hy;by_cases e:off=k
   ·subst e;rw [List.getElem?_set_self hlt] at h1;cases h1;simp only [A.ids,List.mem_singleton] at h2;subst h2;exact bu _
   ·rw [List.getElem?_set_ne e] at h1;exact I1.tidy i _ hi1 y (qy h1 h2))
 have hget:S.get ⟨((t',n'), .arr sz false [])::loc1,out,chg⟩=upd (upd (S.get ⟨loc,out,chg⟩) j (.arr sz false [])) i (.box (cs.set off (.ref j 0 0 0))):=by
  funext x
  by_cases hd:x.d=out.length
  ·rw [own _ _ hd];rw [lq rfl];rw [← hl,zL loc t n _ _ _ (by rw [hb];rfl) rfl];by_cases e1:x=i
   ·subst e1;rw [upd_same];have:¬ (t=t'∧n=n'):=by rintro ⟨q1,q2⟩;exact hij (by simp only [i,j];rw [q1,q2])
    by_cases q1:t=t'
    ·have q2:¬ n=n':=fun q2=>this ⟨q1,q2⟩
     simp only [i,if_pos q1,if_neg q2,and_self,aS];rfl
    ·simp only [i,if_neg q1,and_self,aS];rfl
   ·rw [upd_ne _ _ e1];have h1:¬ (x.t=t∧x.n=n):=by
     rintro ⟨q1,q2⟩
     apply e1;obtain ⟨xd,xt,xn⟩:=x;simp only [i] at *
     rw [hd,q1,q2]
    by_cases e2:x=j
    ·subst e2;rw [upd_same];simp [j]
    ·rw [upd_ne _ _ e2,own _ _ hd,if_neg h1];have h2:¬ (x.t=t'∧x.n=n'):=by
      rintro ⟨q1,q2⟩
      apply e2;obtain ⟨xd,xt,xn⟩:=x;simp only [j] at *
      rw [hd,q1,q2]
     by_cases q1:x.t=t'
     ·rw [if_pos q1,if_neg (fun q2=>h2 ⟨q1,q2⟩)]
     ·rw [if_neg q1]
  ·rw [far _ loc x hd,upd_ne _ _ (fun e=>hd (by rw [e])),upd_ne _ _ (fun e=>hd (by rw [e]))]
 refine ⟨V,yG (yG μ j ⟨0,0,true,0⟩) i (yG μ j ⟨0,0,true,0⟩ i),by rw [hget];exact I2,?_,by rw [hget];exact E.trans (E1.trans E2),hdep,hsz,hdf⟩;intro u y hy;rw [hget];exact E2.zI (E1.zI (R u y hy))
section
variable {P:Program}
def SQ (P:Program):Cfg:=⟨P,fun _ _=>false,fun _=>false,fun _=>false,fun _ _=>false,fun _ _=>false,fun _ _=>false⟩
inductive RWp (P:Program) (ops:List Oper):List (Nat×Oper)→Env→S→(Env→S→Prop)→Prop where
 | nil {env:Env} {s:S} {Q:Env→S→Prop} (h:Q env s):RWp P ops [] env s Q
 | skip {i:Nat} {o:Oper} {rest:List (Nat×Oper)} {env:Env} {s:S} {Q:Env→S→Prop} (hg:jZ ops env o=some false) (h:RWp P ops rest (yB o.dst .undef env) s Q):RWp P ops ((i,o)::rest) env s Q
 | op {i:Nat} {o:Oper} {rest:List (Nat×Oper)} {env:Env} {s:S} {v:A} {dl:Delta} {Q:Env→S→Prop} (hg:jZ ops env o=some true) (ho:iJ P env s o v dl) (h:RWp P ops rest (yB o.dst v env) (dl.apply s) Q):RWp P ops ((i,o)::rest) env s Q
 | trim {l:List (Nat×Oper)} {env env1:Env} {s s1:S} {Q:Env→S→Prop} (ht:Le P env s env1 s1) (h:RWp P ops l env1 s1 Q):RWp P ops l env s Q
 | nilq {i:Nat} {dst:Option Nat} {t t' ty e:TypeId} {x:Operand} {pos:String} {af:Array Edge} {xs:List D} {rest:List (Nat×Oper)} {env:Env} {s:S} {Q:Env→S→Prop} (ht:P.underlying t=some (.slice e)) (hx:ay (look env) x=some (.d (.sl xs)))
   (h:∀ b:Bool,(b=true→xs=[])→RWp P ops rest (yB dst (.d (.bool b)) env) s Q):RWp P ops ((i,⟨dst, .binOp .eql t x (.const (.slice none 0 0)) t',ty,pos,af,none⟩)::rest) env s Q
theorem RWp.sound {O:nY} {ops:Array Oper} (hd:xh O.n ops.toList=true) {l:List (Nat×Oper)} {env:Env} {s:S} {Q:Env→S→Prop} (H:RWp P ops.toList l env s Q) :
  ∀ {a:Act} {w:World},(∀ p,p∈l→ops[p.1]?=some p.2)→St P O env s a w→wpOps P ops (fun e a' w'=>e = .normal∧∃ env' s',St P O env' s' a' w'∧Q env' s') (l.map (·.1)) a w:=by
 induction H with
 | nil h=>intro a w _ T;exact ⟨rfl,_,_,T,h⟩
 | @skip i o rest env s Q hg h ih =>
  intro a w hl T;have ho:ops[i]?=some o:=hl _ (.head _);simp only [iL,wpOps,ho];rw [T.guard hg hd];simp only [aN,aI];exact ih (fun p hp=>hl p (.tail _ hp)) (T.skip (fun d h=>xk hd ho h))
 | @op i o rest env s v dl Q hg hop h ih =>
  intro a w hl T;have ho:ops[i]?=some o:=hl _ (.head _);simp only [iL,wpOps,ho];rw [T.guard hg hd];simp only [aS];exact .inl (T.op hop (fun d h=>xk hd ho h) (fun a' w' T'=>ih (fun p hp=>hl p (.tail _ hp)) T'))
 | trim ht h ih=>intro a w hl T;exact ih hl (ht.ok _ _ _ T)
 | @nilq i dst t t' ty e x pos af xs rest env s Q ht hx h ih =>
  intro a w hl T;have ho:=hl _ (.head _);simp only [iL,wpOps,ho];have hw:Region.wanted (⟨dst, .binOp .eql t x (.const (.slice none 0 0)) t',ty,pos,af,none⟩:Oper) (yielded ops a.tmps)=true:=by
   have:=T.guard (ops:=ops) (o:=⟨dst, .binOp .eql t x (.const (.slice none 0 0)) t',ty,pos,af,none⟩) (b:=true) rfl hd;exact this
  rw [hw];simp only [aS];left;obtain ⟨V,μ,I,R,E,hdep,hn,hdf⟩:=T;have hc:=(R.operand x _ hx).dOf;cases hc':a.eval x with
  | slice p n c =>
   rw [hc'] at hc;refine Qk (c:=SQ P) (cv := .bool p.isNone) (w':=w) (m:=(do eqGuard .eql t x (.const (.slice none 0 0)) (a.eval x) (a.eval (.const (.slice none 0 0)));binOp .eql t (a.eval x) (a.eval (.const (.slice none 0 0))):Sem Value)) (by simp only [execOp]) (by rw [hc'];exact (zC ht rfl _ _).1) (ih p.isNone ?_ (fun q hq=>hl q (.tail _ hq)) ?_)
   ·intro hp;cases hc with
    | sl _ _ _ b o sz ev h1 h2 _ _ _ =>
     rcases h2 with h2 | h2
     ·exact h2
     ·rw [h2] at hp;cases hp
   ·refine ⟨V,μ,I,R.put (by rw [hn];exact fun d hd'=>xk hd ho hd') (.d _ _ (.bool _)),E,hdep,by rw [qQ];exact hn,by rw [put_defers];exact hdf⟩
  | _=>rw [hc'] at hc;cases hc
theorem LZ {O:nY} {id:Nat} {ops:Array Oper} (hd:xh O.n ops.toList=true) {Q:Exit→Act→World→Prop}
  {env:Env} {s:S} {a:Act} {w:World} {R:Env→S→Prop} (T:St P O env s a w) (e:RWp P ops.toList (mM 0 ops.toList) env s R) (hQ:∀ env' s' a' w',R env' s'→St P O env' s' a' w'→Q .normal a' w') :
  (Code.region id ops false).wp P Q a w:=by
 refine wp_mono (wp_region (Q:=fun e a' w'=>e = .normal∧∃ env' s',St P O env' s' a' w'∧R env' s') ?_) ?_
 ·have:=e.sound hd (fun p hp=>by simpa using (Qd 0 _ p hp).2) T;rw [zip_fst] at this;simpa [List.range_eq_range'] using this
 ·rintro e1 a1 w1 ⟨rfl,env',s',h1,h2⟩
  exact hQ _ _ _ _ h2 h1
end
def TN:Ex→Exit
 | .norm => .normal
 | .exit id => .exit id
 | .ret => .ret
def Ends (P:Program) (O:nY) (Q:Ex→Env→S→Prop):Exit→Act→World→Prop:=fun e a w=>∃ ex env s,e=TN ex∧St P O env s a w∧Q ex env s
structure CWp (P:Program) (code:Code) (env:Env) (s:S) (Q:Ex→Env→S→Prop):Prop where
 ok:∀ (O:nY) (a:Act) (w:World),codeOk O.n code=true→St P O env s a w→code.wp P (Ends P O Q) a w
section
variable {P:Program} {env:Env} {s:S} {Q:Ex→Env→S→Prop}
theorem CWp.mono {code:Code} {Q':Ex→Env→S→Prop} (h:CWp P code env s Q) (hq:∀ ex e s,Q ex e s→Q' ex e s):CWp P code env s Q' :=
 ⟨fun O a w hc T=>wp_mono (h.ok O a w hc T) (fun _ _ _ ⟨ex,e,s,h1,h2,h3⟩=>⟨ex,e,s,h1,h2,hq _ _ _ h3⟩)⟩
theorem CWp.trim {code:Code} {env':Env} {s':S} (ht:Le P env s env' s') (h:CWp P code env' s' Q):CWp P code env s Q :=
 ⟨fun O a w hc T=>h.ok O a w hc (ht.ok _ _ _ T)⟩
theorem CWp.skip (h:Q .norm env s):CWp P .skip env s Q:=⟨fun _ _ _ _ T=>wp_skip ⟨.norm,env,s,rfl,T,h⟩⟩
theorem CWp.ret (h:Q .ret env s):CWp P .ret env s Q:=⟨fun _ _ _ _ T=>wp_ret ⟨.ret,env,s,rfl,T,h⟩⟩
theorem CWp.exit {id:Nat} (h:Q (.exit id) env s):CWp P (.exit id) env s Q:=⟨fun _ _ _ _ T=>wp_exit ⟨.exit id,env,s,rfl,T,h⟩⟩
theorem CWp.seq {x y:Code} (h:CWp P x env s (fun ex e s=>match ex with | .norm=>CWp P y e s Q | ex=>Q ex e s)):CWp P (.seq x y) env s Q:=by
 refine ⟨fun O a w hc T=>wp_seq ?_⟩;simp only [codeOk,bF] at hc;refine wp_mono (h.ok O a w hc.1 T) ?_
 rintro e1 a1 w1 ⟨ex,e,s,rfl,h2,h3⟩
 cases ex with
 | norm=>exact h3.ok O a1 w1 hc.2 h2
 | exit id=>exact ⟨.exit id,e,s,rfl,h2,h3⟩
 | ret=>exact ⟨.ret,e,s,rfl,h2,h3⟩
theorem CWp.cond {x:Operand} {p q:Code} {b:Bool} (hx:ay (look env) x=some (.d (.bool b))) (hp:b=true→CWp P p env s Q) (hq:b=false→CWp P q env s Q):CWp P (.cond x p q) env s Q:=by
 refine ⟨fun O a w hc T=>?_⟩;simp only [codeOk,bF] at hc;have hev:a.eval x = .bool b:=by
  obtain ⟨V,μ,I,R,E,hdep,hn,hdf⟩:=T;have:=(R.operand x _ hx).dOf;generalize a.eval x=q at this;cases this;rfl
 refine wp_cond hev ?_;cases b with
 | true=>exact (hp rfl).ok O a w hc.1 T
 | false=>exact (hq rfl).ok O a w hc.2 T
theorem CWp.block {id:Nat} {b:Code} (h:CWp P b env s (fun ex e s=>match ex with | .exit id'=>(match Nat.beq id' id with | true=>Q .norm e s | false=>Q (.exit id') e s) | ex=>Q ex e s)):CWp P (.block id b) env s Q:=by
 refine ⟨fun O a w hc T=>wp_block (wp_mono (h.ok O a w hc T) ?_)⟩
 rintro e1 a1 w1 ⟨ex,e,s,rfl,h2,h3⟩
 cases ex with
 | norm=>exact ⟨.norm,e,s,rfl,h2,h3⟩
 | ret=>exact ⟨.ret,e,s,rfl,h2,h3⟩
 | exit id' =>
  simp only [TN,Exit.inBlock];by_cases hid:id'=id
  ·subst hid;rw [if_pos rfl];have:Nat.beq id' id'=true:=by simp
   simp only [this] at h3;exact ⟨.norm,e,s,rfl,h2,h3⟩
  ·rw [if_neg hid];have:Nat.beq id' id=false:=by
    cases hb:Nat.beq id' id with
    | false=>rfl
    | true=>exact absurd (bW hb) hid
   simp only [this] at h3;exact ⟨.exit id',e,s,rfl,h2,h3⟩
theorem CWp.region {id:Nat} {ops:Array Oper} (h:RWp P ops.toList (mM 0 ops.toList) env s (fun e s'=>Q .norm e s')):CWp P (.region id ops false) env s Q :=
 ⟨fun _ _ _ hc T=>LZ hc T h (fun env' s' _ _ hq T'=>⟨.norm,env',s',rfl,T',hq⟩)⟩
end
section
variable {σ ρ:Type}
def zq (step:σ→Option (Sum σ ρ)):Nat→σ→Option ρ
 | 0,_=>none
 | n+1,x =>
  match step x with
  | some (.inl x')=>zq step n x'
  | some (.inr y)=>some y
  | none=>none
theorem GZ {step:σ→Option (Sum σ ρ)}:∀ {n:Nat} {x:σ} {y:ρ},zq step n x=some y→zq step (n+1) x=some y
 | 0,x,y,h=>by cases h
 | n+1,x,y,h=>by
  rw [zq];rw [zq] at h;split at h
  ·rename_i x' hx
   rw [GZ h]
  ·rename_i y' hx;exact h
  ·cases h
theorem QQ {step:σ→Option (Sum σ ρ)} {n m:Nat} {x:σ} {y:ρ} (h:zq step n x=some y) (hm:n≤m):zq step m x=some y:=by
 induction hm with
 | refl=>exact h
 | step _ ih=>exact GZ ih
def FUEL:Nat:=4611686018427387904
def gB (step:σ→Option (Sum σ ρ)) (x:σ):Option ρ:=zq step FUEL x
theorem NQ {step:σ→Option (Sum σ ρ)} {x:σ} {y:ρ} (h:gB step x=some y):∃ n,zq step n x=some y:=⟨_,h⟩
theorem QW {step:σ→Option (Sum σ ρ)} {n:Nat} {x:σ} {y:ρ} (h:zq step n x=some y) (hn:n≤FUEL):gB step x=some y:=QQ h hn
theorem JD {step:σ→Option (Sum σ ρ)} (I:σ→Prop) (m:σ→Nat) (Q:ρ→Prop) (hs:∀ x,I x→(∃ x',step x=some (.inl x')∧I x'∧m x' < m x)∨(∃ y,step x=some (.inr y)∧Q y)):∀ (n:Nat) (x:σ),I x→m x < n→∃ y,zq step n x=some y∧Q y
 | 0,x,_,h=>absurd h (Nat.not_lt_zero _)
 | n+1,x,hI,h=>by
  rw [zq];rcases hs x hI with ⟨x',h1,h2,h3⟩ | ⟨y,h1,h2⟩
  ·rw [h1];exact JD I m Q hs n x' h2 (by omega)
  ·rw [h1];exact ⟨y,rfl,h2⟩
theorem UE {step:σ→Option (Sum σ ρ)} (I:σ→Prop) (m:σ→Nat) (Q:ρ→Prop) (hs:∀ x,I x→(∃ x',step x=some (.inl x')∧I x'∧m x' < m x)∨(∃ y,step x=some (.inr y)∧Q y)) {x:σ} (hI:I x) (hm:m x < FUEL):∃ y,gB step x=some y∧Q y :=
 JD I m Q hs FUEL x hI hm
theorem CWp.loop {P:Program} {b:Code} {step:σ→Option (Sum σ ρ)} (E:σ→Env) (M:σ→S) {Q:Ex→Env→S→Prop} {x:σ} {y:ρ} {env:Env} {s:S} (ht:Le P env s (E x) (M x)) (hl:gB step x=some y)
  (hs:∀ x z,step x=some z→CWp P b (E x) (M x) (fun ex e s=>match z with | .inl x'=>ex = .norm∧Le P e s (E x') (M x') | .inr y'=>ex ≠ .norm∧(y'=y→Q ex e s))):CWp P (.loop b) env s Q:=by
 obtain ⟨n,hn⟩:=NQ hl;refine CWp.trim ht ⟨fun O a w hc T=>?_⟩;have key:∀ (n:Nat) (x:σ),zq step n x=some y→∀ (a:Act) (w:World),St P O (E x) (M x) a w→∀ (fr:Frame) (k:List Item) (cs:List Frame),
   ∃ e a' w',Ends P O Q e a' w'∧Arrives P (lone (fr.at a (.code b :: .inLoop b::k)) cs w) fr k cs e a' w':=by
  intro n
  induction n with
  | zero=>intro x h;cases h
  | succ n ih =>
   intro x h a w T fr k cs;rw [zq] at h;have go:∀ z,step x=some z→∃ e a' w',(∃ ex en s,e=TN ex∧St P O en s a' w'∧(match z with | .inl x'=>ex = .norm∧Le P en s (E x') (M x') | .inr y'=>ex ≠ .norm∧(y'=y→Q ex en s)))∧Arrives P (lone (fr.at a (.code b :: .inLoop b::k)) cs w) fr (.inLoop b::k) cs e a' w' :=
    fun z hz=>(hs x z hz).ok O a w hc T fr (.inLoop b::k) cs
   split at h
   ·rename_i x' hx
    obtain ⟨e1,a1,w1,⟨ex,en,s1,rfl,T1,rfl,htr⟩,harr⟩:=go _ hx;obtain ⟨e2,a2,w2,hq,harr2⟩:=ih x' h a1 w1 (htr.ok _ _ _ T1) fr k cs;exact ⟨e2,a2,w2,hq, .of_steps (Steps.trans harr (.one step_inLoop)) harr2⟩
   ·rename_i y' hx
    cases h;obtain ⟨e1,a1,w1,⟨ex,en,s1,rfl,T1,hne,hq⟩,harr⟩:=go _ hx;refine ⟨TN ex,a1,w1,⟨ex,en,s1,rfl,T1,hq rfl⟩,?_⟩;cases ex with
    | norm=>exact absurd rfl hne
    | exit id=>exact .pass (x := .inLoop b) rfl (fun _ _ => .inl (by simp [TN])) harr
    | ret=>exact .pass (x := .inLoop b) rfl (fun _ _ => .inl (by simp [TN])) harr
   ·cases h
 intro fr k cs;obtain ⟨e1,a1,w1,hq,harr⟩:=key n x hn a w T fr k cs;exact ⟨e1,a1,w1,hq, .of_steps (.one step_loop) harr⟩
end
end Go.Lx
namespace Go.Lx
section
variable {c:Cfg} {P:Program} {V:View} {μ:Id→Pl} {w:World}
def Bo (s:S):S:=⟨[],s.out,s.chg⟩
theorem qp (s:S) (i:Id):(Bo s).get i=if i.d=s.dep then none else s.get i:=by
 have hd:(Bo s).dep=s.dep:=rfl;have hc:(Bo s).cur=s.cur:=rfl;unfold S.get;rw [hd,hc];by_cases e:i.d=s.dep
 ·rw [if_pos e,if_pos e];rfl
 ·rw [if_neg e,if_neg e,if_neg e]
def Dn (V:View) (s:S) (μ:Id→Pl) (w:World) (ex:Bool):View where
 cell b c v:=V.cell b c v∨(∃ i blk,s.get i=some blk∧i.d=s.dep∧(μ i).nil=false∧(μ i).blk=b∧ex=false∧w.cell? ⟨b,c,none⟩=some v)
 map r e c:=V.map r e c∨(∃ i kt l es,s.get i=some (.map kt l es)∧i.d=s.dep∧(μ i).blk=r∧w.heap[r]?=some (.map e c))
theorem nJ {s:S} {ex:Bool}:V.Le (Dn V s μ w ex):=⟨fun _ _ _ h => .inl h,fun _ _ _ h => .inl h⟩
theorem IG {s:S} (I:Inv P V s.get μ w) (ex:Bool):Inv P (Dn V s μ w ex) (Bo s).get μ w:=by
 have hsub:∀ i b,(Bo s).get i=some b→s.get i=some b∧i.d≠s.dep:=by
  intro i b hb;rw [qp] at hb;split at hb
  ·cases hb
  ·rename_i h;exact ⟨hb,h⟩
 have I1:Inv P V (Bo s).get μ w:=by
  refine I.sub (fun i b hb=>(hsub i b hb).1) ?_;intro i cs hi j hj b hb;obtain ⟨h1,h2⟩:=hsub i _ hi;have:=I.tidy i _ h1 j hj;have:=S.uN h1;rw [qp,if_neg (by omega)];exact hb
 refine I1.frame (fun _ _=>rfl) nJ ?_ ?_ ?_ ?_
 ·rintro b c v (q | ⟨i,blk,h1,h2,h3,h4,h5,h6⟩) ⟨j,x,hx,hn,hb⟩
  ·exact q
  ·exfalso
   obtain ⟨k1,k2⟩:=hsub j x hx;exact I.apart i j blk x h1 k1 (fun e=>k2 (e ▸ h2)) h3 hn (h4.trans hb.symm)
 ·rintro r e c (q | ⟨i,kt,l,es,h1,h2,h4,h6⟩) ⟨j,x,hx,hn,hb⟩
  ·exact q
  ·exfalso
   obtain ⟨k1,k2⟩:=hsub j x hx;exact I.apart i j _ x h1 k1 (fun e=>k2 (e ▸ h2)) (I.blk i _ h1).1 hn (h4.trans hb.symm)
 ·rintro b c v (q | ⟨i,blk,h1,h2,h3,h4,h5,h6⟩)
  ·exact I.cell b c v q
  ·exact h6
 ·rintro r e c (q | ⟨i,kt,l,es,h1,h2,h4,h6⟩)
  ·exact I.map r e c q
  ·exact h6
theorem IE {s:S} {V0:View} {h0:Id→Option Blk} {μ0:Id→Pl} {w0:World} (I:Inv P V s.get μ w) (ex:Bool) (E:Evo V0 h0 μ0 w0 V s.get μ w) (low:∀ i b,h0 i=some b→i.d < s.dep) :
  Evo V0 h0 μ0 w0 (Dn V s μ w ex) (Bo s).get μ w:=by
 refine ⟨E.os,E.tape,E.output,E.size,E.rest,E.view.trans nJ,?_,?_,?_,?_⟩
 ·rintro b c v (q | ⟨i,blk,h1,h2,h3,h4,h5,h6⟩)
  ·exact E.newc b c v q
  ·exact .inr (E.own b ⟨i,blk,h1,h3,h4⟩)
 ·rintro r e c (q | ⟨i,kt,l,es,h1,h2,h4,h6⟩)
  ·exact E.newm r e c q
  ·exact .inr (E.own r ⟨i,_,h1,(I.blk i _ h1).1,h4⟩)
 ·intro i b hb hn;rw [qp] at hb;split at hb
  ·cases hb
  ·exact E.place i b hb hn
 ·intro i b hb;obtain ⟨b',h1,h2⟩:=E.keep i b hb;have:=low i b hb;exact ⟨b',by rw [qp,if_neg (by omega)];exact h1,h2⟩
theorem Pg {s:S} (I:Inv P V s.get μ w) {i:Id} {sz off len:Nat} {l:Bool} {xs:List D} (hi:s.get i=some (.arr sz l xs)) (hd:i.d=s.dep) (hle:off+len≤xs.length) {a:Option Addr} {cc:Nat}
  (hsv:yV (μ i) sz off len (.slice a len cc)):jB P (Dn V s μ w false) (.sl ((xs.drop off).take len)) (.slice a len cc):=by
 rcases I.blk i _ hi with ⟨q1,q2,q3⟩ | ⟨q1,q2,q3,q4,cells,elem,q5,q6,_,ev,q7⟩
 ·exact uy hsv hle (fun z=>by rw [q1] at z;cases z) (fun _=>q2) (fun k d hk=>by subst q2;simp at hk)
 ·exact uy hsv hle (fun _=>q2) (fun z=>by rw [q1] at z;cases z) (fun k d hk=>⟨ev k,(q7 k d hk).1.mono nJ,(q7 k d hk).2.1,fun j v hj =>
   .inr ⟨i,_,hi,hd,q1,rfl,rfl,by rw [cell_of_row w _ _ cells elem (0,0) q5];exact (q7 k d hk).2.2 j v hj⟩⟩)
theorem O9 {s:S} (I:Inv P V s.get μ w) {i:Id} {kt:TypeId} {l:Bool} {es:List (D×D)} (hi:s.get i=some (.map kt l es)) (hd:i.d=s.dep) (ex:Bool) :
  jB P (Dn V s μ w ex) (.mp kt es) (.map (some (μ i).blk)):=by
 obtain ⟨h1,h3,en,h5,h6,h7,h8⟩:=I.blk i _ hi;exact .mp kt es _ en es.length (.inr ⟨i,kt,l,es,hi,hd,rfl,h5⟩) h6 (fun k e m he hm=>(h7 k e m he hm).1.mono nJ) (fun k e m he hm=>(h7 k e m he hm).2.1.mono nJ) h8 rfl (fun k m hm=>by
   have hk:k < es.length:=by rw [← h6];exact (aO.1 hm).1
   exact (h7 k es[k] m (by simp [hk]) hm).2.2)
theorem Pz {V:View} {x:D} {v:Value} (H:jB P V x v):jB P V (Nc x) v:=by
 cases H with
 | nilsl=>exact .sl [] none 0 0 0 0 (fun _=>Go.undef) (kE _) (.inl rfl) (fun i d hd=>by simp at hd) (fun i hi=>by simp at hi) (fun i hi=>by simp at hi)
 | _=>simp only [Nc];constructor<;>assumption
theorem Rt {V:View} {x:D} {v:Value} (H:jB P V x v):jB P V (wS x) v:=by
 cases H with
 | nilsl=>exact .sl [] none 0 0 0 0 (fun _=>Go.undef) (kE _) (.inl rfl) (fun i d hd=>by simp at hd) (fun i hi=>by simp at hi) (fun i hi=>by simp at hi)
 | agg cs vs hn h hp =>
  simp only [wS];refine .agg _ vs (by simpa using hn) (fun i d v hd hv=>?_) hp;rw [eF] at hd;cases hc:cs[i]? with
  | none=>rw [hc] at hd;cases hd
  | some y=>rw [hc] at hd;cases hd;exact Pz (h i y v hc hv)
 | _=>simp only [wS];constructor<;>assumption
end
end Go.Lx
namespace Go.Lx
section
variable {c:Cfg} {P:Program} {V:View} {μ:Id→Pl} {w:World}
theorem Oz {s:S} (I:Inv P V s.get μ w) {a:A} {x:D} {v:Value} (e:s.CW a=some x) (H:iI P V s.get μ a v):jB P (Dn V s μ w false) x v:=by
 cases H with
 | d y v hd=>simp only [S.CW] at e;cases e;exact hd.mono nJ
 | tight xs a hd=>simp only [S.CW] at e;cases e;exact hd.mono nJ
 | ref i off len full sz l xs a cc hi hf hv =>
  simp only [S.CW] at e;split at e
  ·rename_i hd
   simp only [S.elems,hi] at e;split at e
   ·rename_i hh
    cases e;exact Pg I hi hd (by omega) (hv hh.1)
   ·cases e
  ·cases e
 | pimm y off ev b o hd hv =>
  cases off with
  | zero=>simp only [S.CW] at e;cases e;exact .pbox y ev b _ (hd.mono nJ) (fun j x hx => .inl (hv j x hx))
  | succ n=>simp [S.CW] at e
 | mref i kt l es hi =>
  simp only [S.CW,hi] at e;split at e
  ·rename_i hd
   cases e;exact O9 I hi hd false
  ·cases e
 | _=>simp [S.CW] at e
theorem GI {s:S}:∀ {cs:List A} {ds:List D},s.cellsD cs=some ds→ds.length=cs.length∧∀ (i:Nat) a d,cs[i]?=some a→ds[i]?=some d→s.CW a=some d
 | [],ds,e=>by simp only [S.cellsD] at e;cases e;exact ⟨rfl,fun i a d h=>by simp at h⟩
 | a::cs,ds,e=>by
  simp only [S.cellsD] at e;split at e
  ·rename_i v vs h1 h2
   cases e;obtain ⟨k1,k2⟩:=GI h2;refine ⟨by simp [k1],fun i x d hx hd=>?_⟩;cases i with
   | zero=>simp at hx hd;subst hx hd;exact h1
   | succ i=>exact k2 i x d (by simpa using hx) (by simpa using hd)
  ·cases e
inductive qN (s:S) (μ:Id→Pl) (ex:Bool):List Id→List EC→Prop where
 | nil:qN s μ ex [] []
 | cons (i:Id) (sz:Nat) (xs:List D) (is:List Id) (gs:List EC) (hex:ex=true) (hd:i.d=s.dep) (hi:s.get i=some (.arr sz false xs)) (hr:qN s μ ex is gs):qN s μ ex (i::is) ((μ i,sz,xs)::gs)
theorem qN.append {s:S} {ex:Bool} {is js:List Id} {gs ks:List EC} (h:qN s μ ex is gs) (h':qN s μ ex js ks):qN s μ ex (is++js) (gs++ks):=by
 induction h with
 | nil=>exact h'
 | cons i sz xs is gs hex hd hi hr ih=>exact .cons i sz xs _ _ hex hd hi ih
theorem J3 {h:Id→Option Blk}:∀ {ds:List D} {vs:List Value} {gs:List EC},kQ P V h μ (ds.map A.d) vs gs→gs=[]∧vs.length=ds.length∧∀ (i:Nat) d v,ds[i]?=some d→vs[i]?=some v→jB P V d v
 | [],vs,gs,R=>by
  simp only [List.map_nil,kQ] at R;obtain ⟨rfl,rfl⟩:=R;exact ⟨rfl,rfl,fun i d v hd=>by simp at hd⟩
 | d::ds,vs,gs,R=>by
  simp only [iL,kQ] at R;obtain ⟨v,vr,g1,g2,rfl,rfl,r1,r2⟩:=R;simp only [dZ] at r1;obtain ⟨rfl,r1⟩:=r1;obtain ⟨rfl,h1,h2⟩:=J3 r2;refine ⟨rfl,by simp [h1],fun i x y hx hy=>?_⟩;cases i with
  | zero=>simp at hx hy;subst hx hy;exact r1.dOf
  | succ i=>exact h2 i x y (by simpa using hx) (by simpa using hy)
theorem Po {h:Id→Option Blk} {xs:List A} {vs:Array Value} {gs:List EC} (R:kQ P V h μ xs vs.toList gs) (hp:∀ (i:Nat) x,vs[i]?=some x→Plain x):dZ P V h μ (xx xs) (.agg vs) gs:=by
 unfold xx;split
 ·rename_i ds e
  have:=Jd e;subst this;obtain ⟨rfl,h1,h2⟩:=J3 R;simp only [dZ];exact ⟨trivial, .d _ _ (.agg ds vs (by simpa using h1) (fun i d v hd hv=>h2 i d v hd (by simpa using hv)) hp)⟩
 ·simp only [dZ];exact ⟨vs,rfl,hp,R⟩
mutual
theorem Hu {s:S} (I:Inv P V s.get μ w) {strict ex:Bool}:∀ (a:A) {a':A} {is:List Id} {cv:Value},s.result strict ex a=some (a',is)→iI P V s.get μ a cv →
  ∃ gs,dZ P (Dn V s μ w ex) (Bo s).get μ a' cv gs∧qN s μ ex is gs
 | .d x,a',is,cv,e,H=>by
  simp only [S.result] at e;cases e;refine ⟨[],?_, .nil⟩;simp only [dZ];refine ⟨trivial, .d _ _ ?_⟩;split
  ·exact H.dOf.mono nJ
  ·exact (Rt H.dOf).mono nJ
 | .tight xs,a',is,cv,e,H=>by
  simp only [S.result] at e;cases e;refine ⟨[],?_, .nil⟩;cases H with
  | tight _ a hd =>
   split
   ·simp only [dZ];exact ⟨trivial, .tight xs a (hd.mono nJ)⟩
   ·simp only [dZ];exact ⟨trivial, .d _ _ (hd.mono nJ)⟩
 | .own _ _,a',is,cv,e,H=>by cases H
 | .ref i off len full,a',is,cv,e,H=>by
  simp only [S.result] at e;cases H with
  | ref _ _ _ _ sz l xs a cc hi hf hv =>
   split at e
   ·rename_i hlt
    cases e;refine ⟨[],?_, .nil⟩;simp only [dZ];exact ⟨trivial, .ref i off len full sz l xs a cc (by rw [qp,if_neg (by omega)];exact hi) hf hv⟩
   ·rename_i hlt
    have hd:i.d=s.dep:=by have:=S.uN hi;omega
    rw [hi] at e;simp only at e;split at e
    ·rename_i hh
     split at e
     ·rename_i hex
      split at e
      ·rename_i hc
       cases e;simp only [bF,Bool.not_eq_true',beq_iff_eq] at hc;obtain ⟨⟨h1,h2⟩,h3⟩:=hc;subst h1;subst h2;refine ⟨[(μ i,sz,xs)],?_, .cons i sz xs [] [] hex hd hi .nil⟩;simp only [dZ];refine ⟨μ i,rfl,?_⟩;have:=hv hh.1;rw [show xs.length=len from by omega];exact this
      ·cases e
     ·rename_i hex
      cases e;have hexf:ex=false:=by cases ex with | false=>rfl | true=>exact absurd rfl hex
      subst hexf;refine ⟨[],?_, .nil⟩;simp only [dZ];exact ⟨trivial, .d _ _ (Pg I hi hd (by omega) (hv hh.1))⟩
    ·cases e
 | .agg cs,a',is,cv,e,H=>by
  simp only [S.result] at e;cases hr:s.results strict ex cs with
  | none=>rw [hr] at e;cases e
  | some r =>
   obtain ⟨xs,bs⟩:=r;rw [hr] at e;cases e;cases H with
   | agg _ vs hn hc hp =>
    obtain ⟨gs,h1,h2⟩:=Ba I cs hr (vs:=vs.toList) (by simpa using hn) (fun i d v hd hv=>hc i d v hd (by simpa using hv));exact ⟨gs,Po h1 hp,h2⟩
 | .tup cs,a',is,cv,e,H=>by
  simp only [S.result] at e;cases hr:s.results strict ex cs with
  | none=>rw [hr] at e;cases e
  | some r =>
   obtain ⟨xs,bs⟩:=r;rw [hr] at e;cases e;cases H with
   | tup _ vs hn hc =>
    obtain ⟨gs,h1,h2⟩:=Ba I cs hr (vs:=vs.toList) (by simpa using hn) (fun i d v hd hv=>hc i d v hd (by simpa using hv));refine ⟨gs,?_,h2⟩;simp only [dZ];exact ⟨vs,rfl,h1⟩
 | .bptr i off,a',is,cv,e,H=>by
  simp only [S.result] at e;cases H with
  | bptr _ _ cs hi =>
   split at e
   ·rename_i hlt
    cases e;refine ⟨[],?_, .nil⟩;simp only [dZ];exact ⟨trivial, .bptr i off cs (by rw [qp,if_neg (by omega)];exact hi)⟩
   ·rename_i hlt
    have hd:i.d=s.dep:=by have:=S.uN hi;omega
    split at e
    ·cases e
    ·rename_i hex
     have hexf:ex=false:=by cases ex with | false=>rfl | true=>exact absurd rfl hex
     subst hexf;rw [hi] at e;simp only at e;split at e
     ·rename_i h0
      subst h0;cases hcs:s.cellsD cs with
      | none=>rw [hcs] at e;cases e
      | some ds =>
       rw [hcs] at e;cases e;obtain ⟨k1,k2⟩:=GI hcs;obtain ⟨b1,b3,cells,elem,b5,b6,b7⟩:=I.blk i _ hi;refine ⟨[],?_, .nil⟩;simp only [dZ];refine ⟨trivial, .d _ _ (.pbox _ (.agg cells) _ 0 (.agg ds cells (by rw [b6,k1]) (fun j d v hdj hv=>?_) (fun j v hv=>?_)) (fun j v hv=>?_))⟩
       ·have hl:j < cs.length:=by rw [← b6];exact (aO.1 hv).1
        have hcj:=ax hl;exact Oz I (k2 j _ d hcj hdj) (b7 j _ v hcj hv).1
       ·have hl:j < cs.length:=by rw [← b6];exact (aO.1 hv).1
        exact (b7 j _ v (ax hl) hv).2
       ·exact .inr ⟨i,_,hi,hd,b1,rfl,rfl,by rw [cell_of_row w _ _ cells elem (0,0) b5,gW];exact hv⟩
     ·cases e
 | .pimm x off,a',is,cv,e,H=>by
  simp only [S.result] at e;split at e
  ·rename_i h0
   subst h0;cases e;cases H with
   | pimm _ _ ev b o hd hv =>
    refine ⟨[],?_, .nil⟩;simp only [dZ];exact ⟨trivial, .d _ _ (.pbox x ev b _ (hd.mono nJ) (fun j y hy => .inl (hv j y hy)))⟩
  ·cases e
 | .mref i,a',is,cv,e,H=>by
  simp only [S.result] at e;cases H with
  | mref _ kt l es hi =>
   split at e
   ·rename_i hlt
    cases e;refine ⟨[],?_, .nil⟩;simp only [dZ];exact ⟨trivial, .mref i kt l es (by rw [qp,if_neg (by omega)];exact hi)⟩
   ·rename_i hlt
    have hd:i.d=s.dep:=by have:=S.uN hi;omega
    rw [hi] at e;cases e;refine ⟨[],?_, .nil⟩;simp only [dZ];exact ⟨trivial, .d _ _ (O9 I hi hd ex)⟩
 | .nref i n,a',is,cv,e,H=>by
  simp only [S.result] at e;split at e
  ·rename_i hlt
   cases e;cases H with
   | nref _ _ sz xs a c hi hf hv =>
    refine ⟨[],?_, .nil⟩;simp only [dZ];exact ⟨trivial, .nref i n sz xs a c (by rw [qp,if_neg (by omega)];exact hi) hf hv⟩
  ·cases e
 | .undef,a',is,cv,e,H=>by simp [S.result] at e
 | .unk,a',is,cv,e,H=>by simp [S.result] at e
 | .eptr _ _ _ _,a',is,cv,e,H=>by simp [S.result] at e
 | .tref _ _ _,a',is,cv,e,H=>by simp [S.result] at e
 | .tptr _ _ _,a',is,cv,e,H=>by simp [S.result] at e
 | .clo _ _,a',is,cv,e,H=>by simp [S.result] at e
theorem Ba {s:S} (I:Inv P V s.get μ w) {strict ex:Bool}:∀ (cs:List A) {cs':List A} {is:List Id} {vs:List Value},s.results strict ex cs=some (cs',is)→vs.length=cs.length →
  (∀ (i:Nat) a v,cs[i]?=some a→vs[i]?=some v→iI P V s.get μ a v)→∃ gs,kQ P (Dn V s μ w ex) (Bo s).get μ cs' vs gs∧qN s μ ex is gs
 | [],cs',is,vs,e,hn,H=>by
  simp only [S.results] at e;cases e;have:vs=[]:=fC hn;subst this;refine ⟨[],?_, .nil⟩;simp only [kQ];exact ⟨trivial,trivial⟩
 | x::rest,cs',is,vs,e,hn,H=>by
  cases vs with
  | nil=>simp at hn
  | cons v vr =>
   simp only [S.results] at e;split at e
   ·cases e
   ·rename_i x' bs hx
    split at e
    ·cases e
    ·rename_i rest' bs' hr
     cases e;obtain ⟨g1,h1,h2⟩:=Hu I x hx (H 0 x v rfl rfl);obtain ⟨g2,h3,h4⟩:=Ba I rest hr (vs:=vr) (by simpa using hn) (fun i a v' ha hv=>H (i+1) a v' (by simpa using ha) (by simpa using hv));refine ⟨g1++g2,?_,h2.append h4⟩;simp only [kQ];exact ⟨v,vr,g1,g2,rfl,rfl,h1,h3⟩
end
end
end Go.Lx
namespace Go.Lx
section
variable {c:Cfg} {P:Program} {V:View} {μ:Id→Pl} {w:World}
theorem Lt {s:S} (I:Inv P V s.get μ w) {V0:View} {h0:Id→Option Blk} {μ0:Id→Pl} {w0:World} (E:Evo V0 h0 μ0 w0 V s.get μ w) (low:∀ i b,h0 i=some b→i.d < s.dep) {ex:Bool} {is:List Id} {gs:List EC}
  (G:qN s μ ex is gs) (hn:uX is=true):Loose P (Dn V s μ w ex) (Bo s).get μ w w0.heap.size gs:=by
 have facts:∀ {is gs},qN s μ ex is gs→∀ g,g∈gs→∃ i,i∈is∧ex=true∧i.d=s.dep∧s.get i=some (.arr g.2.1 false g.2.2)∧g.1=μ i:=by
  intro is gs G
  induction G with
  | nil=>intro g hg;cases hg
  | cons i sz xs is gs hex hd hi hr ih =>
   intro g hg;cases hg with
   | head=>exact ⟨i, .head _,hex,hd,hi,rfl⟩
   | tail _ hg=>obtain ⟨j,h1,h2⟩:=ih g hg;exact ⟨j, .tail _ h1,h2⟩
 refine ⟨?_,?_,?_⟩
 ·intro g hg;obtain ⟨i,_,hex,hd,hi,hp⟩:=facts G g hg;rw [hp];rcases I.blk i _ hi with B | ⟨b1,b2,b3,b4,cells,elem,b5,b6,hpl,ev,b7⟩
  ·exact .inl B
  ·have hv:∀ cc v,(Dn V s μ w ex).cell (μ i).blk cc v→V.cell (μ i).blk cc v:=by
    rintro cc v (q | ⟨_,_,_,_,_,_,q,_⟩)
    ·exact q
    ·rw [hex] at q;cases q
   exact .inr ⟨b1,b2,fun e cc v x=>b3 e cc v (hv cc v x),fun cc v x=>b4 cc v (hv cc v x),cells,elem,b5,b6,hpl,ev,fun k d hk=>⟨(b7 k d hk).1.mono nJ,(b7 k d hk).2⟩⟩
 ·intro g hg hnil;obtain ⟨i,_,hex,hd,hi,hp⟩:=facts G g hg;rw [hp] at hnil ⊢;refine ⟨?_,?_,oq.lt I ⟨i,_,hi,hnil,rfl⟩⟩
  ·rintro ⟨j,x,hx,hnj,hb⟩
   rw [qp] at hx;split at hx
   ·cases hx
   ·rename_i hne
    exact I.apart i j _ x hi hx (fun e=>hne (e ▸ hd)) hnil hnj hb.symm
  ·rcases E.place i _ hi hnil with ⟨b0,h1,_⟩ | h1
   ·have:=low i b0 h1;omega
   ·exact h1
 ·clear facts
  induction G with
  | nil=>exact .nil
  | cons i sz xs is gs hex hd hi hr ih =>
   simp only [uX,bF] at hn;refine List.pairwise_cons.2 ⟨?_,ih hn.2⟩;intro g hg n1 n2;have facts2:∀ {is gs},qN s μ ex is gs→∀ g,g∈gs→∃ i,i∈is∧i.d=s.dep∧s.get i=some (.arr g.2.1 false g.2.2)∧g.1=μ i:=by
    intro is gs G
    induction G with
    | nil=>intro g hg;cases hg
    | cons i sz xs is gs hex hd hi hr ih =>
     intro g hg;cases hg with
     | head=>exact ⟨i, .head _,hd,hi,rfl⟩
     | tail _ hg=>obtain ⟨j,h1,h2⟩:=ih g hg;exact ⟨j, .tail _ h1,h2⟩
   obtain ⟨j,hj,hdj,hij,hpj⟩:=facts2 hr g hg;have hne:i≠j:=by
    rintro rfl
    have:=aW.1 hn.1 i hj;simp at this
   simp only at n1 ⊢;rw [hpj] at n2 ⊢;exact I.apart i j _ _ hi hij hne n1 n2
theorem LK {t:TypeId} {cv v:Value} (h:(Instr.loadAt t cv).run P w = .ok v w):(do loadVar t (← asAddr cv):Sem Value).run P w = .ok v w:=by
 cases cv with
 | pointer a=>cases a with
  | none=>simp [Instr.loadAt,Instr.sureAddr,Result.andThen] at h
  | some a=>simpa [Instr.loadAt,Instr.sureAddr,asAddr] using h
 | _=>simp [Instr.loadAt,Instr.sureAddr,Result.andThen] at h
theorem Dz {f:FuncId} {env:Env} {s:S} {tmps:Array Value} (I:Inv c.P V s.get μ w) (R:pM c.P V s.get μ env tmps):∀ {rs:List ResultVar} {vs:List A},mi c f env s rs=some vs →
  ∃ cvs,(rs.mapM (fun r=>match r with | .tmp t=>pure (tmps.getD t undef) | .cell a t=>do loadVar t (← asAddr (tmps.getD a undef)):ResultVar→Sem Value)).run c.P w = .ok cvs w∧iy c.P V s.get μ vs cvs
 | [],vs,e=>by simp only [mi] at e;cases e;exact ⟨[],by simp, .nil⟩
 | .tmp t::rest,vs,e=>by
  simp only [mi] at e;split at e
  ·rename_i v vs' h1 h2
   cases e;obtain ⟨cvs,k1,k2⟩:=Dz I R h2;exact ⟨tmps.getD t undef::cvs,by rw [List.mapM_cons];simp only [Sem.run_bind,Sem.run_pure,Result.andThen_ok,k1], .cons _ _ _ _ (R t v h1) k2⟩
  ·cases e
 | .cell a t::rest,vs,e=>by
  simp only [mi] at e;split at e
  ·rename_i p sz h1 h2
   split at e
   ·rename_i v vs' h3 h4
    cases e;obtain ⟨cvs,k1,k2⟩:=Dz I R h4;obtain ⟨v',g1,g2⟩:=G7 I h2 h3 (R a p h1);have g3:=LK g1;simp only [Sem.run_bind] at g3;exact ⟨v'::cvs,by rw [List.mapM_cons];simp only [Sem.run_bind,g3,Result.andThen_ok,k1,Sem.run_pure], .cons _ _ _ _ g2 k2⟩
   ·cases e
  ·cases e
def oneOf:List A→A
 | [v]=>v
 | vs => .tup vs
theorem PR {f:FuncId} {fn:Func} {O:nY} {env:Env} {s:S} {a:Act} {r:Ret} (T:St c.P O env s a w) (e:xX c f fn.results.toList env s=some r) :
  ∃ cv,(results fn a.tmps).run c.P w = .ok cv w∧∃ V' μ' gs,dZ c.P V' (⟨[],O.out,r.chg⟩:S).get μ' r.val cv gs∧Inv c.P V' (⟨[],O.out,r.chg⟩:S).get μ' w ∧
   Loose c.P V' (⟨[],O.out,r.chg⟩:S).get μ' w O.w.heap.size gs∧Evo O.V O.h O.μ O.w V' (⟨[],O.out,r.chg⟩:S).get μ' w:=by
 obtain ⟨V,μ,I,R,E,hout,hn,hdf⟩:=T;have hdl:s.dep=O.out.length:=congrArg List.length hout;have low:∀ i b,O.h i=some b→i.d < s.dep:=fun i b h=>by rw [hdl];exact O.low i b h
 unfold xX at e;cases hr:mi c f env s fn.results.toList with
 | none=>rw [hr] at e;cases e
 | some vs =>
  rw [hr] at e;simp only at e;obtain ⟨cvs,k1,k2⟩:=Dz I R hr;have hlen:=k2.length;have key:∃ cv,(results fn a.tmps).run c.P w = .ok cv w∧iI c.P V s.get μ (oneOf vs) cv:=by
   have hm:(fn.results.mapM (fun r=>match r with | .tmp t=>pure (a.tmps.getD t undef) | .cell x t=>do loadVar t (← asAddr (a.tmps.getD x undef)):ResultVar→Sem Value)).run c.P w = .ok cvs.toArray w:=by
    rw [Array.mapM_eq_mapM_toList];simp only [Sem.run_map,k1];rfl
   refine ⟨if h:cvs.toArray.size=1 then cvs.toArray[0] else .tuple cvs.toArray,?_,?_⟩
   ·unfold results;rw [Sem.run_bind]
    erw [hm]
    rfl
   ·cases k2 with
    | nil=>exact .tup [] _ rfl (fun i d v h=>by simp at h)
    | cons v cv vs' cvs' r1 r2 =>
     cases r2 with
     | nil=>simpa [oneOf] using r1
     | cons v2 cv2 vs2 cvs2 r3 r4 =>
      have hne:¬ ((cv::cv2::cvs2).toArray.size=1):=by simp
      rw [dif_neg hne];exact .tup _ _ (by simpa using hlen) (fun i d v h1 h2=>(iy.cons _ _ _ _ r1 (.cons _ _ _ _ r3 r4)).get i d v h1 (by simpa using h2))
  obtain ⟨cv,h1,h2⟩:=key;have e':(match s.result (c.strict f) (c.exports f) (oneOf vs) with | none=>none | some (v,is)=>if uX is then some ⟨v,s.chg⟩ else none)=some r:=e
  replace e:=e'
  cases hres:s.result (c.strict f) (c.exports f) (oneOf vs) with
  | none=>rw [hres] at e;cases e
  | some q =>
   obtain ⟨v,is⟩:=q;rw [hres] at e;simp only at e;split at e
   ·rename_i hnd
    cases e;obtain ⟨gs,g1,g2⟩:=Hu I _ hres h2;refine ⟨cv,h1,Dn V s μ w (c.exports f),μ,gs,?_⟩;rw [← hout];exact ⟨g1,IG I _,Lt I E low g2 hnd,IE I _ E low⟩
   ·cases e
end
theorem EH:∀ (as:List A) (i t:Nat) (v:A),look (EG i as) t=some v→i≤t∧as[t - i]?=some v
 | [],i,t,v,h=>by cases h
 | a::as,i,t,v,h=>by
  simp only [EG,look] at h;split at h
  ·rename_i e
   subst e;cases h;exact ⟨bu _,by simp⟩
  ·obtain ⟨h1,h2⟩:=EH as (i+1) t v h;refine ⟨by omega,?_⟩;rw [show t - i=(t - (i+1))+1 from by omega];simpa using h2
theorem Et (out:Out):∀ i b,(uz out).get i=some b→i.d < out.length:=by
 intro i b h;have h1:=S.uN h;have h2:(uz out).dep=out.length:=rfl;rcases Nat.lt_or_ge i.d out.length with q | q
 ·exact q
 ·have e:i.d=(uz out).dep:=by omega
  unfold S.get at h;rw [if_pos e] at h;cases h
structure Returns (P:Program) (rs:List ResultVar) (env:Env) (s:S) (r:Ret):Prop where
 ex:(∃ (c:Cfg) (f:FuncId),c.P=P∧xX c f rs env s=some r)∨(∃ t x,rs=[.tmp t]∧look env t=some (.d x)∧r=⟨.d x,s.chg⟩)∨∃ t f cs,rs=[.tmp t]∧look env t=some (.clo f cs)∧A.lT cs=[]∧r=⟨.clo f cs,s.chg⟩
theorem bU.intro {P:Program} {g:FuncId} {fn:Func} {code:Code} {args:List A} {out:Out} {r:Ret} (hf:P.funcs[g]?=some fn) (hb:fn.body=some code) (hn:fn.name ≠ "runtime.NumGoroutine")
  (hok:codeOk fn.ntmps code=true) (hle:args.length≤fn.ntmps) (h:CWp P code (EG 0 args) ⟨[],out,[]⟩ (fun ex e s=>(match ex with | .exit _=>False | _=>True)∧Returns P fn.results.toList e s r)):bU P g args out r:=by
 refine ⟨⟨fn,hf,hn,by rw [hb];simp⟩,fun V μ w cargs I R=>?_⟩
 let O:nY:=⟨V,(uz out).get,μ,w,out,fn.ntmps,Et out⟩
 have hl:=R.length
 let a:Act:={ tmps:=cargs.toArray++Array.replicate (fn.ntmps - cargs.toArray.size) undef,defers:=[] }
 have T:St P O (EG 0 args) ⟨[],out,[]⟩ a w:=by
  refine ⟨V,μ,I,?_, .refl _ _ _ _,rfl,by simp [a,O];omega,rfl⟩;intro t v hv;obtain ⟨_,h2⟩:=EH args 0 t v hv;simp only [Nat.sub_zero] at h2;have ht:t < cargs.length:=by rw [hl];exact (aC.1 h2).1
  have hget:a.tmps.getD t undef=cargs[t]:=by
   simp only [a,Array.getD_eq_getD_getElem?];rw [Array.getElem?_append_left (by simpa using ht)];simp [ht]
  rw [hget];exact R.get t v _ h2 (ax ht)
 have fin:∀ env s,Returns P fn.results.toList env s r→∀ a' w',St P O env s a' w'→a'.defers=[]∧∃ v,(results fn a'.tmps).run P w' = .ok v w'∧H8 P V μ w out r v w':=by
  intro env s hret a' w' T';rcases hret.ex with ⟨c,f,hc,h0⟩ | ⟨t,x,hrs,hx,rfl⟩ | ⟨t,f,cs,hrs,hx,hids,rfl⟩
  case inr.inl =>
   obtain ⟨V1,μ1,I1,R1,E1,hout,hn1,hdf⟩:=T';have hdl:s.dep=O.out.length:=congrArg List.length hout;have low:∀ i b,O.h i=some b→i.d < s.dep:=fun i b h=>by rw [hdl];exact O.low i b h
   refine ⟨hdf,a'.tmps.getD t undef,?_,Dn V1 s μ1 w' false,μ1,[],?_⟩
   ·have hra:fn.results=#[.tmp t]:=by rw [← Array.toArray_toList (xs:=fn.results),hrs]
    simp [results,hra]
   ·have hout':s.out=out:=hout;subst hout';exact ⟨⟨rfl, .d _ _ ((R1 t _ hx).dOf.mono nJ)⟩,IG I1 _,⟨fun g hg=>(by cases hg),fun g hg=>(by cases hg), .nil⟩,IE I1 _ E1 low⟩
  case inr.inr =>
   obtain ⟨V1,μ1,I1,R1,E1,hout,hn1,hdf⟩:=T';have hdl:s.dep=O.out.length:=congrArg List.length hout;have low:∀ i b,O.h i=some b→i.d < s.dep:=fun i b h=>by rw [hdl];exact O.low i b h
   refine ⟨hdf,a'.tmps.getD t undef,?_,Dn V1 s μ1 w' false,μ1,[],?_⟩
   ·have hra:fn.results=#[.tmp t]:=by rw [← Array.toArray_toList (xs:=fn.results),hrs]
    simp [results,hra]
   ·have hout':s.out=out:=hout;subst hout';exact ⟨⟨rfl,((R1 t _ hx).mono nJ (fun i hi=>by have hi':i∈A.lT cs:=hi;rw [hids] at hi';cases hi'))⟩,IG I1 _,⟨fun g hg=>(by cases hg),fun g hg=>(by cases hg), .nil⟩,IE I1 _ E1 low⟩
  subst hc;obtain ⟨cv,h1,V',μ',gs,h2,h3,h4,h5⟩:=PR T' h0;obtain ⟨_,_,_,_,_,_,_,hdf⟩:=T';exact ⟨hdf,cv,h1,V',μ',gs,h2,h3,h4,h5⟩
 refine calls_of_wp hf hb (wp_mono (h.ok O a w hok T) ?_)
 rintro e1 a1 w1 ⟨ex,env,s,rfl,T1,hex,hr⟩
 cases ex with
 | norm=>exact fin env s hr a1 w1 T1
 | ret=>exact fin env s hr a1 w1 T1
 | exit id=>exact hex.elim
theorem fi {P:Program} {g:FuncId} {fn:Func} {code:Code} {args:List A} {out:Out} {r:Ret} (hf:P.funcs[g]?=some fn) (hb:fn.body=some code) (hn:(fn.name == "runtime.NumGoroutine")=false)
  (hok:codeOk fn.ntmps code=true) (hle:Nat.ble args.length fn.ntmps=true) (h:CWp P code (EG 0 args) ⟨[],out,[]⟩ (fun ex e s=>(match ex with | .exit _=>False | _=>True)∧Returns P fn.results.toList e s r)):bU P g args out r :=
 .intro hf hb (fun e=>by rw [e] at hn;simp at hn) hok (dQ hle) h
end Go.Lx
namespace Go.Lx
section
variable {c:Cfg} {f:FuncId} {call:FuncId→List A→Out→Option Ret}
theorem uD {env env':Nat→Option A}:∀ {xs:List Operand},(∀ x∈xs,ay env x=ay env' x)→dR env xs=dR env' xs
 | [],_=>rfl
 | x::xs,h=>by
  simp only [dR];rw [h x (.head _),uD (fun y hy=>h y (.tail _ hy))]
theorem xW {env env':Nat→Option A}:∀ {xs:List (Nat×Operand)},(∀ x∈xs.map (·.2),ay env x=ay env' x)→oH env xs=oH env' xs
 | [],_=>rfl
 | (i,x)::xs,h=>by
  simp only [oH];rw [h x (by simp),xW (fun y hy=>h y (by simp at hy ⊢;exact .inr hy))]
theorem NH {env env':Nat→Option A} {s:S} (o:Oper) (h:∀ x∈o.op.operands,ay env x=ay env' x):nT c f call env s o=nT c f call env' s o:=by
 obtain ⟨dst,op,type,pos,after,guard⟩:=o;cases op<;>simp only [Op.operands] at h<;>simp only [nT]
 case build t ps=>rw [xW (xs:=ps.toList) (env:=env) (env':=env') fun x hx=>h x (by simpa using hx)]
 case buildSlice t n ps=>rw [xW (xs:=ps.toList) (env:=env) (env':=env') fun x hx=>h x (by simpa using hx)]
 case makeFunc fn first captured =>
  cases fn<;>simp only []
  rw [uD (xs:=captured.toList) (env:=env) (env':=env') fun x hx=>h x (by simp;exact .inr (by simpa using hx))]
 case call k =>
  simp only [BG];have h1:dR env k.args.toList=dR env' k.args.toList:=uD fun x hx=>h x (by simp [Call.operands];exact .inr (by simpa using hx))
  rw [h1];cases hc:k.callee with
  | value y=>simp only [h y (by simp [Call.operands,hc])]
  | _=>rfl
 case pick k y z =>
  rw [h k (by simp)];split
  ·rename_i b _
   cases b
   ·simp [h z (by simp)]
   ·simp [h y (by simp)]
  ·rfl
 case slice t x lo hi mx=>cases lo<;>cases hi<;>cases mx<;>simp_all
 all_goals (first | rfl | (simp_all;done))
theorem Ho {env:Env} {s s2:S} {x:Operand} {v:A} (h:wP env x=true) (hv:ay (look env) x=some v):lW s v=lW s2 v:=by
 cases x with
 | tmp t =>
  simp only [ay] at hv;simp only [wP,hv] at h;cases v<;>first | rfl | (rename_i xs;cases xs<;>rfl) | cases h
 | const k =>
  simp only [ay] at hv;cases hk:ofValue k with
  | none=>rw [hk] at hv;cases hv
  | some d=>rw [hk] at hv;cases hv;rfl
 | func g=>cases hv;rfl
 | global g=>cases hv
theorem FH {env:Env} {x:Operand} {v:A} (h:wP env x=true) (hv:ay (look env) x=some v):(∃ d,v = .d d)∨∃ xs,v = .tight xs:=by
 cases x with
 | tmp t =>
  simp only [ay] at hv;simp only [wP,hv] at h;cases v<;>first | exact .inl ⟨_,rfl⟩ | exact .inr ⟨_,rfl⟩ | cases h
 | const k =>
  simp only [ay] at hv;cases hk:ofValue k with
  | none=>rw [hk] at hv;cases hv
  | some d=>rw [hk] at hv;cases hv;exact .inl ⟨_,rfl⟩
 | func g=>cases hv;exact .inl ⟨_,rfl⟩
 | global g=>cases hv
theorem NP {v:A} (h:(∃ d,v = .d d)∨∃ xs,v = .tight xs):∃ x,∀ s:S,s.toD v=some (x,none):=by
 rcases h with ⟨d,rfl⟩ | ⟨xs,rfl⟩
 ·exact ⟨d,fun s=>rfl⟩
 ·exact ⟨.sl xs,fun s=>rfl⟩
theorem FM {env:Env}:∀ {xs:List (Nat×Operand)} {ps:List (Nat×A)},xs.all (fun x=>wP env x.2)=true→oH (look env) xs=some ps →
  ∃ ds,∀ s:S,tV s ps=some (ds,none)
 | [],ps,h,e=>by simp only [oH] at e;cases e;exact ⟨[],fun s=>rfl⟩
 | (i,x)::xs,ps,h,e=>by
  simp only [List.all_cons,bF] at h;simp only [oH] at e;split at e
  ·rename_i v vs h1 h2
   cases e;obtain ⟨ds,hds⟩:=FM h.2 h2;obtain ⟨y,hy⟩:=NP (FH h.1 h1);refine ⟨(i,y)::ds,fun s=>?_⟩;simp only [tV,hy,S.ok,Option.getD_none,hds];rfl
  ·cases e
theorem Jz {s s2:S} {t:TypeId} {u n:A} (h:(∃ d,u = .d d)∨∃ xs,u = .tight xs):fJ c s t u n=fJ c s2 t u n:=by
 unfold fJ;cases n<;>try rfl
 rename_i m
 cases m<;>try rfl
 simp only [];cases fJ.P' c t with
 | none=>rcases h with ⟨d,rfl⟩ | ⟨xs,rfl⟩<;>rfl
 | some ty =>
  rcases h with ⟨d,rfl⟩ | ⟨xs,rfl⟩
  ·cases ty<;>cases d<;>rfl
  ·cases ty<;>rfl
theorem IB {env:Env} {x:Operand} {v:A} (h:Fp env x=true) (hv:ay (look env) x=some v):(∃ d,v = .d d)∨∃ e o,v = .pimm e o:=by
 cases x with
 | tmp t =>
  simp only [ay] at hv;simp only [Fp,hv] at h;cases v<;>first | exact .inl ⟨_,rfl⟩ | exact .inr ⟨_,_,rfl⟩ | cases h
 | _=>cases h
theorem Tj {s s2:S} {t:TypeId} {u n:A} (h:(∃ d,u = .d d)∨∃ e o,u = .pimm e o):fJ c s t u n=fJ c s2 t u n:=by
 rcases h with h | ⟨e,o,rfl⟩
 ·exact Jz (.inl h)
 ·unfold fJ;cases n<;>try rfl
  rename_i m
  cases m<;>try rfl
  simp only [];cases fJ.P' c t with
  | none=>rfl
  | some ty=>cases ty<;>rfl
theorem QU {s s2:S} {agg:Bool} {sz:Nat} {u:A} (h:(∃ d,u = .d d)∨∃ e o,u = .pimm e o):nZ s agg sz u=nZ s2 agg sz u:=by
 rcases h with ⟨d,rfl⟩ | ⟨e,o,rfl⟩
 ·cases d<;>rfl
 ·rfl
theorem Q5 {env:Env} {s s2:S} {o:Oper} {v:A} (hc:∀ k,o.op ≠ .call k) (h:eG env o.op=false) (e:nT c f call (look env) s o=some (v, .same)):nT c f call (look env) s2 o=some (v, .same):=by
 obtain ⟨dst,op,type,pos,after,guard⟩:=o;cases op
 case call k=>exact absurd rfl (hc k)
 case slice t x lo hi mx =>
  simp only [nT] at e ⊢;simp only [eG,jF] at h;split at e
  ·rename_i u l hh m hu hl hhh hm
   rcases FH h hu with ⟨d,rfl⟩ | ⟨xs,rfl⟩
   ·cases d<;>exact e
   ·exact e
  ·cases e
 case indexAddr t x ix =>
  simp only [nT] at e ⊢;simp only [eG,jF] at h;simp only [jl] at h;split at e
  ·rename_i u n hu hn
   rcases h with h | h
   ·rw [← Jz (s:=s) (s2:=s2) (FH h hu)];exact e
   ·rw [← Tj (s:=s) (s2:=s2) (IB h hu)];exact e
  ·cases e
 case load t x =>
  simp only [nT] at e ⊢;simp only [eG,jF] at h;split at e
  ·rename_i p sz hp hsz
   rw [← QU (s:=s) (s2:=s2) (IB h hp)];exact e
  ·cases e
 case binOp op t x y t2 =>
  simp only [nT] at e ⊢;simp only [eG,jF,bF] at h;split at e
  ·rename_i u n hu hn
   rw [← Ho (s:=s) (s2:=s2) h.1 hu,← Ho (s:=s) (s2:=s2) h.2 hn];exact e
  ·cases e
 case buildSlice t len parts =>
  simp only [nT] at e ⊢;simp only [eG,jF] at h;split at e
  ·rename_i ps hps
   have hall:parts.toList.all (fun x=>wP env x.2)=true:=by simpa using h
   obtain ⟨ds,hds⟩:=FM hall hps;simp only [qc,hds] at e ⊢;split at e
   ·cases e
   ·split at e
    ·rename_i sz z q o hsz hz hq
     cases hq;split at e
     ·rename_i hc1
      rw [if_pos hc1];split at e
      ·cases e
      ·split at e
       ·split at e
        ·cases e
        ·rename_i hm
         rw [if_neg hm];exact e
       ·cases e
     ·cases e
    ·cases e
  ·cases e
 case assign x =>
  simp only [nT] at e ⊢;split at e
  ·split at e
   ·rename_i hk
    rw [if_pos hk];exact e
   ·rename_i hk
    rw [if_neg hk];split at e
    ·cases e
    ·exact e
  ·exact e
  ·cases e
 case makeFunc fn first captured=>cases fn<;>exact e
 all_goals first | (simp [eG] at h;done) | (simp only [nT] at e ⊢;exact e) | exact e
end
end Go.Lx
namespace Go.Lx
section
variable {c:Cfg} {f:FuncId} {call:FuncId→List A→Out→Option Ret}
theorem Pi {s s2:S} {t:TypeId} {x:A} (h:∀ i,x ≠ .mref i):Gn c s t x=Gn c s2 t x:=by
 unfold Gn;cases c.P.underlying t with
 | none=>cases x<;>rfl
 | some ty =>
  cases x with
  | d y=>cases ty<;>cases y<;>rfl
  | mref i=>exact absurd rfl (h i)
  | _=>cases ty<;>rfl
theorem NW {env:Env} {s s2:S} {o:Oper} {k:Call} {v:A} (hc:o.op = .call k) (h:eG env o.op=false) (e:nT c f call (look env) s o=some (v, .same)):nT c f call (look env) s2 o=some (v, .same):=by
 obtain ⟨dst,op,type,pos,after,guard⟩:=o;simp only at hc;subst hc;obtain ⟨callee,args,ts⟩:=k;cases callee with
 | builtin b =>
  cases b<;>first | (simp [eG] at h;done) | skip
  case len =>
   simp only [nT,BG] at e ⊢;simp only [eG,jF] at h;split at e
   ·cases e
   ·rename_i as has
    cases as with
    | nil=>exfalso;revert e;simp only [jH];cases ts.toList<;>simp
    | cons x rest =>
     cases rest with
     | cons y r=>exfalso;revert e;simp only [jH];cases ts.toList<;>simp
     | nil =>
      have hx:∀ i,x ≠ .mref i:=by
       rintro i rfl
       cases hl:args.toList with
       | nil=>rw [hl] at has;simp [dR] at has
       | cons p ps =>
        rw [hl] at has h;simp only [dR] at has;split at has
        ·rename_i u us h1 h2
         cases has;simp only [List.all_cons,bF] at h;have h3:=h.1;cases p with
         | tmp t =>
          simp only [ay] at h1;simp only [h1,wP] at h3;cases h3
         | const q =>
          simp only [ay] at h1;cases hq:ofValue q<;>(rw [hq] at h1;cases h1)
         | func g=>cases h1
         | global g=>cases h1
        ·cases has
      simp only [jH] at e ⊢;cases hts:ts.toList with
      | nil=>rw [hts] at e;cases e
      | cons t tr =>
       rw [hts] at e;simp only at e ⊢;rw [← Pi (s:=s) (s2:=s2) hx];exact e
  case min =>
   simp only [nT,BG] at e ⊢;split at e
   ·cases e
   ·rename_i as _
    simp only [jH] at e ⊢;generalize ts.toList=l at e ⊢;rcases l with _ | ⟨t,_ | ⟨t2,_ | ⟨t3,l⟩⟩⟩<;>rcases as with _ | ⟨x,_ | ⟨y,_ | ⟨z,r⟩⟩⟩<;>first | exact e | (cases x<;>exact e)
  case max =>
   simp only [nT,BG] at e ⊢;split at e
   ·cases e
   ·rename_i as _
    simp only [jH] at e ⊢;generalize ts.toList=l at e ⊢;rcases l with _ | ⟨t,_ | ⟨t2,_ | ⟨t3,l⟩⟩⟩<;>rcases as with _ | ⟨x,_ | ⟨y,_ | ⟨z,r⟩⟩⟩<;>first | exact e | (cases x<;>exact e)
 | _=>simp [eG] at h
end
end Go.Lx
namespace Go.Lx
section
variable {P:Program} {V V':View} {μ μ':Id→Pl} {w w':World} {hB hS h':Id→Option Blk}
def Aa (h' hB:Id→Option Blk):Id→Option Blk:=fun i=>match h' i with | some b=>some b | none=>hB i
def Dk (h':Id→Option Blk) (μ' μ:Id→Pl):Id→Pl:=fun i=>match h' i with | some _=>μ' i | none=>μ i
theorem sZ {i:Id} {b:Blk} (h:h' i=some b):Aa h' hB i=some b:=by unfold Aa;rw [h]
theorem rf {i:Id} (h:h' i=none):Aa h' hB i=hB i:=by unfold Aa;rw [h]
theorem nP {i:Id} {b:Blk} (h:h' i=some b):Dk h' μ' μ i=μ' i:=by unfold Dk;rw [h]
theorem tq {i:Id} (h:h' i=none):Dk h' μ' μ i=μ i:=by unfold Dk;rw [h]
theorem Inv.join (I:Inv P V hB μ w) (hs:∀ i b,hS i=some b→hB i=some b) (I':Inv P V' h' μ' w') (E:Evo V hS μ w V' h' μ' w') (hnew:∀ i b,h' i=some b→hS i=none→hB i=none) :
  Inv P V' (Aa h' hB) (Dk h' μ' μ) w'∧Evo V hB μ w V' (Aa h' hB) (Dk h' μ' μ) w':=by
 have hkeepS:∀ i,h' i=none→hS i=none:=by
  intro i hi;cases hq:hS i with
  | none=>rfl
  | some b=>obtain ⟨b',h1,_⟩:=E.keep i b hq;rw [hi] at h1;cases h1
 have K':∀ j b,h' j=some b→∃ b',Aa h' hB j=some b'∧qo b (μ' j) b' (Dk h' μ' μ j):=fun j b hj=>⟨b,sZ hj,by rw [nP hj];exact .refl _ _⟩
 have K:∀ j b,hB j=some b→∃ b',Aa h' hB j=some b'∧qo b (μ j) b' (Dk h' μ' μ j):=by
  intro j b hj;cases hq:h' j with
  | none=>exact ⟨b,by rw [rf hq];exact hj,by rw [tq hq];exact .refl _ _⟩
  | some b' =>
   refine ⟨b',sZ hq,?_⟩;rw [nP hq];cases hz:hS j with
   | none=>rw [hnew j b' hq hz] at hj;cases hj
   | some b0 =>
    have:=hs j b0 hz;rw [hj] at this;cases this;obtain ⟨b2,h1,h2⟩:=E.keep j b hz;rw [hq] at h1;cases h1;exact h2
 have notOwned:∀ i b,h' i=none→hB i=some b→(μ i).nil=false→¬ oq hS μ (μ i).blk:=by
  rintro i b hi hb hn ⟨j,x,hx,hnj,hbj⟩
  exact I.apart i j b x hb (hs j x hx) (fun e=>by rw [← e,hkeepS i hi] at hx;cases hx) hn hnj hbj.symm
 have heap:∀ i b,h' i=none→hB i=some b→(μ i).nil=false→w'.heap[(μ i).blk]?=w.heap[(μ i).blk]?:=fun i b hi hb hn =>
  E.rest _ (oq.lt I ⟨i,b,hb,hn,rfl⟩) (notOwned i b hi hb hn)
 have cellc:∀ i b,h' i=none→hB i=some b→(μ i).nil=false→∀ c v,V'.cell (μ i).blk c v→V.cell (μ i).blk c v:=by
  intro i b hi hb hn c v hv;rcases E.newc _ _ _ hv with q | q | q
  ·exact q
  ·exact absurd q (notOwned i b hi hb hn)
  ·have:=oq.lt I ⟨i,b,hb,hn,rfl⟩;omega
 have mapc:∀ i b,h' i=none→hB i=some b→(μ i).nil=false→∀ e c,V'.map (μ i).blk e c→V.map (μ i).blk e c:=by
  intro i b hi hb hn e c hv;rcases E.newm _ _ _ hv with q | q | q
  ·exact q
  ·exact absurd q (notOwned i b hi hb hn)
  ·have:=oq.lt I ⟨i,b,hb,hn,rfl⟩;omega
 refine ⟨⟨?_,?_,I'.cell,I'.map,?_⟩,⟨E.os,E.tape,E.output,E.size,?_,E.view,?_,?_,?_,K⟩⟩
 ·intro i b hi;cases hq:h' i with
  | some b' =>
   rw [sZ hq] at hi;cases hi;rw [nP hq];exact (I'.blk i b hq).mono K'
  | none =>
   rw [rf hq] at hi;rw [tq hq];have B:=(I.blk i b hi).mono K;cases b with
   | arr sz l xs =>
    rcases B with B | ⟨b1,b2,b3,b4,cells,elem,b5,b6,hpl,ev,b7⟩
    ·exact .inl B
    ·exact .inr ⟨b1,b2,fun e c v x=>b3 e c v (cellc i _ hq hi b1 c v x),fun c v x=>b4 c v (cellc i _ hq hi b1 c v x),cells,elem,(heap i _ hq hi b1).trans b5,b6,hpl,ev,
      fun k d hd=>⟨(b7 k d hd).1.mono E.view,(b7 k d hd).2⟩⟩
   | box cs =>
    obtain ⟨b1,b3,cells,elem,b5,b6,b7⟩:=B;exact ⟨b1,fun c v x=>b3 c v (cellc i _ hq hi b1 c v x),cells,elem,(heap i _ hq hi b1).trans b5,b6,fun k a v ha hv=>⟨(b7 k a v ha hv).1.mono E.view (fun j _ b hb=>⟨b,hb, .refl _ _⟩),(b7 k a v ha hv).2⟩⟩
   | map kt l es =>
    obtain ⟨b1,b3,en,b5,b6,b7,b8⟩:=B;exact ⟨b1,fun e x c v=>b3 e x c (mapc i _ hq hi b1 x c v),en,(heap i _ hq hi b1).trans b5,b6,fun k e m he hm=>⟨(b7 k e m he hm).1.mono E.view,(b7 k e m he hm).2.1.mono E.view,(b7 k e m he hm).2.2⟩,b8⟩
   | nest sz xs =>
    rcases B with B | ⟨b1,b2,b3,cells,elem,b5,b6,hpl,b7⟩
    ·exact .inl B
    ·exact .inr ⟨b1,b2,fun c v x=>b3 c v (cellc i _ hq hi b1 c v x),cells,elem,(heap i _ hq hi b1).trans b5,b6,hpl,fun k e he=>⟨(b7 k e he).1,fun q a v ha hv=>((b7 k e he).2 q a v ha hv).mono E.view (fun j _ b hb=>⟨b,hb, .refl _ _⟩)⟩⟩
   | fam _=>exact B.elim
   | gap=>exact B
   | tail sz2 g2 xs2 =>
    rcases B with B | ⟨b1,b2,b3,c2,e2,b5,b6,hpl2,ev2,b7⟩
    ·exact .inl B
    ·exact .inr ⟨b1,b2,fun c v x=>b3 c v (cellc i _ hq hi b1 c v x),c2,e2,(heap i _ hq hi b1).trans b5,b6,hpl2,ev2,fun k e he=>⟨(b7 k e he).1.mono E.view,(b7 k e he).2⟩⟩
 ·have mixed:∀ i j b b',h' i=some b→h' j=none→hB j=some b'→(μ' i).nil=false→(μ j).nil=false→(μ' i).blk≠(μ j).blk:=by
   intro i j b b' hi hj hbj n1 n2;rcases E.place i b hi n1 with ⟨b0,h1,h2,h3⟩ | h1
   ·rw [← h3];exact I.apart i j b0 b' (hs i b0 h1) hbj (fun e=>by rw [e,hkeepS j hj] at h1;cases h1) h2 n2
   ·have:=oq.lt I ⟨j,b',hbj,n2,rfl⟩;omega
  intro i j b b' hi hj hne n1 n2;cases hq:h' i with
  | some x =>
   rw [nP hq] at n1 ⊢;cases hz:h' j with
   | some y =>
    rw [nP hz] at n2 ⊢;exact I'.apart i j x y hq hz hne n1 n2
   | none =>
    rw [tq hz] at n2 ⊢;rw [rf hz] at hj;exact mixed i j x b' hq hz hj n1 n2
  | none =>
   rw [tq hq] at n1 ⊢;rw [rf hq] at hi;cases hz:h' j with
   | some y =>
    rw [nP hz] at n2 ⊢;exact fun e=>mixed j i y b hz hq hi n2 n1 e.symm
   | none =>
    rw [tq hz] at n2 ⊢;rw [rf hz] at hj;exact I.apart i j b b' hi hj hne n1 n2
 ·intro i cs hi;cases hq:h' i with
  | some x=>rw [sZ hq] at hi;cases hi;exact I'.tidy i cs hq
  | none=>rw [rf hq] at hi;exact I.tidy i cs hi
 ·intro b hb ho;exact E.rest b hb (fun ⟨j,x,hx,hn,hbj⟩=>ho ⟨j,x,hs j x hx,hn,hbj⟩)
 ·intro b c v hv;rcases E.newc b c v hv with q | ⟨j,x,hx,hn,hbj⟩ | q
  ·exact .inl q
  ·exact .inr (.inl ⟨j,x,hs j x hx,hn,hbj⟩)
  ·exact .inr (.inr q)
 ·intro b c v hv;rcases E.newm b c v hv with q | ⟨j,x,hx,hn,hbj⟩ | q
  ·exact .inl q
  ·exact .inr (.inl ⟨j,x,hs j x hx,hn,hbj⟩)
  ·exact .inr (.inr q)
 ·intro i b hi hn;cases hq:h' i with
  | some x =>
   rw [nP hq] at hn ⊢;rcases E.place i x hq hn with ⟨b0,h1,h2,h3⟩ | h1
   ·exact .inl ⟨b0,hs i b0 h1,h2,h3⟩
   ·exact .inr h1
  | none =>
   rw [tq hq] at hn ⊢;rw [rf hq] at hi;exact .inl ⟨b,hi,hn,rfl⟩
end
end Go.Lx
namespace Go.Lx
abbrev Facts:=List (Id×Blk)
inductive Nu:List A→List A→Prop where
 | n:Nu [] []
 | s {a:A} {xs ys:List A} (k:Nu xs ys):Nu (a::xs) (a::ys)
 | u {a:A} {xs ys:List A} (k:Nu xs ys):Nu (.undef::xs) (a::ys)
def Pat (b b':Blk):Prop:=b=b'∨∃ cs cs',b = .box cs∧b' = .box cs'∧Nu cs cs'
def Be (s:S) (F:Facts):Prop:=∀ p,p∈F→p.2 = .gap∨∃ b,s.get p.1=some b∧Pat p.2 b
def kOf:Facts→Nat
 | []=>1000000
 | (i, .gap)::_=>i.t
 | _::F=>kOf F
def QR (b:List Nat) (F:Facts) (i:Nat):Bool:=(List.range b.length).all fun m=>Nat.blt m (kOf F) || (b.getD m 0).testBit i
theorem Kv {s:S} {K:Nat} {F:Facts} (k:Be s F):Be s ((⟨0,K,0⟩, .gap)::F):=fun p hp=>by
 cases hp with
 | head=>exact .inl rfl
 | tail _ hp=>exact k p hp
theorem I7 {s:S}:Be s []:=fun p h=>by cases h
theorem Ku {s:S} {i:Id} {b:Blk} {F:Facts} (h:s.get i=some b) (k:Be s F):Be s ((i,b)::F):=fun p hp=>by
 cases hp with
 | head=>exact .inr ⟨b,h, .inl rfl⟩
 | tail _ hp=>exact k p hp
theorem Kw {s:S} {i:Id} {cs cs':List A} {F:Facts} (h:s.get i=some (.box cs')) (hp:Nu cs cs') (k:Be s F):Be s ((i, .box cs)::F):=fun p hp'=>by
 cases hp' with
 | head=>exact .inr ⟨_,h, .inr ⟨cs,cs',rfl,rfl,hp⟩⟩
 | tail _ hp'=>exact k p hp'
theorem Nu.ids {cs cs':List A} (h:Nu cs cs') {j:Id} (hj:j∈A.lT cs):j∈A.lT cs':=by
 induction h with
 | n=>exact hj
 | s k ih =>
  simp only [A.lT,aU] at hj ⊢;exact hj.imp id ih
 | u k ih =>
  simp only [A.lT,A.ids,mf,aU] at hj ⊢;exact .inr (ih hj)
theorem Nu.get {cs cs':List A} (h:Nu cs cs'):∀ {off:Nat} {v:A},cs[off]?=some v→(v = .undef→False)→cs'[off]?=some v:=by
 induction h with
 | n=>intro off v e _;simp at e
 | s k ih =>
  intro off v e hu;cases off with
  | zero=>simpa using e
  | succ off=>simpa using ih (by simpa using e) hu
 | u k ih =>
  intro off v e hu;cases off with
  | zero=>simp at e;exact absurd e.symm hu
  | succ off=>simpa using ih (by simpa using e) hu
structure Su (P:Program) (F:Facts) (env:Env) (o:Oper) (v:A) (dl:Delta):Prop where
 same:dl = .same
 ok:∀ s,Be s F→iJ P env s o v .same
 ids:∀ j,j∈v.ids→∃ p,p∈F∧p.2 ≠ .gap∧(p.1=j∨∃ cs,p.2 = .box cs∧j∈A.lT cs)
inductive Kr (P:Program) (F:Facts) (ops:List Oper) (b:List Nat):List (Nat×Oper)→List (Nat×Loc)→Env→S→Env→S→List Nat→List Nat→Prop where
 | nil (adds:List (Nat×Loc)) (env:Env) (s:S):Kr P F ops b [] adds env s env (s.plus (ou adds)) [] []
 | skip {i:Nat} {o:Oper} {rest:List (Nat×Oper)} {adds:List (Nat×Loc)} {env env':Env} {s s':S} {m r:List Nat} (hg:jZ ops env o=some false) (h:Kr P F ops b rest adds (yB o.dst .undef env) s env' s' m r) :
   Kr P F ops b ((i,o)::rest) adds env s env' s' m r
 | same {i:Nat} {o:Oper} {rest:List (Nat×Oper)} {adds:List (Nat×Loc)} {env env':Env} {s s':S} {m r:List Nat} {v:A} (hg:jZ ops env o=some true) (ho:iJ P env (s.plus (qE b i adds)) o v .same)
   (h:Kr P F ops b rest adds (yB o.dst v env) s env' s' m r):Kr P F ops b ((i,o)::rest) adds env s env' s' m (if eG env o.op then i::r else r)
 | add {i:Nat} {o:Oper} {rest:List (Nat×Oper)} {adds:List (Nat×Loc)} {env env':Env} {s s':S} {m r:List Nat} {v:A} {bs:Loc} (hg:jZ ops env o=some true) (ho:iJ P env (s.plus (qE b i adds)) o v (.add bs))
   (hf:uU (ou adds++s.loc) bs=true) (h:Kr P F ops b rest ((i,bs)::adds) (yB o.dst v env) s env' s' m r):Kr P F ops b ((i,o)::rest) adds env s env' s' m (i::r)
 | set {i:Nat} {o:Oper} {rest:List (Nat×Oper)} {adds:List (Nat×Loc)} {env env':Env} {s s1 s':S} {m r:List Nat} {v:A} (hg:jZ ops env o=some true) (ho:iJ P env (s.plus (qE b i adds)) o v (.set s1))
   (hs:CV b i adds=true) (hf:kOf F≤i∨Be s1 F) (h:Kr P F ops b rest [] (yB o.dst v env) s1 env' s' m r):Kr P F ops b ((i,o)::rest) adds env s env' s' (i::m) (if eG env o.op then i::r else r)
 | loc {i:Nat} {o:Oper} {rest:List (Nat×Oper)} {adds:List (Nat×Loc)} {env env':Env} {s s':S} {m r:List Nat} {v:A} (hg:jZ ops env o=some true) (ho:iJ P env (s.plus (qE b i adds)) o v .same) (hl:Su P F env o v .same) (ht:QR b F i=true)
   (h:Kr P F ops b rest adds (yB o.dst v env) s env' s' m r):Kr P F ops b ((i,o)::rest) adds env s env' s' m r
structure Rec where
 env:Env
 base:S
 adds:List (Nat×Loc)
 val:A
 dl:Option Delta
section
variable {P:Program}
def DL (P:Program) (F:Facts) (ops:List Oper) (b:List Nat) (mv rd:List Nat) (j:Nat) (o:Oper) (r r':Rec):Prop :=
 r'.env=yB o.dst r.val r.env ∧
 match r.dl with
 | none=>jZ ops r.env o=some false∧r.val = .undef∧r'.base=r.base∧r'.adds=r.adds
 | some dl=>jZ ops r.env o=some true∧iJ P r.env (r.base.plus (qE b j r.adds)) o r.val dl∧((eG r.env o.op || dl.QP)=true→j∈rd∨(Su P F r.env o r.val dl∧QR b F j=true)) ∧
  match dl with
  | .same=>r'.base=r.base∧r'.adds=r.adds
  | .add bs=>uU (ou r.adds++r.base.loc) bs=true∧r'.base=r.base∧r'.adds=(j,bs)::r.adds
  | .set s'=>CV b j r.adds=true∧r'.base=s'∧r'.adds=[]∧j∈mv∧(kOf F≤j∨Be s' F)
theorem DL.mono {F:Facts} {ops:List Oper} {b mv rd mv' rd':List Nat} {j:Nat} {o:Oper} {r r':Rec} (h:DL P F ops b mv rd j o r r') (h1:∀ x,x∈mv→x∈mv') (h2:∀ x,x∈rd→x∈rd'):DL P F ops b mv' rd' j o r r':=by
 obtain ⟨e,h⟩:=h;refine ⟨e,?_⟩;cases hd:r.dl with
 | none=>rw [hd] at h;exact h
 | some dl =>
  rw [hd] at h;obtain ⟨k1,k2,k3,k4⟩:=h;refine ⟨k1,k2,fun q=>(k3 q).imp (h2 _) id,?_⟩;cases dl with
  | same=>exact k4
  | add bs=>exact k4
  | set s'=>exact ⟨k4.1,k4.2.1,k4.2.2.1,h1 _ k4.2.2.2.1,k4.2.2.2.2⟩
theorem trace (F:Facts) (ops:List Oper) (b:List Nat):∀ (l:List Oper) (k:Nat) {adds:List (Nat×Loc)} {env env':Env} {s s':S} {mv rd:List Nat},Kr P F ops b (mM k l) adds env s env' s' mv rd →
  ∃ tr:Nat→Rec,(tr k).env=env∧(tr k).base=s∧(tr k).adds=adds∧(∀ (j:Nat) o,l[j]?=some o→DL P F ops b mv rd (k+j) o (tr (k+j)) (tr (k+j+1))) ∧
   (tr (k+l.length)).env=env'∧s'=(tr (k+l.length)).base.plus (ou (tr (k+l.length)).adds)
 | [],k,adds,env,env',s,s',mv,rd,e=>by
  simp only [mM] at e;cases e;exact ⟨fun _=>⟨env,s,adds, .undef,none⟩,rfl,rfl,rfl,fun j o h=>by simp at h,rfl,rfl⟩
 | o::l,k,adds,env,env',s,s',mv,rd,e=>by
  simp only [mM] at e;have build:∀ (r:Rec) (mv1 rd1:List Nat) (adds1:List (Nat×Loc)) (env1:Env) (s1:S),r.env=env→r.base=s→r.adds=adds→Kr P F ops b (mM (k+1) l) adds1 env1 s1 env' s' mv1 rd1 →
    (∀ x,x∈mv1→x∈mv)→(∀ x,x∈rd1→x∈rd)→(∀ r':Rec,r'.env=env1→r'.base=s1→r'.adds=adds1→DL P F ops b mv rd k o r r') →
    ∃ tr:Nat→Rec,(tr k).env=env∧(tr k).base=s∧(tr k).adds=adds∧(∀ (j:Nat) o',(o::l)[j]?=some o'→DL P F ops b mv rd (k+j) o' (tr (k+j)) (tr (k+j+1))) ∧
     (tr (k+(o::l).length)).env=env'∧s'=(tr (k+(o::l).length)).base.plus (ou (tr (k+(o::l).length)).adds):=by
   intro r mv1 rd1 adds1 env1 s1 e1 e2 e3 he hm hr hst;obtain ⟨tr,t1,t2,t3,t4,t5,t6⟩:=trace F ops b l (k+1) he;refine ⟨fun n=>if n=k then r else tr n,by simp [e1],by simp [e2],by simp [e3],?_,?_,?_⟩
   ·intro j o' ho;cases j with
    | zero =>
     simp at ho;subst ho;simpa using hst (tr (k+1)) t1 t2 t3
    | succ j =>
     have:=(t4 j o' (by simpa using ho)).mono hm hr;have n1:¬ (k+(j+1)=k):=by omega
     have n2:¬ (k+(j+1)+1=k):=by omega
     simp only [if_neg n1,if_neg n2];rw [show k+(j+1)=k+1+j from by omega];exact this
   ·have n1:¬ (k+(o::l).length=k):=by simp
    simp only [if_neg n1];rw [show k+(o::l).length=k+1+l.length from by simp;omega];exact t5
   ·have n1:¬ (k+(o::l).length=k):=by simp
    simp only [if_neg n1];rw [show k+(o::l).length=k+1+l.length from by simp;omega];exact t6
  cases e with
  | skip hg h=>exact build ⟨env,s,adds, .undef,none⟩ mv rd _ _ _ rfl rfl rfl h (fun _ h=>h) (fun _ h=>h) (fun r' h1 h2 h3=>⟨h1,hg,rfl,h2,h3⟩)
  | @same _ _ _ _ _ _ _ _ _ r v hg ho h =>
   exact build ⟨env,s,adds,v,some .same⟩ _ r _ _ _ rfl rfl rfl h (fun _ h=>h) (fun x h=>by split;exact .tail _ h;exact h)
    (fun r' h1 h2 h3=>⟨h1,hg,ho,fun q=>by simp only [Delta.QP,Bool.or_false] at q;rw [if_pos q];exact .inl (.head _),h2,h3⟩)
  | @add _ _ _ _ _ _ _ _ _ r v bs hg ho hf h =>
   exact build ⟨env,s,adds,v,some (.add bs)⟩ _ r _ _ _ rfl rfl rfl h (fun _ h=>h) (fun x h => .tail _ h)
    (fun r' h1 h2 h3=>⟨h1,hg,ho,fun _ => .inl (.head _),hf,h2,h3⟩)
  | @set _ _ _ _ _ _ _ s1 _ m r v hg ho hs hf h =>
   exact build ⟨env,s,adds,v,some (.set s1)⟩ m r _ _ _ rfl rfl rfl h (fun _ h => .tail _ h) (fun x h=>by split;exact .tail _ h;exact h)
    (fun r' h1 h2 h3=>⟨h1,hg,ho,fun q=>by simp only [Delta.QP,Bool.or_false] at q;rw [if_pos q];exact .inl (.head _),hs,h2,h3, .head _,hf⟩)
  | @loc _ _ _ _ _ _ _ _ _ _ v hg ho hl ht h =>
   exact build ⟨env,s,adds,v,some .same⟩ mv rd _ _ _ rfl rfl rfl h (fun _ h=>h) (fun _ h=>h) (fun r' h1 h2 h3=>⟨h1,hg,ho,fun _ => .inr ⟨hl,ht⟩,h2,h3⟩)
end
end Go.Lx
namespace Go.Lx
def MX (acc:List Nat) (o:Oper):Nat:=o.after.toList.foldl (fun s e=>if Region.binds .any e then s ||| 2 ^ e.on ||| acc.getD e.on 0 else s) 0
def masks:List Nat→List Oper→List Nat
 | acc,[]=>acc
 | acc,o::l=>masks (acc++[MX acc o]) l
theorem Il (ops:List Oper):eQ ops=masks [] ops:=by
 have key:∀ (l:List Oper) (acc:List Nat),l.foldl (fun (acc:List Nat) o=>acc++[o.after.toList.foldl (fun s e=>if Region.binds .any e then s ||| 2 ^ e.on ||| acc.getD e.on 0 else s) 0]) acc=masks acc l:=by
  intro l
  induction l with
  | nil=>intro acc;rfl
  | cons o l ih=>intro acc;exact ih _
 exact key ops []
theorem FD:∀ (l:List Oper) (acc:List Nat) (i:Nat),i < acc.length→(masks acc l).getD i 0=acc.getD i 0
 | [],acc,i,h=>rfl
 | o::l,acc,i,h=>by
  simp only [masks];rw [FD l _ i (by simp;omega)];simp [cZ h]
theorem JL:∀ (l:List Oper) (acc:List Nat) (j:Nat) (o:Oper),l[j]?=some o→∃ acc',acc'.length=acc.length+j∧(∀ i,i < acc'.length→acc'.getD i 0=(masks acc l).getD i 0)∧(masks acc l).getD (acc.length+j) 0=MX acc' o
 | [],acc,j,o,h=>by simp at h
 | x::l,acc,0,o,h=>by
  simp at h;subst h;refine ⟨acc,rfl,fun i hi=>(FD _ _ i hi).symm,?_⟩;simp only [masks];rw [FD l _ _ (by simp)];simp
 | x::l,acc,j+1,o,h=>by
  obtain ⟨acc',h1,h2,h3⟩:=JL l (acc++[MX acc x]) j o (by simpa using h);refine ⟨acc',by rw [h1];simp;omega,fun i hi=>by rw [h2 i hi];rfl,?_⟩;simp only [masks];rw [← h3]
  congr 1
  simp;omega
theorem JK (acc:List Nat) (j:Nat):∀ (l:List Edge) (s:Nat),(l.foldl (fun s e=>if Region.binds .any e then s ||| 2 ^ e.on ||| acc.getD e.on 0 else s) s).testBit j=true ↔
  s.testBit j=true∨∃ e,e∈l∧Region.binds .any e=true∧(e.on=j∨(acc.getD e.on 0).testBit j=true)
 | [],s=>by simp
 | e::l,s=>by
  simp only [lZ];rw [JK acc j l];by_cases hb:Region.binds .any e=true
  ·rw [if_pos hb];simp only [Nat.testBit_or,jl,Nat.testBit_two_pow,iq];constructor
   ·rintro (((h | h) | h) | ⟨e',h1,h2⟩)
    ·exact .inl h
    ·exact .inr ⟨e, .head _,hb, .inl h⟩
    ·exact .inr ⟨e, .head _,hb, .inr h⟩
    ·exact .inr ⟨e', .tail _ h1,h2⟩
   ·rintro (h | ⟨e',h1,h2,h3⟩)
    ·exact .inl (.inl (.inl h))
    ·cases h1 with
     | head =>
      rcases h3 with h3 | h3
      ·exact .inl (.inl (.inr h3))
      ·exact .inl (.inr h3)
     | tail _ h1=>exact .inr ⟨e',h1,h2,h3⟩
  ·rw [if_neg hb];constructor
   ·rintro (h | ⟨e',h1,h2⟩)
    ·exact .inl h
    ·exact .inr ⟨e', .tail _ h1,h2⟩
   ·rintro (h | ⟨e',h1,h2,h3⟩)
    ·exact .inl h
    ·cases h1 with
     | head=>exact absurd h2 hb
     | tail _ h1=>exact .inr ⟨e',h1,h2,h3⟩
def Ordered (ops:List Oper):Prop:=∀ (i:Nat) o,ops[i]?=some o→∀ e,e∈o.after.toList→Region.binds .any e=true→e.on < i
def Before (ops:List Oper) (j i:Nat):Prop:=((eQ ops).getD i 0).testBit j=true
theorem zJ {ops:List Oper} (ho:Ordered ops) {i:Nat} {o:Oper} (hi:ops[i]?=some o) (j:Nat) :
  Before ops j i↔∃ e,e∈o.after.toList∧Region.binds .any e=true∧(e.on=j∨Before ops j e.on):=by
 unfold Before;rw [Il];obtain ⟨acc',h1,h2,h3⟩:=JL ops [] i o hi;simp only [List.length_nil,gW] at h1 h3;rw [h3];unfold MX;rw [JK];constructor
 ·rintro (h | ⟨e,k1,k2,k3⟩)
  ·simp at h
  ·refine ⟨e,k1,k2,?_⟩;rw [h2 e.on (by rw [h1];exact ho i o hi e k1 k2)] at k3;exact k3
 ·rintro ⟨e,k1,k2,k3⟩
  refine .inr ⟨e,k1,k2,?_⟩;rw [h2 e.on (by rw [h1];exact ho i o hi e k1 k2)];exact k3
theorem nK {ops:List Oper} (ho:Ordered ops):∀ (i:Nat) {j:Nat},i < ops.length→Before ops j i→j < i:=by
 intro i
 induction i using Nat.strongRecOn with
 | _ i ih =>
  intro j hi hb;have hget:=ax hi;obtain ⟨e,h1,h2,h3⟩:=(zJ ho hget j).1 hb;have he:=ho i _ hget e h1 h2;rcases h3 with rfl | h3
  ·exact he
  ·have:=ih e.on he (by omega) h3;omega
end Go.Lx
namespace Go.Lx
theorem Gf:∀ (l:List Oper) (n i:Nat) (o:Oper),l[i]?=some o→(n+i,o)∈mM n l
 | [],n,i,o,h=>by simp at h
 | x::l,n,0,o,h=>by simp at h;subst h;exact .head _
 | x::l,n,i+1,o,h=>by
  have:=Gf l (n+1) i o (by simpa using h);rw [show n+(i+1)=n+1+i from by omega];exact .tail _ this
theorem Ah {ops:List Oper} {i j:Nat}:comparable (eQ ops) i j=true↔Before ops i j∨Before ops j i:=by
 unfold comparable Before;simp
structure yU (ops:List Oper) (mv rd:List Nat):Prop where
 ord:Ordered ops
 names:∀ (i j:Nat) o p,ops[i]?=some o→ops[j]?=some p→i≠j→(Before ops i j∨Before ops j i)∨∀ d,o.dst=some d→d∉Au ops p∧p.dst≠some d
 mem:∀ i,i∈mv→∀ (j:Nat) p,ops[j]?=some p→i≠j→j∈rd∨j∈mv→Before ops i j∨Before ops j i
theorem Ii {ops:List Oper} {mv rd:List Nat} (h:xK ops mv rd=true):yU ops mv rd:=by
 unfold xK at h;simp only [bF] at h;obtain ⟨⟨h1,h2⟩,h3⟩:=h;refine ⟨?_,?_,?_⟩
 ·intro i o hi e he hb;have:=aW.1 (aW.1 h1 (i,o) (by simpa using Gf ops 0 i o hi)) e he;simp [hb] at this;exact this
 ·intro i j o p hi hj hne;have:=aW.1 (aW.1 h2 (i,o) (by simpa using Gf ops 0 i o hi)) (j,p) (by simpa using Gf ops 0 j p hj);simp only [jl,beq_iff_eq] at this;rcases this with (h | h) | h
  ·exact absurd h hne
  ·exact .inl (Ah.1 h)
  ·refine .inr fun d hd=>?_
   rw [hd] at h;simp at h;exact ⟨by simpa using h.1,h.2⟩
 ·intro i hi j p hj hne hr;have:=aW.1 (aW.1 h3 i hi) (j,p) (by simpa using Gf ops 0 j p hj);simp only [jl,beq_iff_eq,bF,Bool.not_eq_true'] at this;rcases this with (h | h) | h
  ·exact absurd h hne
  ·exact Ah.1 h
  ·simp at h;rcases hr with q | q
   ·exact absurd q h.1
   ·exact absurd q h.2
end Go.Lx
namespace Go.Lx
theorem qh (l r:Loc) (t n:Nat):bV (l++r) t n=match bV l t n with | some b=>some b | none=>bV r t n:=by
 induction l with
 | nil=>rfl
 | cons x l ih =>
  obtain ⟨⟨a,b⟩,y⟩:=x;rw [List.cons_append];by_cases e1:t=a
  ·subst e1;cases hv:y.view b n with
   | some z=>rw [ji hv,ji hv]
   | none=>rw [iG hv,iG hv];exact ih
  ·rw [jD e1,jD e1];exact ih
theorem tY (s:S) (bs:Loc) (i:Id):(s.plus bs).get i=if i.d=s.dep then (match bV bs i.t i.n with | some b=>some b | none=>s.get i) else s.get i:=by
 have hd:(s.plus bs).dep=s.dep:=rfl;by_cases e:i.d=s.dep
 ·rw [if_pos e];have h1:(s.plus bs).get i=bV (bs++s.loc) i.t i.n:=by unfold S.get;rw [hd,if_pos e];rfl
  have h2:s.get i=bV s.loc i.t i.n:=by unfold S.get;rw [if_pos e]
  rw [h1,h2,qh]
 ·rw [if_neg e];unfold S.get;rw [hd,if_neg e,if_neg e];rfl
theorem OL {l:Loc} {t n:Nat} (h:∀ e∈l,e.1.1≠t):bV l t n=none:=by
 induction l with
 | nil=>rfl
 | cons x l ih =>
  obtain ⟨⟨a,b⟩,y⟩:=x;rw [jD (fun e=>h _ (.head _) e.symm)];exact ih (fun e he=>h e (.tail _ he))
theorem yf {l:Loc}:∀ {bs:Loc},uU l bs=true→∀ {t n:Nat} {b:Blk},bV bs t n=some b→bV l t n=none
 | [],_,t,n,b,h=>by cases h
 | ((a,m),y)::bs,h,t,n,b,hb=>by
  simp only [uU,bF] at h;by_cases e1:t=a
  ·subst e1;cases hv:y.view m n with
   | none=>rw [iG hv] at hb;exact yf h.2 hb
   | some z =>
    cases hy:y.one with
    | true =>
     rw [rZ hy] at hv;split at hv
     ·rename_i e2
      subst e2;have h1:=h.1;cases y with
      | fam _=>cases hy
      | _=>simp only [bF,Option.isNone_iff_eq_none] at h1;exact h1.1
     ·cases hv
    | false =>
     have h1:=h.1;cases y with
     | fam rows =>
      simp only [bF] at h1;refine OL fun e he q=>?_
      have:=aW.1 h1.1 e he;simp [q] at this
     | _=>cases hy
  ·rw [jD e1] at hb;exact yf h.2 hb
def Ja (ops:List Oper) (tr:Nat→Rec) (L:Nat→Prop) (t:Nat) (v:A):Prop :=
 (∃ (k:Nat) (o:Oper),L k∧ops[k]?=some o∧o.dst=some t∧(tr k).val=v∧∀ (k':Nat) (o':Oper),L k'→ops[k']?=some o'→o'.dst=some t→k'≤k) ∨
 ((∀ (k:Nat) (o:Oper),L k→ops[k]?=some o→o.dst≠some t)∧look (tr 0).env t=some v)
theorem LM {ops:List Oper} {tr:Nat→Rec} (h:∀ (j:Nat) o,ops[j]?=some o→(tr (j+1)).env=yB o.dst (tr j).val (tr j).env) :
  ∀ (i:Nat),i≤ops.length→∀ t v,look (tr i).env t=some v→Ja ops tr (· < i) t v
 | 0,_,t,v,hv => .inr ⟨fun k o hk=>absurd hk (Nat.not_lt_zero k),hv⟩
 | i+1,hi,t,v,hv=>by
  have hget:=ax (l:=ops) (i:=i) (by omega);rw [h i _ hget] at hv;have ih:=LM h i (by omega) t;by_cases hd:ops[i].dst=some t
  ·rw [hd] at hv;simp only [yB,look,aS] at hv;cases hv;exact .inl ⟨i,_,Nat.lt_succ_self i,hget,hd,rfl,fun k' o' hk' _ _=>Nat.lt_succ_iff.1 hk'⟩
  ·have hv':look (tr i).env t=some v:=by
    cases hq:ops[i].dst with
    | none=>rw [hq] at hv;exact hv
    | some d =>
     rw [hq] at hv;simp only [yB,look] at hv;rw [if_neg (fun e=>hd (by rw [hq,e]))] at hv;exact hv
   rcases ih v hv' with ⟨k,o,h1,h2,h3,h4,h5⟩ | ⟨h1,h2⟩
   ·refine .inl ⟨k,o,Nat.lt_succ_of_lt h1,h2,h3,h4,fun k' o' hk' ho' hd'=>?_⟩;rcases Nat.lt_succ_iff_lt_or_eq.1 hk' with q | q
    ·exact h5 k' o' q ho' hd'
    ·subst q;rw [hget] at ho';cases ho';exact absurd hd' hd
   ·refine .inr ⟨fun k o hk ho=>?_,h2⟩;rcases Nat.lt_succ_iff_lt_or_eq.1 hk with q | q
    ·exact h1 k o q ho
    ·subst q;rw [hget] at ho;cases ho;exact hd
theorem zF {ops:List Oper} {mv rd:List Nat} (S:yU ops mv rd) {L:Nat→Prop} {i:Nat} {o:Oper} (ho:ops[i]?=some o) (hdone:∀ j,Before ops j i→L j) (hnot:∀ j,L j→¬ Before ops i j) (hi:¬ L i)
  {t:Nat} (ht:t∈Au ops o) {k:Nat} {p:Oper} (hk:ops[k]?=some p) (hd:p.dst=some t):L k↔k < i:=by
 have hil:=(aC.1 ho).1;have hkl:=(aC.1 hk).1;by_cases e:k=i
 ·subst e;exact ⟨fun h=>absurd h hi,fun h=>absurd h (Nat.lt_irrefl _)⟩
 ·rcases S.names k i p o hk ho e with (h | h) | h
  ·exact ⟨fun _=>nK S.ord i hil h,fun _=>hdone k h⟩
  ·exact ⟨fun q=>absurd h (hnot k q),fun q=>by have:=nK S.ord k hkl h;omega⟩
  ·exact absurd ht (h t hd).1
theorem IL {ops:List Oper} {tr:Nat→Rec} {mv rd:List Nat} (S:yU ops mv rd) {L:Nat→Prop} {i:Nat} {o:Oper} (ho:ops[i]?=some o) (hdone:∀ j,Before ops j i→L j) (hnot:∀ j,L j→¬ Before ops i j) (hi:¬ L i)
  {t:Nat} (ht:t∈Au ops o) {v:A} (h:Ja ops tr (· < i) t v):Ja ops tr L t v:=by
 rcases h with ⟨k,p,h1,h2,h3,h4,h5⟩ | ⟨h1,h2⟩
 ·exact .inl ⟨k,p,(zF S ho hdone hnot hi ht h2 h3).2 h1,h2,h3,h4,fun k' p' hk' hp' hd'=>h5 k' p' ((zF S ho hdone hnot hi ht hp' hd').1 hk') hp' hd'⟩
 ·exact .inr ⟨fun k p hk hp hd=>h1 k p ((zF S ho hdone hnot hi ht hp hd).1 hk) hp hd,h2⟩
end Go.Lx
namespace Go.Lx
section
variable {P:Program} {ops:List Oper} {b mv rd:List Nat} {tr:Nat→Rec} {F:Facts}
theorem phase (h:∀ (j:Nat) o,ops[j]?=some o→DL P F ops b mv rd j o (tr j) (tr (j+1))) {q:Nat} (hq:(tr q).adds=[]) :
  ∀ (i:Nat),q≤i→i≤ops.length→(∀ m s',q≤m→m < i→(tr m).dl≠some (.set s')) →
  (tr i).base=(tr q).base∧∀ j bs,(j,bs)∈(tr i).adds↔q≤j∧j < i∧(tr j).dl=some (.add bs):=by
 intro i
 induction i with
 | zero =>
  intro h1 _ _;have:q=0:=by omega
  subst this;exact ⟨rfl,fun j bs=>by rw [hq];simp⟩
 | succ i ih =>
  intro h1 h2 h3;by_cases e:q=i+1
  ·subst e;exact ⟨rfl,fun j bs=>by rw [hq];simp;omega⟩
  ·obtain ⟨k1,k2⟩:=ih (by omega) (by omega) (fun m s' a1 a2=>h3 m s' a1 (by omega));have hget:=ax (l:=ops) (i:=i) (by omega);obtain ⟨_,hs⟩:=h i _ hget;have same:(tr (i+1)).base=(tr i).base→(tr (i+1)).adds=(tr i).adds→(∀ bs,(tr i).dl≠some (.add bs)) →
     (tr (i+1)).base=(tr q).base∧∀ j bs,(j,bs)∈(tr (i+1)).adds↔q≤j∧j < i+1∧(tr j).dl=some (.add bs):=by
    intro e1 e2 e3;refine ⟨e1.trans k1,fun j bs=>?_⟩;rw [e2,k2];constructor
    ·rintro ⟨a1,a2,a3⟩;exact ⟨a1,by omega,a3⟩
    ·rintro ⟨a1,a2,a3⟩
     refine ⟨a1,?_,a3⟩;rcases Nat.lt_succ_iff_lt_or_eq.1 a2 with z | z
     ·exact z
     ·subst z;exact absurd a3 (e3 bs)
   cases hd:(tr i).dl with
   | none=>rw [hd] at hs;exact same hs.2.2.1 hs.2.2.2 (fun bs q=>by rw [hd] at q;cases q)
   | some dl =>
    rw [hd] at hs;obtain ⟨_,_,_,hs⟩:=hs;cases dl with
    | same=>exact same hs.1 hs.2 (fun bs q=>by rw [hd] at q;cases q)
    | set s'=>exact absurd hd (h3 i s' (by omega) (Nat.lt_succ_self i))
    | add cs =>
     refine ⟨hs.2.1.trans k1,fun j bs=>?_⟩;rw [hs.2.2];constructor
     ·intro hm;cases hm with
      | head=>exact ⟨by omega,Nat.lt_succ_self _,hd⟩
      | tail _ hm=>obtain ⟨a1,a2,a3⟩:=(k2 j bs).1 hm;exact ⟨a1,by omega,a3⟩
     ·rintro ⟨a1,a2,a3⟩
      rcases Nat.lt_succ_iff_lt_or_eq.1 a2 with z | z
      ·exact .tail _ ((k2 j bs).2 ⟨a1,z,a3⟩)
      ·subst z;rw [hd] at a3;cases a3;exact .head _
end
end Go.Lx
namespace Go.Lx
theorem DF {b:List Nat} {i t n j:Nat} {bs:Loc} {x:Blk} (hb:(b.getD i 0).testBit j=true) (hx:bV bs t n=some x):∀ {l:List (Nat×Loc)},(j,bs)∈l→∃ y,bV (qE b i l) t n=some y
 | [],h=>by cases h
 | (k,cs)::l,h=>by
  simp only [qE];cases h with
  | head =>
   rw [if_pos hb,qh,hx];exact ⟨x,rfl⟩
  | tail _ h =>
   obtain ⟨y,hy⟩:=DF hb hx h;split
   ·rw [qh];cases bV cs t n with
    | some z=>exact ⟨z,rfl⟩
    | none=>exact ⟨y,hy⟩
   ·exact ⟨y,hy⟩
theorem Az {t n j:Nat} {bs:Loc} {x:Blk} (hx:bV bs t n=some x):∀ {l:List (Nat×Loc)},(j,bs)∈l→∃ y,bV (ou l) t n=some y
 | [],h=>by cases h
 | (k,cs)::l,h=>by
  simp only [ou,qh];cases h with
  | head=>rw [hx];exact ⟨x,rfl⟩
  | tail _ h =>
   obtain ⟨y,hy⟩:=Az hx h;cases bV cs t n with
   | some z=>exact ⟨z,rfl⟩
   | none=>exact ⟨y,hy⟩
theorem DR {t n:Nat} {x:Blk}:∀ {l:List (Nat×Loc)},bV (ou l) t n=some x→∃ j bs,(j,bs)∈l∧bV bs t n=some x
 | [],h=>by cases h
 | (j,bs)::l,h=>by
  simp only [ou] at h;rw [qh] at h;split at h
  ·rename_i y hy
   cases h;exact ⟨j,bs, .head _,hy⟩
  ·obtain ⟨k,cs,h1,h2⟩:=DR h;exact ⟨k,cs, .tail _ h1,h2⟩
theorem vP {b:List Nat} {i t n:Nat} {x:Blk}:∀ {l:List (Nat×Loc)},bV (qE b i l) t n=some x→∃ j bs,(j,bs)∈l∧(b.getD i 0).testBit j=true∧bV bs t n=some x
 | [],h=>by cases h
 | (j,bs)::l,h=>by
  simp only [qE] at h;split at h
  ·rename_i hb
   rw [qh] at h;split at h
   ·rename_i y hy
    cases h;exact ⟨j,bs, .head _,hb,hy⟩
   ·obtain ⟨k,cs,h1,h2,h3⟩:=vP h;exact ⟨k,cs, .tail _ h1,h2,h3⟩
  ·obtain ⟨k,cs,h1,h2,h3⟩:=vP h;exact ⟨k,cs, .tail _ h1,h2,h3⟩
theorem before_trans {ops:List Oper} (S:Ordered ops) {j k:Nat} (h:Before ops j k):∀ (i:Nat),i < ops.length→Before ops k i→Before ops j i:=by
 intro i
 induction i using Nat.strongRecOn with
 | _ i ih =>
  intro hi hb;have hget:=ax hi;obtain ⟨e,h1,h2,h3⟩:=(zJ S hget k).1 hb;have he:=S i _ hget e h1 h2;refine (zJ S hget j).2 ⟨e,h1,h2, .inr ?_⟩;rcases h3 with h3 | h3
  ·rw [h3];exact h
  ·exact ih e.on he (by omega) h3
def Closed (h:Id→Option Blk):Prop:=∀ i c,h i=some c→∀ j∈c.ids,∃ x,h j=some x
def S.has (s:S) (j:Id):Prop:=∃ x,s.get j=some x
theorem Inv.closed {P:Program} {V:View} {h:Id→Option Blk} {μ:Id→Pl} {w:World} (I:Inv P V h μ w):Closed h:=by
 intro i c hi j hj;have B:=I.blk i _ hi;cases c with
 | box cs =>
  obtain ⟨b1,b3,cells,elem,b5,b6,b7⟩:=B;obtain ⟨k,a,h1,h2⟩:=BP hj;have hl:k < cells.size:=by rw [b6];exact (aC.1 h1).1
  exact uO (b7 k a _ h1 (bI hl)).1 j h2
 | nest sz xs =>
  rcases B with ⟨_,rfl,_⟩ | ⟨b1,b2,b3,cells,elem,b5,b6,hpl,b7⟩
  ·cases hj
  ·obtain ⟨k,a,h1,h2⟩:=BP hj;obtain ⟨e,q1,q2⟩:=List.mem_flatten.1 (dm h1);obtain ⟨n,hn⟩:=jm.1 q1;obtain ⟨m,hm⟩:=jm.1 q2;obtain ⟨r1,r2⟩:=b7 n e hn;have hml:m < sz:=by rw [← r1];exact (aC.1 hm).1
   have hnl:n < xs.length:=(aC.1 hn).1;have hl:n * sz+m < cells.size:=by
    rw [b6]
    calc n * sz+m < n * sz+sz:=by omega
     _=(n+1) * sz:=by rw [fD,kD]
     _≤(μ i).cap * sz:=aX _ (by omega)
   exact uO (r2 m a _ hm (bI hl)) j h2
 | arr _ _ _=>cases hj
 | map _ _ _=>cases hj
 | fam _=>exact B.elim
 | gap=>cases hj
 | tail _ _ _=>cases hj
def small (b:List Nat) (tr:Nat→Rec) (i:Nat):S:=(tr i).base.plus (qE b i (tr i).adds)
section
variable {P:Program} {ops:List Oper} {tr:Nat→Rec} {F:Facts} {mv rd:List Nat}
structure Tr (P:Program) (F:Facts) (ops:List Oper) (tr:Nat→Rec) (mv rd:List Nat):Prop where
 ord:yU ops mv rd
 step:∀ (j:Nat) o,ops[j]?=some o→DL P F ops (eQ ops) mv rd j o (tr j) (tr (j+1))
 zero:(tr 0).adds=[]
 fac:∀ k,k≤ops.length→k≤kOf F→Be (tr k).base F
theorem Tr.moved (T:Tr P F ops tr mv rd) {k:Nat} (hk:k < ops.length) {s':S} (h:(tr k).dl=some (.set s')):k∈mv∧(tr (k+1)).base=s'∧(tr (k+1)).adds=[]∧CV (eQ ops) k (tr k).adds=true:=by
 have:=(T.step k _ (ax hk)).2;rw [h] at this;exact ⟨this.2.2.2.2.2.2.1,this.2.2.2.2.1,this.2.2.2.2.2.1,this.2.2.2.1⟩
theorem Tr.laid (T:Tr P F ops tr mv rd) {k:Nat} (hk:k < ops.length) {bs:Loc} (h:(tr k).dl=some (.add bs)):k∈rd∧uU (ou (tr k).adds++(tr k).base.loc) bs=true:=by
 have:=(T.step k _ (ax hk)).2;rw [h] at this;exact ⟨(this.2.2.1 (by simp [Delta.QP])).resolve_right (fun q=>by cases q.1.same),this.2.2.2.1⟩
theorem Tr.last (T:Tr P F ops tr mv rd):∀ (i:Nat),i≤ops.length→∃ q,q≤i∧(tr q).adds=[]∧(∀ m s',q≤m→m < i→(tr m).dl≠some (.set s'))∧(q=0∨∃ m s',q=m+1∧(tr m).dl=some (.set s'))
 | 0,_=>⟨0,bu _,T.zero,fun m s' h1 h2=>absurd h2 (Nat.not_lt_zero m), .inl rfl⟩
 | i+1,hi=>by
  obtain ⟨q,h1,h2,h3,h4⟩:=T.last i (by omega);have old:(∀ s',(tr i).dl≠some (.set s'))→∃ q,q≤i+1∧(tr q).adds=[]∧(∀ m s',q≤m→m < i+1→(tr m).dl≠some (.set s'))∧(q=0∨∃ m s',q=m+1∧(tr m).dl=some (.set s')):=by
   intro hn;refine ⟨q,by omega,h2,?_,h4⟩;intro m s' a1 a2;rcases Nat.lt_succ_iff_lt_or_eq.1 a2 with z | z
   ·exact h3 m s' a1 z
   ·subst z;exact hn s'
  cases hd:(tr i).dl with
  | none=>exact old (fun s' q=>by rw [hd] at q;cases q)
  | some dl =>
   cases dl with
   | set s'=>exact ⟨i+1,bu _,(T.moved (by omega) hd).2.2.1,fun m s'' a1 a2=>by omega, .inr ⟨i,s',rfl,hd⟩⟩
   | same=>exact old (fun s' q=>by rw [hd] at q;cases q)
   | add bs=>exact old (fun s' q=>by rw [hd] at q;cases q)
def Names (tr:Nat→Rec) (b:List Nat) (dep k:Nat) (j:Id):Prop :=
 match (tr k).dl with
 | some (.add bs)=>j.d=dep∧∃ x,bV bs j.t j.n=some x
 | some (.set s')=>s'.has j∧¬ (small b tr k).has j
 | _=>False
theorem Tr.eff (T:Tr P F ops tr mv rd) {dep k:Nat} {j:Id} (hk:k < ops.length) (h:Names tr (eQ ops) dep k j):k∈rd∨k∈mv:=by
 unfold Names at h;cases hd:(tr k).dl with
 | none=>rw [hd] at h;cases h
 | some dl =>
  rw [hd] at h;cases dl with
  | same=>cases h
  | add bs=>exact .inl (T.laid hk hd).1
  | set s'=>exact .inr (T.moved hk hd).1
structure KE (ops:List Oper) (tr:Nat→Rec) (m:Nat) (s':S):Prop where
 out:s'.out=(small (eQ ops) tr m).out
 grow:∀ j,(small (eQ ops) tr m).has j→s'.has j
theorem BM {s:S} {bs:Loc} {j:Id}:(s.plus bs).has j↔(j.d=s.dep∧∃ x,bV bs j.t j.n=some x)∨s.has j:=by
 unfold S.has;rw [tY];by_cases e:j.d=s.dep
 ·rw [if_pos e];cases hf:bV bs j.t j.n with
  | none=>simp
  | some b=>simp [e]
 ·rw [if_neg e];simp [e]
theorem Tr.dom (T:Tr P F ops tr mv rd) {dep:Nat} (hdep:(tr 0).base.dep=dep):∀ (i:Nat),i < ops.length→(∀ m s',m < i→(tr m).dl=some (.set s')→Before ops m i∧KE ops tr m s') →
  (tr i).base.dep=dep∧∀ j,(small (eQ ops) tr i).has j↔(tr 0).base.has j∨∃ k,Before ops k i∧Names tr (eQ ops) dep k j:=by
 intro i
 induction i using Nat.strongRecOn with
 | _ i ih =>
  intro hi hs;obtain ⟨q,h1,h2,h3,h4⟩:=T.last i (by omega);obtain ⟨k1,k2⟩:=phase T.step h2 i h1 (by omega) h3;have base:(tr q).base.dep=dep∧∀ j,(tr q).base.has j↔(tr 0).base.has j∨∃ k,k < q∧Before ops k i∧Names tr (eQ ops) dep k j:=by
   rcases h4 with rfl | ⟨m,s',rfl,hm⟩
   ·refine ⟨hdep,fun j=>⟨.inl,?_⟩⟩
    rintro (h | ⟨k,hk,_⟩)
    ·exact h
    ·omega
   ·have hml:m < ops.length:=by omega
    obtain ⟨hmv,hb,_,_⟩:=T.moved hml hm;obtain ⟨hbi,hg⟩:=hs m s' (by omega) hm;have cmp:∀ k,k < m→(k∈rd∨k∈mv)→Before ops k m:=by
     intro k hk he;rcases T.ord.mem m hmv k _ (ax (by omega)) (by omega) he with z | z
     ·have:=nK T.ord.ord k (by omega) z;omega
     ·exact z
    obtain ⟨d1,d2⟩:=ih m (by omega) hml (fun m' s'' hm' hd'=>⟨cmp m' hm' (.inr (T.moved (by omega) hd').1),(hs m' s'' (by omega) hd').2⟩);rw [hb];refine ⟨?_,fun j=>?_⟩
    ·unfold S.dep at d1 ⊢;rw [hg.out];exact d1
    ·constructor
     ·intro hj;by_cases hsm:(small (eQ ops) tr m).has j
      ·rcases (d2 j).1 hsm with z | ⟨k,z1,z2⟩
       ·exact .inl z
       ·exact .inr ⟨k,by have:=nK T.ord.ord m hml z1;omega,before_trans T.ord.ord z1 i hi hbi,z2⟩
      ·exact .inr ⟨m,by omega,hbi,by unfold Names;rw [hm];exact ⟨hj,hsm⟩⟩
     ·rintro (z | ⟨k,z1,z2,z3⟩)
      ·exact hg.grow j ((d2 j).2 (.inl z))
      ·by_cases e:k=m
       ·subst e;unfold Names at z3;rw [hm] at z3;exact z3.1
       ·exact hg.grow j ((d2 j).2 (.inr ⟨k,cmp k (by omega) (T.eff (by omega) z3),z3⟩))
  refine ⟨by rw [k1];exact base.1,fun j=>?_⟩;unfold small;rw [BM,k1,base.1,base.2];constructor
  ·rintro (⟨e,x,hx⟩ | z | ⟨k,_,z⟩)
   ·obtain ⟨k,bs,z1,z2,z3⟩:=vP hx;obtain ⟨_,_,z4⟩:=(k2 k bs).1 z1;exact .inr ⟨k,z2,by unfold Names;rw [z4];exact ⟨e,x,z3⟩⟩
   ·exact .inl z
   ·exact .inr ⟨k,z⟩
  ·rintro (z | ⟨k,z1,z2⟩)
   ·exact .inr (.inl z)
   ·by_cases hk:k < q
    ·exact .inr (.inr ⟨k,hk,z1,z2⟩)
    ·have hki:=nK T.ord.ord i hi z1;have z2':=z2;unfold Names at z2;cases hd:(tr k).dl with
     | none=>rw [hd] at z2;cases z2
     | some dl =>
      rw [hd] at z2;cases dl with
      | same=>cases z2
      | set s'=>exact absurd hd (h3 k s' (by omega) hki)
      | add bs =>
       obtain ⟨e,x,hx⟩:=z2;exact .inl ⟨e,DF z1 hx ((k2 k bs).2 ⟨by omega,hki,hd⟩)⟩
theorem Tr.free (T:Tr P F ops tr mv rd) {q:Nat} (hq:(tr q).adds=[]) {k:Nat} (hk:k < ops.length) (hqk:q≤k) (hno:∀ m s',q≤m→m < k→(tr m).dl≠some (.set s')) {bs:Loc} (hd:(tr k).dl=some (.add bs)) {t n:Nat} {x:Blk} (hx:bV bs t n=some x) :
  bV (tr q).base.loc t n=none∧∀ j cs,q≤j→j < k→(tr j).dl=some (.add cs)→bV cs t n=none:=by
 obtain ⟨k1,k2⟩:=phase T.step hq k hqk (by omega) hno;have:=yf (T.laid hk hd).2 hx;rw [qh] at this;split at this
 ·cases this
 ·rename_i hn
  refine ⟨by rw [← k1];exact this,fun j cs h1 h2 h3=>?_⟩;cases hf:bV cs t n with
  | none=>rfl
  | some y =>
   obtain ⟨z,hz⟩:=Az hf ((k2 j cs).2 ⟨h1,h2,h3⟩);rw [hn] at hz;cases hz
end
end Go.Lx
namespace Go.Lx
theorem BU {env:Env} {t:Nat}:∀ {ts:List Nat},look (ts.filterMap fun t=>(look env t).map fun v=>(t,v)) t=if t∈ts then look env t else none
 | []=>by simp [look]
 | u::ts=>by
  have ih:=BU (env:=env) (t:=t) (ts:=ts);cases hu:look env u with
  | none =>
   simp only [List.filterMap_cons,hu,Option.map_none,ih,iM];by_cases e:t=u
   ·subst e;simp [hu]
   ·simp [e]
  | some x =>
   simp only [List.filterMap_cons,hu,jT,look,ih,iM];by_cases e:t=u
   ·subst e;simp [hu]
   ·simp [e]
section
variable {c:Cfg} {ops:List Oper} {tr:Nat→Rec} {F:Facts} {mv rd:List Nat}
theorem QV (S:yU ops mv rd) {L:Nat→Prop} {i:Nat} {o:Oper} (ho:ops[i]?=some o) (hdone:∀ j,Before ops j i→L j) (hnot:∀ j,L j→¬ Before ops i j) (hi:¬ L i) {t:Nat} {v:A}
  (h:Ja ops tr (fun k=>L k∨k=i) t v):(o.dst=some t∧v=(tr i).val)∨(o.dst≠some t∧Ja ops tr L t v):=by
 have hil:=(aC.1 ho).1;by_cases hd:o.dst=some t
 ·left;refine ⟨hd,?_⟩;rcases h with ⟨k,p,h1,h2,h3,h4,h5⟩ | ⟨h1,_⟩
  ·have hki:i≤k:=h5 i o (.inr rfl) ho hd;have:k=i:=by
    rcases h1 with h1 | h1
    ·have hne:k≠i:=fun e=>hi (e ▸ h1)
     rcases S.names k i p o h2 ho hne with (q | q) | q
     ·have:=nK S.ord i hil q;omega
     ·exact absurd q (hnot k h1)
     ·exact absurd hd (q t h3).2
    ·exact h1
   subst this;exact h4.symm
  ·exact absurd hd (h1 i o (.inr rfl) ho)
 ·right;refine ⟨hd,?_⟩;rcases h with ⟨k,p,h1,h2,h3,h4,h5⟩ | ⟨h1,h2⟩
  ·have hk:L k:=by
    rcases h1 with h1 | h1
    ·exact h1
    ·subst h1;rw [ho] at h2;cases h2;exact absurd h3 hd
   exact .inl ⟨k,p,hk,h2,h3,h4,fun k' p' a1 a2 a3=>h5 k' p' (.inl a1) a2 a3⟩
  ·exact .inr ⟨fun k p hk hp=>h1 k p (.inl hk) hp,h2⟩
end
def zl (ops:List Oper) (o:Oper) (env:Env):Env:=(Au ops o).filterMap fun t=>(look env t).map fun v=>(t,v)
theorem uT {ops:List Oper} {o:Oper} {env:Env}:∀ x∈o.op.operands,ay (look env) x=ay (look (zl ops o env)) x:=by
 intro x hx;cases x with
 | tmp t =>
  simp only [ay];unfold zl;rw [BU,if_pos];unfold Au;refine aU.2 (.inl ?_);exact List.mem_filterMap.2 ⟨.tmp t,by simpa using hx,rfl⟩
 | _=>rfl
theorem KZ {ops:List Oper} {o:Oper} {env:Env}:jZ ops env o=jZ ops (zl ops o env) o:=by
 unfold jZ;cases hg:o.guard with
 | none=>rfl
 | some jw =>
  obtain ⟨j,want⟩:=jw;simp only;cases hd:(ops[j]?).bind (·.dst) with
  | none=>rfl
  | some d =>
   simp only;have:look (zl ops o env) d=look env d:=by
    unfold zl;rw [BU,if_pos];unfold Au;refine aU.2 (.inr ?_);rw [hg];simp only [hd];simp
   rw [this]
theorem C9 {ops:List Oper} {o:Oper} {env:Env} {t:Nat} {v:A} (h:look (zl ops o env) t=some v):t∈Au ops o∧look env t=some v:=by
 unfold zl at h;rw [BU] at h;split at h
 ·rename_i hm;exact ⟨hm,h⟩
 ·cases h
theorem BO {cs:List A} {j:Id} (h:j∈(xx cs).ids):j∈A.lT cs:=by
 unfold xx at h;split at h
 ·cases h
 ·exact h
theorem jX {cs:List A} {j:Id}:j∈A.lT cs↔∃ a,a∈cs∧j∈a.ids:=by
 induction cs with
 | nil=>simp [A.lT]
 | cons x rest ih=>simp [A.lT,ih]
theorem NL {v:A} {j:Id} (h:j∈A.lT v.cells):j∈v.ids:=by
 cases v with
 | d x =>
  obtain ⟨a,h1,h2⟩:=jX.1 h;simp only [A.cells,kX] at h1;obtain ⟨y,_,rfl⟩:=h1;cases h2
 | agg cs=>exact h
 | _=>simpa [A.cells,A.lT] using h
theorem Fj {cs new:List A} {off:Nat} {j:Id} (h:j∈A.lT (splice cs off new)):j∈A.lT cs∨j∈A.lT new:=by
 obtain ⟨a,h1,h2⟩:=jX.1 h;unfold splice at h1;rcases aU.1 h1 with h1 | h1
 ·rcases aU.1 h1 with h1 | h1
  ·exact .inl (jX.2 ⟨a,jU h1,h2⟩)
  ·exact .inr (jX.2 ⟨a,h1,h2⟩)
 ·exact .inl (jX.2 ⟨a,List.mem_of_mem_drop h1,h2⟩)
theorem EZ {place:Nat→Option (Nat×Nat)} {j:Id}:∀ {parts:List (Nat×A)} {cells out:List A},EY place cells parts=some out→j∈A.lT out→j∈A.lT cells∨∃ p,p∈parts∧j∈p.2.ids
 | [],cells,out,e,h=>by simp only [EY] at e;cases e;exact .inl h
 | (i,v)::rest,cells,out,e,h=>by
  simp only [EY] at e;split at e
  ·cases e
  ·split at e
   ·rcases EZ e h with h | ⟨p,h1,h2⟩
    ·rcases Fj h with h | h
     ·exact .inl h
     ·exact .inr ⟨(i,v), .head _,NL h⟩
    ·exact .inr ⟨p, .tail _ h1,h2⟩
   ·cases e
theorem RX {cs:List D} {j:Id}:¬ j∈A.lT (cs.map A.d):=by
 intro h;obtain ⟨a,h1,h2⟩:=jX.1 h;simp only [kX] at h1;obtain ⟨y,_,rfl⟩:=h1;cases h2
theorem Ox {P:Program} {t:TypeId} {parts:List (Nat×A)} {v:A} {j:Id} (e:zn P t parts=some v) (h:j∈v.ids):∃ p,p∈parts∧j∈p.2.ids:=by
 unfold zn at e;split at e
 ·split at e
  ·simp only [aQ] at e;obtain ⟨out,h1,rfl⟩:=e;rcases EZ h1 (BO h) with h | h
   ·exact absurd h RX
   ·exact h
  ·cases e
 ·split at e
  ·simp only [aQ] at e;obtain ⟨out,h1,rfl⟩:=e;rcases EZ h1 (BO h) with h | h
   ·exact absurd h RX
   ·exact h
  ·cases e
 ·cases e
theorem JV {env:Nat→Option A} {p:Nat×A}:∀ {xs:List (Nat×Operand)} {ps:List (Nat×A)},oH env xs=some ps→p∈ps→∃ x,x∈xs∧ay env x.2=some p.2
 | [],ps,e,h=>by simp only [oH] at e;cases e;cases h
 | (i,x)::xs,ps,e,h=>by
  simp only [oH] at e;split at e
  ·rename_i v vs h1 h2
   cases e;cases h with
   | head=>exact ⟨(i,x), .head _,h1⟩
   | tail _ h=>obtain ⟨y,k1,k2⟩:=JV h2 h;exact ⟨y, .tail _ k1,k2⟩
  ·cases e
theorem DY {env:Nat→Option A} {v:A}:∀ {xs:List Operand} {vs:List A},dR env xs=some vs→v∈vs→∃ x,x∈xs∧ay env x=some v
 | [],vs,e,h=>by simp only [dR] at e;cases e;cases h
 | x::xs,vs,e,h=>by
  simp only [dR] at e;split at e
  ·rename_i u us h1 h2
   cases e;cases h with
   | head=>exact ⟨x, .head _,h1⟩
   | tail _ h=>obtain ⟨y,k1,k2⟩:=DY h2 h;exact ⟨y, .tail _ k1,k2⟩
  ·cases e
theorem PG {agg:Bool} {sz off:Nat} {cs:List A} {v:A} {j:Id} (e:zy agg sz cs off=some v) (h:j∈v.ids):j∈A.lT cs:=by
 unfold zy at e;split at e
 ·split at e
  ·cases e;obtain ⟨a,h1,h2⟩:=jX.1 (BO h);exact jX.2 ⟨a,List.mem_of_mem_drop (jU h1),h2⟩
  ·cases e
 ·exact jX.2 ⟨v,dm e,h⟩
theorem BV {o:Option D} {dl:Delta} {v:A} {dl':Delta} (e:o.map (fun v=>(A.d v,dl))=some (v,dl')):v.ids=[]:=by
 cases o with
 | none=>cases e
 | some x=>cases e;rfl
theorem P6 {c:Cfg} {f:FuncId} {s:S} {t:TypeId} {x v:A} {lo hi mx:Option A} {dl:Delta} (hx:(∃ d,x = .d d)∨∃ xs,x = .tight xs) (e:pq c f s t x lo hi mx=some (v,dl)):v.ids=[]:=by
 have cut:∀ {sz xs o},pq.cut lo hi mx sz xs o=some (v,dl)→v.ids=[]:=by
  intro sz xs o e;unfold pq.cut at e;split at e
  ·cases e
  ·split at e
   ·split at e
    ·cases e;rfl
    ·split at e
     ·cases e;rfl
     ·cases e
   ·cases e
 unfold pq at e;split at e
 ·split at e
  ·cases e
  ·split at e
   ·cases e
   ·rcases hx with ⟨d,rfl⟩ | ⟨xs,rfl⟩
    ·cases d with
     | sl xs=>exact cut e
     | nilsl =>
      simp only at e;split at e
      ·split at e
       ·cases e;rfl
       ·cases e
      ·cases e
     | _=>cases e
    ·simp only at e;split at e
     ·split at e
      ·split at e
       ·cases e;rfl
       ·cases e
      ·cases e
     ·exact cut e
 ·cases e
theorem BQ {c:Cfg} {s:S} {t:TypeId} {x ix v:A} (hx:(∃ d,x = .d d)∨∃ xs,x = .tight xs) (e:fJ c s t x ix=some v):v.ids=[]:=by
 have pick:∀ {e' n xs},fJ.pick c e' n xs=some v→v.ids=[]:=by
  intro e' n xs e;unfold fJ.pick at e;split at e
  ·split at e
   ·split at e
    ·cases e;rfl
    ·cases e
   ·cases e
  ·cases e
 unfold fJ at e;split at e
 ·rcases hx with ⟨d,rfl⟩ | ⟨xs,rfl⟩
  ·split at e
   all_goals first | exact pick e | (rename_i q;cases q) | (rename_i q1 q2;cases q2) | cases e | (simp_all;done) | skip
  ·split at e
   all_goals first | exact pick e | (rename_i q;cases q) | (rename_i q1 q2;cases q2) | cases e | (simp_all;done) | skip
 ·cases e
theorem JG {s:S} {agg:Bool} {sz:Nat} {u v:A} (h:(∃ d,u = .d d)∨∃ e o,u = .pimm e o) (e:nZ s agg sz u=some v):v.ids=[]:=by
 rcases h with ⟨d,rfl⟩ | ⟨x,o,rfl⟩
 ·cases d with
  | pbox x=>simp only [nZ,aQ] at e;obtain ⟨y,_,rfl⟩:=e;rfl
  | _=>cases e
 ·simp only [nZ,aQ] at e;obtain ⟨y,_,rfl⟩:=e;rfl
theorem LG {c:Cfg} {s:S} {t:TypeId} {u n v:A} (h:∃ e o,u = .pimm e o) (e:fJ c s t u n=some v):v.ids=[]:=by
 obtain ⟨x,o,rfl⟩:=h;unfold fJ at e;split at e
 ·split at e<;>first | cases e | skip
  all_goals (rename_i q;first | cases q | skip)
  all_goals (split at e<;>first | cases e | skip)
  all_goals (split at e<;>first | cases e | skip)
  all_goals rfl
 ·cases e
theorem Py {c:Cfg} {f:FuncId} {call:FuncId→List A→Out→Option Ret} {env:Env} {s:S} {o:Oper} {v:A} (h:eG env o.op=false) (e:nT c f call (look env) s o=some (v, .same)) {j:Id} (hj:j∈v.ids) :
  ∃ x,x∈o.op.operands∧∃ u,ay (look env) x=some u∧j∈u.ids:=by
 obtain ⟨dst,op,type,pos,after,guard⟩:=o;have none:v.ids=[]→∃ x,x∈op.operands∧∃ u,ay (look env) x=some u∧j∈u.ids:=fun q=>by rw [q] at hj;cases hj
 cases op<;>simp only [nT] at e<;>try (simp [eG] at h;done)
 case move x =>
  simp only [aQ] at e;obtain ⟨u,h1,h2⟩:=e;cases h2;exact ⟨x,by simp [Op.operands],_,h1,hj⟩
 case assign x =>
  split at e
  ·split at e
   ·cases e;exact none rfl
   ·split at e
    ·cases e
    ·cases e;exact none rfl
  ·rename_i u h1 h2
   cases e;exact ⟨_,by simp [Op.operands],_,h2,hj⟩
  ·cases e
 case pick k x y =>
  split at e
  ·rename_i b h1
   simp only [aQ] at e;obtain ⟨u,h2,h3⟩:=e;cases h3;cases b
   ·exact ⟨y,by simp [Op.operands],_,h2,hj⟩
   ·exact ⟨x,by simp [Op.operands],_,h2,hj⟩
  ·cases e
 case build t ps =>
  split at e
  ·rename_i vs h1
   simp only [aQ] at e;obtain ⟨u,h2,h3⟩:=e;cases h3;obtain ⟨p,h4,h5⟩:=Ox h2 hj;obtain ⟨x,h6,h7⟩:=JV h1 h4;exact ⟨x.2,by simp only [Op.operands];exact (List.mem_toArray).2 (kX.2 ⟨x,h6,rfl⟩),_,h7,h5⟩
  ·cases e
 case buildSlice t n ps =>
  apply none;split at e
  ·rename_i vs h1
   unfold qc at e;split at e
   ·cases e
   ·split at e
    ·split at e
     ·split at e
      ·cases e
      ·split at e
       ·split at e
        ·split at e
         ·cases e
         ·cases e
        ·simp only [Option.some.injEq,Prod.mk.injEq] at e;rw [← e.1];rfl
       ·cases e
     ·cases e
    ·cases e
  ·cases e
 case nilCheck x =>
  split at e<;>(try cases e)<;>rename_i h1<;>exact ⟨x,by simp [Op.operands],_,h1,hj⟩
 case binOp op t x y t2 =>
  apply none;split at e
  ·exact BV e
  ·cases e
 case unOp op t x =>
  apply none;split at e
  ·exact BV e
  ·cases e
 case convert t t2 x =>
  apply none;split at e
  ·exact BV e
  ·cases e
 case makeFunc fn first captured =>
  cases fn<;>simp only [] at e
  case func g =>
   split at e
   ·split at e
    ·cases e;exact none rfl
    ·rename_i vs h1 h2
     cases e;simp only [A.ids] at hj;obtain ⟨a,h3,h4⟩:=jX.1 hj;obtain ⟨x,h5,h6⟩:=DY h2 h3;exact ⟨x,by simp [Op.operands];exact .inr (by simpa using h5),_,h6,h4⟩
    ·cases e
   ·cases e
  all_goals cases e
 case slice t x lo hi mx =>
  apply none;simp only [eG,jF] at h;split at e
  ·rename_i u l hh m hu hl hhh hm
   exact P6 (FH h hu) e
  ·cases e
 case fieldAddr t x i =>
  split at e
  ·rename_i u h1
   simp only [aQ] at e;obtain ⟨u',h2,h3⟩:=e;cases h3;refine ⟨x,by simp [Op.operands],u,h1,?_⟩;unfold qf at h2;split at h2
   ·split at h2
    ·cases h2
    ·split at h2<;>cases h2<;>first | exact hj | cases hj
   ·cases h2
  ·cases e
 case field t x i =>
  split at e
  ·rename_i u h1
   simp only [aQ] at e;obtain ⟨u',h2,h3⟩:=e;cases h3;refine ⟨x,by simp [Op.operands],u,h1,?_⟩;unfold Dc at h2;split at h2
   ·cases h2
   ·split at h2
    ·simp only [aQ] at h2;obtain ⟨u',h4,h5⟩:=h2;cases h5;cases hj
    ·exact PG h2 hj
    ·cases h2
  ·cases e
 case indexAddr t x ix =>
  apply none;simp only [eG,jF] at h;split at e
  ·rename_i u n hu hn
   simp only [aQ] at e;obtain ⟨u',h2,h3⟩:=e;cases h3;simp only [jl] at h;rcases h with h | h
   ·exact BQ (FH h hu) h2
   ·rcases IB h hu with ⟨d,hd⟩ | hq
    ·exact BQ (.inl ⟨d,hd⟩) h2
    ·exact LG hq h2
  ·cases e
 case load t x =>
  apply none;simp only [eG,jF] at h;split at e
  ·rename_i p sz hp hsz
   simp only [aQ] at e;obtain ⟨u',h2,h3⟩:=e;cases h3;exact JG (IB h hp) h2
  ·cases e
 case index t x ix =>
  apply none;split at e
  ·simp only [aQ] at e;obtain ⟨u',h2,h3⟩:=e;cases h3;unfold ES at h2;split at h2
   ·split at h2
    ·split at h2
     ·simp only [aQ] at h2;obtain ⟨u',h4,h5⟩:=h2;cases h5;rfl
     ·cases h2
    ·cases h2
   ·cases h2
  ·cases e
 case extract x i =>
  split at e
  ·rename_i vs h1
   simp only [aQ] at e;obtain ⟨u',h2,h3⟩:=e;cases h3;refine ⟨x,by simp [Op.operands],_,h1,?_⟩;simp only [A.ids];exact jX.2 ⟨_,dm h2,hj⟩
  ·cases e
 case call k =>
  apply none;obtain ⟨callee,args,ts⟩:=k;cases callee with
  | builtin b =>
   cases b<;>first | (simp [eG] at h;done) | skip
   all_goals
    simp only [BG] at e;split at e
    ·cases e
    ·simp only [jH] at e;split at e<;>first | exact BV e | cases e | (rename_i q _ _;cases q) | (simp_all;done) | skip
  | _=>simp [eG] at h
end Go.Lx
namespace Go.Lx
section
variable {P:Program} {ops:List Oper} {tr:Nat→Rec} {F:Facts} {mv rd:List Nat} {O:nY}
def HL (dep:Nat) (tr:Nat→Rec) (q:Nat) (L:Nat→Prop) (i:Id) (x:Blk):Prop :=
 (tr q).base.get i=some x∨(i.d=dep∧∃ k bs,L k∧q≤k∧(tr k).dl=some (.add bs)∧bV bs i.t i.n=some x)
structure Ic (ops:List Oper) (tr:Nat→Rec) (dep k:Nat):Prop where
 set:∀ s',(tr k).dl=some (.set s')→KE ops tr k s'∧Closed s'.get
 add:∀ bs,(tr k).dl=some (.add bs)→Closed ((small (eQ ops) tr k).plus bs).get
 val:∀ j,j∈(tr k).val.ids→(tr 0).base.has j∨∃ k',(k'=k∨Before ops k' k)∧Names tr (eQ ops) dep k' j
structure Start (O:nY) (tr:Nat→Rec):Prop where
 closed:Closed (tr 0).base.get
 env:∀ t v,look (tr 0).env t=some v→∀ j,j∈v.ids→(tr 0).base.has j
 dep:(tr 0).base.dep=O.out.length
structure Sim (P:Program) (O:nY) (ops:List Oper) (tr:Nat→Rec) (L:Nat→Prop) (a:Act) (w:World) (q:Nat) (V:View) (μ:Id→Pl) (sb:Go.Lx.S):Prop where
 kn:∀ k,L k→Ic ops tr O.out.length k
 cl:∀ k j,L k→Before ops j k→L j
 inb:∀ k,L k→k < ops.length
 qs:q=0∨∃ m s',q=m+1∧L m∧(tr m).dl=some (.set s')
 sets:∀ m s',L m→(tr m).dl=some (.set s')→m < q
 adds:(tr q).adds=[]
 mem:∀ i x,sb.get i=some x↔HL O.out.length tr q L i x
 inv:Inv P V sb.get μ w
 env:∀ t v,Ja ops tr L t v→iI P V sb.get μ v (a.tmps.getD t undef)
 evo:Evo O.V O.h O.μ O.w V sb.get μ w
 outb:sb.out=O.out
 outq:(tr q).base.out=O.out
 size:a.tmps.size=O.n
 defers:a.defers=[]
structure Turn (ops:List Oper) (L:Nat→Prop) (i:Nat) (o:Oper):Prop where
 here:ops[i]?=some o
 done:∀ j,Before ops j i→L j
 new:¬ L i
theorem Turn.lt {L:Nat→Prop} {i:Nat} {o:Oper} (U:Turn ops L i o):i < ops.length:=(aC.1 U.here).1
variable {L:Nat→Prop} {a:Act} {w:World} {q:Nat} {V:View} {μ:Id→Pl} {sb:Go.Lx.S} {i:Nat} {o:Oper}
theorem Sim.TQ (M:Sim P O ops tr L a w q V μ sb) (U:Turn ops L i o):∀ j,L j→¬ Before ops i j:=fun j hj hb=>U.new (M.cl j i hj hb)
theorem Sim.phase (M:Sim P O ops tr L a w q V μ sb) (T:Tr P F ops tr mv rd) (U:Turn ops L i o) (he:i∈rd∨i∈mv) :
  q≤i∧(∀ m s',q≤m→m < i→(tr m).dl≠some (.set s'))∧(tr i).base=(tr q).base∧∀ j bs,(j,bs)∈(tr i).adds↔q≤j∧j < i∧(tr j).dl=some (.add bs):=by
 have hil:=U.lt;have hq:q≤i:=by
  rcases M.qs with h | ⟨m,s',h1,h2,h3⟩
  ·omega
  ·have hm:=T.moved (M.inb m h2) h3;rcases T.ord.mem m hm.1 i o U.here (fun e=>U.new (e ▸ h2)) he with z | z
   ·have:=nK T.ord.ord i hil z;omega
   ·exact absurd z (M.TQ U m h2)
 have hno:∀ m s',q≤m→m < i→(tr m).dl≠some (.set s'):=by
  intro m s' h1 h2 h3;have hm:=T.moved (by omega) h3;rcases T.ord.mem m hm.1 i o U.here (by omega) he with z | z
  ·have:=M.sets m s' (U.done m z) h3;omega
  ·have:=nK T.ord.ord m (by omega) z;omega
 have:=Go.Lx.phase T.step M.adds i hq (by omega) hno;exact ⟨hq,hno,this⟩
theorem Sim.Oc (M:Sim P O ops tr L a w q V μ sb) (T:Tr P F ops tr mv rd) {k:Nat} (hk:k < ops.length) (hd:∀ j,Before ops j k→L j) (he:k∈rd∨k∈mv):∀ m s',m < k→(tr m).dl=some (.set s')→Before ops m k∧KE ops tr m s':=by
 intro m s' h1 h2;have hm:=T.moved (by omega) h2;rcases T.ord.mem m hm.1 k _ (ax hk) (by omega) he with z | z
 ·exact ⟨z,((M.kn m (hd m z)).set s' h2).1⟩
 ·have:=nK T.ord.ord m (by omega) z;omega
theorem Sim.dom (M:Sim P O ops tr L a w q V μ sb) (T:Tr P F ops tr mv rd) (Z:Start O tr) {k:Nat} (hk:k < ops.length) (hd:∀ j,Before ops j k→L j) (he:k∈rd∨k∈mv) :
  (tr k).base.dep=O.out.length∧∀ j,(small (eQ ops) tr k).has j↔(tr 0).base.has j∨∃ k',Before ops k' k∧Names tr (eQ ops) O.out.length k' j :=
 T.dom Z.dep k hk (M.Oc T hk hd he)
theorem Sim.sub (M:Sim P O ops tr L a w q V μ sb) (T:Tr P F ops tr mv rd) (Z:Start O tr) (U:Turn ops L i o) (he:i∈rd∨i∈mv):∀ j x,(small (eQ ops) tr i).get j=some x→sb.get j=some x:=by
 intro j x h;obtain ⟨h1,h2,h3,h4⟩:=M.phase T U he;have hdep:=(M.dom T Z U.lt U.done he).1;rw [M.mem];unfold small at h;rw [tY,hdep] at h;split at h
 ·rename_i e
  split at h
  ·rename_i b hb
   cases h;obtain ⟨k,bs,z1,z2,z3⟩:=vP hb;obtain ⟨y1,y2,y3⟩:=(h4 k bs).1 z1;exact .inr ⟨e,k,bs,U.done k z2,y1,y3,z3⟩
  ·exact .inl (by rw [← h3];exact h)
 ·exact .inl (by rw [← h3];exact h)
theorem Sim.KU (M:Sim P O ops tr L a w q V μ sb) (T:Tr P F ops tr mv rd) (Z:Start O tr) (U:Turn ops L i o) (he:i∈rd∨i∈mv):Closed (small (eQ ops) tr i).get:=by
 intro id cs hid j hj;obtain ⟨h1,h2,h3,h4⟩:=M.phase T U he;obtain ⟨hdep,dom⟩:=M.dom T Z U.lt U.done he
 show (small (eQ ops) tr i).has j
 have base:(tr i).base.get id=some cs→(small (eQ ops) tr i).has j:=by
  intro hb;unfold small;rw [BM];rcases M.qs with hq | ⟨m,s',k1,k2,k3⟩
  ·have:=Z.closed id cs (by rw [← hq,← h3];exact hb) j hj;exact .inr (by rw [h3,hq];exact this)
  ·have hs:=(T.moved (M.inb m k2) k3).2.1;rw [← k1,← h3] at hs;have:=((M.kn m k2).set s' k3).2 id cs (by rw [← hs];exact hb) j hj;exact .inr (by rw [hs];exact this)
 unfold small at hid;rw [tY,hdep] at hid;split at hid
 ·rename_i e
  split at hid
  ·rename_i b hb
   cases hid;obtain ⟨k,bs,z1,z2,z3⟩:=vP hb;obtain ⟨y1,y2,y3⟩:=(h4 k bs).1 z1;have hkl:k < ops.length:=by have:=U.lt;omega
   have hLk:=U.done k z2;obtain ⟨hdk,domk⟩:=M.dom T Z hkl (fun j hj=>M.cl k j hLk hj) (.inl (T.laid hkl y3).1);have hdk':(small (eQ ops) tr k).dep=O.out.length:=hdk;have hc:=(M.kn k hLk).add bs y3 id cs (by rw [tY,hdk',if_pos e,z3]) j hj;rcases BM.1 hc with ⟨q1,q2⟩ | q1
   ·rw [dom];refine .inr ⟨k,z2,?_⟩;unfold Names;rw [y3];exact ⟨by rw [← hdk'];exact q1,q2⟩
   ·rw [dom];rcases (domk j).1 q1 with p | ⟨k',p1,p2⟩
    ·exact .inl p
    ·exact .inr ⟨k',before_trans T.ord.ord p1 i U.lt z2,p2⟩
  ·exact base hid
 ·exact base hid
theorem Sim.operands (M:Sim P O ops tr L a w q V μ sb) (T:Tr P F ops tr mv rd) (Z:Start O tr) (U:Turn ops L i o) {t:Nat} {v:A} (h:look (zl ops o (tr i).env) t=some v) :
  Ja ops tr L t v∧∀ j,j∈v.ids→(tr 0).base.has j∨∃ k,Before ops k i∧Names tr (eQ ops) O.out.length k j:=by
 obtain ⟨h1,h2⟩:=C9 h;have hl:=LM (fun j o ho=>(T.step j o ho).1) i (Nat.le_of_lt U.lt) t v h2;refine ⟨IL T.ord U.here U.done (M.TQ U) U.new h1 hl,?_⟩;intro j hj;rcases hl with ⟨k,p,k1,k2,k3,k4,_⟩ | ⟨_,k2⟩
 ·have hb:Before ops k i:=by
   rcases T.ord.names k i p o k2 U.here (by omega) with (z | z) | z
   ·exact z
   ·have:=nK T.ord.ord k (by have:=U.lt;omega) z;omega
   ·exact absurd h1 (z t k3).1
  subst k4;rcases (M.kn k (U.done k hb)).val j hj with z | ⟨k',z1,z2⟩
  ·exact .inl z
  ·refine .inr ⟨k',?_,z2⟩;rcases z1 with rfl | z1
   ·exact hb
   ·exact before_trans T.ord.ord z1 i U.lt hb
 ·exact .inl (Z.env t v k2 j hj)
theorem Sim.Um (M:Sim P O ops tr L a w q V μ sb) (T:Tr P F ops tr mv rd) (Z:Start O tr) (U:Turn ops L i o):pM P V sb.get μ (zl ops o (tr i).env) a.tmps :=
 fun t v hv=>M.env t v (M.operands T Z U hv).1
theorem Sim.QD (M:Sim P O ops tr L a w q V μ sb) (T:Tr P F ops tr mv rd) (Z:Start O tr) (U:Turn ops L i o) (he:i∈rd∨i∈mv):pM P V (small (eQ ops) tr i).get μ (zl ops o (tr i).env) a.tmps:=by
 intro t v hv;obtain ⟨h1,h2⟩:=M.operands T Z U hv;refine (M.env t v h1).mono (.refl V) (fun j hj b hb=>?_);obtain ⟨x,hx⟩:=((M.dom T Z U.lt U.done he).2 j).2 (h2 j hj);have:=M.sub T Z U he j x hx;rw [hb] at this;cases this;exact ⟨b,hx, .refl _ _⟩
theorem Sim.QO (M:Sim P O ops tr L a w q V μ sb) (T:Tr P F ops tr mv rd) (Z:Start O tr) (U:Turn ops L i o) (he:i∈rd∨i∈mv):Inv P V (small (eQ ops) tr i).get μ w:=by
 refine M.inv.sub (M.sub T Z U he) (fun id cs hid j hj b hb=>?_);obtain ⟨x,hx⟩:=M.KU T Z U he id cs hid j hj;have:=M.sub T Z U he j x hx;rw [hb] at this;cases this;exact hx
theorem Sim.fresh (M:Sim P O ops tr L a w q V μ sb) (T:Tr P F ops tr mv rd) (U:Turn ops L i o) {bs:Loc} (hd:(tr i).dl=some (.add bs)) {j:Id} (hbase:(tr i).base.dep=O.out.length) (e:j.d=O.out.length) {x:Blk} (hx:bV bs j.t j.n=some x):sb.get j=none:=by
 have he:i∈rd∨i∈mv := .inl (T.laid U.lt hd).1;obtain ⟨h1,h2,h3,h4⟩:=M.phase T U he;cases hs:sb.get j with
 | none=>rfl
 | some y =>
  exfalso
  obtain ⟨f1,f2⟩:=T.free M.adds U.lt h1 h2 hd hx;rcases (M.mem j y).1 hs with z | ⟨_,k,cs,z1,z2,z3,z4⟩
  ·unfold S.get at z;rw [if_pos (by rw [e,← h3,hbase])] at z;rw [f1] at z;cases z
  ·have hkl:=M.inb k z1;by_cases hki:k < i
   ·rw [f2 k cs z2 hki z3] at z4;cases z4
   ·have hne:k≠i:=fun e=>U.new (e ▸ z1)
    have hno:∀ m s',q≤m→m < k→(tr m).dl≠some (.set s'):=by
     intro m s' a1 a2 a3;have hm:=T.moved (by omega) a3;rcases T.ord.mem m hm.1 k _ (ax hkl) (by omega) (.inl (T.laid hkl z3).1) with y | y
     ·have:=M.sets m s' (M.cl k m z1 y) a3;omega
     ·have:=nK T.ord.ord m (by omega) y;omega
    have:=(T.free M.adds hkl z2 hno z3 z4).2 i bs h1 (by omega) hd;rw [hx] at this;cases this
theorem Jb (M:Sim P O ops tr L a w q V μ sb) (T:Tr P F ops tr mv rd) (U:Turn ops L i o) (hd:xh O.n ops=true) {V':View} {μ':Id→Pl} {sb':Go.Lx.S} {cv:Value} (E':∀ {v cv},iI P V sb.get μ v cv→iI P V' sb'.get μ' v cv)
  (H':iI P V' sb'.get μ' (tr i).val cv):∀ t v,Ja ops tr (fun k=>L k∨k=i) t v→iI P V' sb'.get μ' v ((a.put o.dst cv).tmps.getD t undef):=by
 intro t v hv;have hsz:∀ d,o.dst=some d→d < a.tmps.size:=fun d hq=>by
  rw [M.size];exact xk (ops:=ops.toArray) (by simpa using hd) (i:=i) (by simpa using U.here) hq
 rcases QV T.ord U.here U.done (M.TQ U) U.new hv with ⟨e1,rfl⟩ | ⟨e1,e2⟩
 ·have:(a.put o.dst cv).tmps.getD t undef=cv:=by rw [e1];simp [Act.put,hsz t e1]
  rw [this];exact H'
 ·have:(a.put o.dst cv).tmps.getD t undef=a.tmps.getD t undef:=by
   cases hq:o.dst with
   | none=>rfl
   | some d =>
    have hne:d≠t:=fun z=>e1 (by rw [hq,z])
    simp [Act.put,iQ hne]
  rw [this];exact E' (M.env t v e2)
theorem Sim.cl' (M:Sim P O ops tr L a w q V μ sb) (U:Turn ops L i o):∀ k j,(L k∨k=i)→Before ops j k→(L j∨j=i):=by
 rintro k j (h | rfl) hb
 ·exact .inl (M.cl k j h hb)
 ·exact .inl (U.done j hb)
theorem Sim.keep (M:Sim P O ops tr L a w q V μ sb) (T:Tr P F ops tr mv rd) (U:Turn ops L i o) (hd:xh O.n ops=true) (hset:∀ s',(tr i).dl≠some (.set s')) (hk:Ic ops tr O.out.length i) {V':View} {μ':Id→Pl} {sb':Go.Lx.S} {w':World} {cv:Value}
  (I':Inv P V' sb'.get μ' w') (E':Evo V sb.get μ w V' sb'.get μ' w') (H':iI P V' sb'.get μ' (tr i).val cv) (hm:∀ j x,sb'.get j=some x↔HL O.out.length tr q (fun k=>L k∨k=i) j x) (ho:sb'.out=O.out) :
  Sim P O ops tr (fun k=>L k∨k=i) (a.put o.dst cv) w' q V' μ' sb' where
 kn:=by
  rintro k (h | rfl)
  ·exact M.kn k h
  ·exact hk
 cl:=M.cl' U
 inb:=by
  rintro k (h | rfl)
  ·exact M.inb k h
  ·exact U.lt
 qs:=by
  rcases M.qs with h | ⟨m,s',e1,e2,e3⟩
  ·exact .inl h
  ·exact .inr ⟨m,s',e1, .inl e2,e3⟩
 sets:=by
  rintro m s' (h | rfl) hs
  ·exact M.sets m s' h hs
  ·exact absurd hs (hset s')
 adds:=M.adds
 mem:=hm
 inv:=I'
 env:=Jb M T U hd E'.zI H'
 evo:=M.evo.trans E'
 outb:=ho
 outq:=M.outq
 size:=by rw [qQ];exact M.size
 defers:=by rw [put_defers];exact M.defers
theorem Sim.change (M:Sim P O ops tr L a w q V μ sb) (T:Tr P F ops tr mv rd) (U:Turn ops L i o) (hd:xh O.n ops=true) {s':Go.Lx.S} (hset:(tr i).dl=some (.set s')) (hk:Ic ops tr O.out.length i) {V':View} {μ':Id→Pl} {w':World} {cv:Value}
  (I':Inv P V' s'.get μ' w') (E':Evo V sb.get μ w V' s'.get μ' w') (H':iI P V' s'.get μ' (tr i).val cv) (ho:s'.out=O.out) :
  Sim P O ops tr (fun k=>L k∨k=i) (a.put o.dst cv) w' (i+1) V' μ' s' where
 kn:=by
  rintro k (h | rfl)
  ·exact M.kn k h
  ·exact hk
 cl:=M.cl' U
 inb:=by
  rintro k (h | rfl)
  ·exact M.inb k h
  ·exact U.lt
 qs := .inr ⟨i,s',rfl, .inr rfl,hset⟩
 sets:=by
  rintro m s'' (h | rfl) hs
  ·have:=M.sets m s'' h hs;have:=(M.phase T U (.inr (T.moved U.lt hset).1)).1;omega
  ·omega
 adds:=(T.moved U.lt hset).2.2.1
 mem:=by
  intro j x;unfold HL;rw [(T.moved U.lt hset).2.1];constructor
  ·exact .inl
  ·rintro (h | ⟨_,k,bs,h1,h2,h3,_⟩)
   ·exact h
   ·exfalso
    rcases h1 with h1 | rfl
    ·have hkl:=M.inb k h1;rcases T.ord.mem i (T.moved U.lt hset).1 k _ (ax hkl) (by omega) (.inl (T.laid hkl h3).1) with z | z
     ·exact M.TQ U k h1 z
     ·have:=nK T.ord.ord i U.lt z;omega
    ·omega
 inv:=I'
 env:=Jb M T U hd E'.zI H'
 evo:=M.evo.trans E'
 outb:=ho
 outq:=by rw [(T.moved U.lt hset).2.1];exact ho
 size:=by rw [qQ];exact M.size
 defers:=by rw [put_defers];exact M.defers
end
end Go.Lx
namespace Go.Lx
section
variable {P:Program} {opsA:Array Oper} {tr:Nat→Rec} {F:Facts} {mv rd:List Nat} {O:nY}
variable {L:Nat→Prop} {a:Act} {w:World} {q:Nat} {V:View} {μ:Id→Pl} {sb:Go.Lx.S} {i:Nat} {o:Oper}
theorem LQ {env env':Env} {x:Operand} (h:ay (look env) x=ay (look env') x):wP env x=wP env' x:=by
 cases x with
 | tmp t=>simp only [ay] at h;simp only [wP,h]
 | _=>rfl
theorem DV {env env':Env} {x:Operand} (h:ay (look env) x=ay (look env') x):Fp env x=Fp env' x:=by
 cases x with
 | tmp t=>simp only [ay] at h;simp only [Fp,h]
 | _=>rfl
theorem EE {α:Type} {p p':α→Bool}:∀ {l:List α},(∀ x,x∈l→p x=p' x)→l.all p=l.all p'
 | [],_=>rfl
 | x::l,h=>by simp only [List.all_cons];rw [h x (.head _),EE (fun y hy=>h y (.tail _ hy))]
theorem D5 {ops:List Oper} {o:Oper} {env:Env}:eG env o.op=eG (zl ops o env) o.op:=by
 have key:∀ x,x∈o.op.operands→wP env x=wP (zl ops o env) x:=fun x hx=>LQ (uT x hx)
 have op:∀ x,x∈o.op.operands→ay (look env) x=ay (look (zl ops o env)) x:=uT
 revert key op
 generalize zl ops o env=env';intro key op;obtain ⟨dst,oo,type,pos,after,guard⟩:=o;simp only at key op ⊢;cases oo<;>simp only [Op.operands] at key op<;>try rfl
 case slice t x lo hi mx=>simp only [eG];rw [key x (by simp)]
 case indexAddr t x ix=>simp only [eG];rw [key x (by simp),DV (op x (by simp))]
 case load t x=>simp only [eG];rw [DV (op x (by simp))]
 case binOp b t x y t2=>simp only [eG];rw [key x (by simp),key y (by simp)]
 case buildSlice t n ps =>
  simp only [eG];rw [EE (l:=ps.toList) (p:=fun x=>wP env x.2) (p':=fun x=>wP env' x.2) (fun x hx=>key x.2 (by simp only [List.mem_toArray,kX];exact ⟨x,hx,rfl⟩))]
 case call k =>
  obtain ⟨callee,args,ts⟩:=k;cases callee with
  | builtin b =>
   cases b<;>try rfl
   simp only [eG];rw [EE (l:=args.toList)];intro x hx;have h1:=op x (by simp [Call.operands];simpa using hx);have h2:=key x (by simp [Call.operands];simpa using hx);cases x with
   | tmp t=>simp only [ay] at h1;simp only [h1,h2]
   | _=>rfl
  | _=>rfl
theorem iJ.only {env:Env} {s:Go.Lx.S} {v:A} {dl:Delta} (h:iJ P env s o v dl) (ops:List Oper):iJ P (zl ops o env) s o v dl:=by
 rcases h.ex with ⟨c,f,call,h1,h2,h3,v0,e,hw⟩ | ⟨h1,h2⟩
 ·exact ⟨.inl ⟨c,f,call,h1,h2,h3,v0,by rw [← NH (env:=look env) o uT];exact e,hw⟩⟩
 ·exact ⟨.inr ⟨by rw [← D5];exact h1,fun V μ w I a R K Q hK=>h2 V μ w I a (fun x hx u hu=>R x hx u (by rw [← uT x hx];exact hu)) K Q hK⟩⟩
theorem iJ.anywhere {env:Env} {s s2:Go.Lx.S} {v:A} (h:iJ P env s o v .same) (hr:eG env o.op=false):iJ P env s2 o v .same:=by
 rcases h.ex with ⟨c,f,call,h1,h2,h3,v0,e,hw⟩ | ⟨h1,_⟩
 case inr=>rw [hr] at h1;cases h1
 refine ⟨.inl ⟨c,f,call,h1,h2,h3,v0,?_,hw⟩⟩;by_cases hcall:∃ k,o.op = .call k
 ·obtain ⟨k,hk⟩:=hcall;exact NW hk hr e
 ·exact Q5 (fun k hk=>hcall ⟨k,hk⟩) hr e
theorem iJ.ids {env:Env} {s:Go.Lx.S} {v:A} (h:iJ P env s o v .same) (hr:eG env o.op=false) {j:Id} (hj:j∈v.ids):∃ x,x∈o.op.operands∧∃ u,ay (look env) x=some u∧j∈u.ids:=by
 rcases h.ex with ⟨c,f,call,h1,h2,h3,v0,e,hw⟩ | ⟨h1,_⟩
 case inr=>rw [hr] at h1;cases h1
 exact Py hr e (hw.ids j hj)
theorem Sim.IJ (M:Sim P O opsA.toList tr L a w q V μ sb) (U:Turn opsA.toList L i o) (hadd:∀ bs,(tr i).dl≠some (.add bs)):∀ j x,sb.get j=some x↔HL O.out.length tr q (fun k=>L k∨k=i) j x:=by
 intro j x;rw [M.mem];constructor
 ·rintro (z | ⟨z1,k,bs,z2,z3⟩)
  ·exact .inl z
  ·exact .inr ⟨z1,k,bs, .inl z2,z3⟩
 ·rintro (z | ⟨z1,k,bs,z2 | z2,z3,z4,z5⟩)
  ·exact .inl z
  ·exact .inr ⟨z1,k,bs,z2,z3,z4,z5⟩
  ·subst z2;exact absurd z4 (hadd bs)
theorem KO (ops:List Oper):(eQ ops).length=ops.length:=by
 have key:∀ (l:List Oper) (acc:List Nat),(l.foldl (fun (acc:List Nat) o=>acc++[o.after.toList.foldl (fun s e=>if Region.binds .any e then s ||| 2 ^ e.on ||| acc.getD e.on 0 else s) 0]) acc).length=acc.length+l.length:=by
  intro l
  induction l with
  | nil=>intro acc;rfl
  | cons o l ih=>intro acc;rw [lZ,ih];simp;omega
 have:=key ops [];simpa [eQ] using this
theorem Sim.step (M:Sim P O opsA.toList tr L a w q V μ sb) (T:Tr P F opsA.toList tr mv rd) (Z:Start O tr) (U:Turn opsA.toList L i o) (hd:xh O.n opsA.toList=true)
  {K:Act→World→Prop} {Q:Exit→Act→World→Prop} (hK:∀ a' w' q' V' μ' sb',Sim P O opsA.toList tr (fun k=>L k∨k=i) a' w' q' V' μ' sb'→K a' w'):wpOp P opsA Q i K a w:=by
 have hget:opsA[i]?=some o:=by simpa using U.here
 unfold wpOp;rw [hget];simp only;have hR:=M.Um T Z U;have hgd:∀ b,jZ opsA.toList (tr i).env o=some b→Region.wanted o (yielded opsA a.tmps)=b:=by
  intro b hb;rw [KZ] at hb;exact Fe hR hb (by rw [M.size];exact hd)
 obtain ⟨henv,hst⟩:=T.step i o U.here;cases hdl:(tr i).dl with
 | none =>
  rw [hdl] at hst;rw [hgd false hst.1];simp only [aN,aI];have hval:(tr i).val = .undef:=hst.2.1;have hk:Ic opsA.toList tr O.out.length i:=⟨fun s' h=>(by rw [hdl] at h;cases h),fun bs h=>(by rw [hdl] at h;cases h),fun j hj=>by rw [hval] at hj;cases hj⟩
  exact hK _ _ _ _ _ _ (M.keep T U hd (fun s' h=>by rw [hdl] at h;cases h) hk M.inv (Evo.refl _ _ _ _) (by rw [hval];exact .undef) (M.IJ U (fun bs h=>by rw [hdl] at h;cases h)) M.outb)
 | some dl =>
  rw [hdl] at hst;obtain ⟨hg,hop,hrd,hst⟩:=hst;rw [hgd true hg];simp only [aS];left;have hop:=hop.only opsA.toList;have run:(i∈rd∨i∈mv)→(∀ cv w',Left P V (small (eQ opsA.toList) tr i) μ w (dl.apply (small (eQ opsA.toList) tr i)) (tr i).val cv w'→K (a.put o.dst cv) w')→o.wp P a w K Q :=
   fun he hh=>hop.sound (M.QO T Z U he) (M.QD T Z U he) hh
  have dom:=fun he=>M.dom T Z U.lt U.done he
  cases dl with
  | same =>
   by_cases hr:eG (tr i).env o.op=true
   ·rcases hrd (by rw [hr];rfl) with hrd | hloc
    case inr =>
     have hq:q≤opsA.toList.length:=by
      rcases M.qs with h | ⟨m,s',h1,h2,h3⟩
      ·omega
      ·have:=M.inb m h2;omega
     obtain ⟨hloc,hlate⟩:=hloc;have hqK:q≤kOf F:=by
      rcases M.qs with h | ⟨m,s',h1,h2,h3⟩
      ·omega
      ·have hm:=M.inb m h2;have hbl:m < (eQ opsA.toList).length:=by rw [KO];exact hm
       have:=aW.1 hlate m (kP.2 hbl);rw [jl] at this;rcases this with h | h
       ·have:=dQ h;omega
       ·exact absurd h (M.TQ U m h2)
     have hfac:Be sb F:=fun p hp=>by
      rcases T.fac q hq hqK p hp with hg | ⟨b,h1,h2⟩
      ·exact .inl hg
      ·exact .inr ⟨b,(M.mem p.1 b).2 (.inl h1),h2⟩
     refine ((hloc.ok sb hfac).only opsA.toList).sound M.inv hR (fun cv w' hl=>?_);obtain ⟨V',μ',h1,h2,h3,h4⟩:=hl;have hk:Ic opsA.toList tr O.out.length i:=by
      refine ⟨fun s' h=>(by rw [hdl] at h;cases h),fun bs h=>(by rw [hdl] at h;cases h),fun j hj=>?_⟩;obtain ⟨p,hp,hng,rfl | ⟨cs,e,hj2⟩⟩:=hloc.ids j hj
      ·obtain ⟨b,h1,_⟩:=(T.fac 0 (kE _) (kE _) p hp).resolve_left hng;exact .inl ⟨b,h1⟩
      ·obtain ⟨b,h1,h2⟩:=(T.fac 0 (kE _) (kE _) p hp).resolve_left hng;rcases h2 with h2 | ⟨c1,c2,e1,e2,h2⟩
       ·exact .inl (Z.closed p.1 (.box cs) (by rw [← e,h2];exact h1) j hj2)
       ·rw [e] at e1;cases e1;subst e2;exact .inl (Z.closed p.1 (.box c2) h1 j (h2.ids hj2))
     exact hK _ _ _ _ _ _ (M.keep T U hd (fun s' h=>by rw [hdl] at h;cases h) hk h2 h3 h1 (M.IJ U (fun bs h=>by rw [hdl] at h;cases h)) M.outb)
    have he:i∈rd∨i∈mv := .inl hrd;refine run he (fun cv w' hl=>?_);obtain ⟨V',μ',h1,h2,h3,h4⟩:=hl;have hsub:=M.sub T Z U he;have hj:Aa (small (eQ opsA.toList) tr i).get sb.get=sb.get:=by
     funext j
     unfold Aa;cases hs:(small (eQ opsA.toList) tr i).get j with
     | none=>rfl
     | some b=>exact (hsub j b hs).symm
    obtain ⟨k1,k2⟩:=M.inv.join hsub h2 h3 (fun j b k1 k2=>by rw [show (Delta.same.apply (small (eQ opsA.toList) tr i)).get=(small (eQ opsA.toList) tr i).get from rfl,k2] at k1;cases k1);have hsame:(Delta.same.apply (small (eQ opsA.toList) tr i)).get=(small (eQ opsA.toList) tr i).get:=rfl;rw [hsame] at k1 k2 h1;have h1':iI P V' (Aa (small (eQ opsA.toList) tr i).get sb.get) (Dk (small (eQ opsA.toList) tr i).get μ' μ) (tr i).val cv :=
     h1.mono (.refl _) (fun j _ b hb=>⟨b,sZ hb,by rw [nP hb];exact .refl _ _⟩)
    rw [hj] at k1 k2 h1';have hk:Ic opsA.toList tr O.out.length i:=by
     refine ⟨fun s' h=>(by rw [hdl] at h;cases h),fun bs h=>(by rw [hdl] at h;cases h),fun j hj=>?_⟩;rcases (((dom he).2 j).1 (uO h1 j hj)) with z | ⟨k,z1,z2⟩
     ·exact .inl z
     ·exact .inr ⟨k, .inr z1,z2⟩
    exact hK _ _ _ _ _ _ (M.keep T U hd (fun s' h=>by rw [hdl] at h;cases h) hk k1 k2 h1' (M.IJ U (fun bs h=>by rw [hdl] at h;cases h)) M.outb)
   ·have hr':eG (tr i).env o.op=false:=by simpa using hr
    have hr2:eG (zl opsA.toList o (tr i).env) o.op=false:=by
     rw [← hr'];exact (D5).symm
    have hop2:iJ P (zl opsA.toList o (tr i).env) sb o (tr i).val .same:=hop.anywhere hr2;refine hop2.sound M.inv hR (fun cv w' hl=>?_);obtain ⟨V',μ',h1,h2,h3,h4⟩:=hl;have hk:Ic opsA.toList tr O.out.length i:=by
     refine ⟨fun s' h=>(by rw [hdl] at h;cases h),fun bs h=>(by rw [hdl] at h;cases h),fun j hj=>?_⟩;obtain ⟨x,hx,u,hu,hju⟩:=hop2.ids hr2 hj;cases x with
     | tmp t =>
      rcases (M.operands T Z U hu).2 j hju with z | ⟨k,z1,z2⟩
      ·exact .inl z
      ·exact .inr ⟨k, .inr z1,z2⟩
     | const v =>
      simp only [ay] at hu;cases hv:ofValue v<;>rw [hv] at hu<;>cases hu
      cases hju
     | func g=>cases hu;cases hju
     | global g=>cases hu
    exact hK _ _ _ _ _ _ (M.keep T U hd (fun s' h=>by rw [hdl] at h;cases h) hk h2 h3 h1 (M.IJ U (fun bs h=>by rw [hdl] at h;cases h)) M.outb)
  | add bs =>
   have he:i∈rd∨i∈mv := .inl (T.laid U.lt hdl).1;refine run he (fun cv w' hl=>?_);obtain ⟨V',μ',h1,h2,h3,h4⟩:=hl;have hsub:=M.sub T Z U he;have hdep:=(dom he).1;have hsd:(small (eQ opsA.toList) tr i).dep=O.out.length:=hdep;have hbd:sb.dep=O.out.length:=by unfold S.dep;rw [M.outb]
   change iI P V' ((small (eQ opsA.toList) tr i).plus bs).get μ' _ cv at h1;change Inv P V' ((small (eQ opsA.toList) tr i).plus bs).get μ' w' at h2;change Evo V (small (eQ opsA.toList) tr i).get μ w V' ((small (eQ opsA.toList) tr i).plus bs).get μ' w' at h3;have hfresh:∀ j x,j.d=O.out.length→bV bs j.t j.n=some x→sb.get j=none:=fun j x e hx=>M.fresh T U hdl hdep e hx
   have hj:Aa ((small (eQ opsA.toList) tr i).plus bs).get sb.get=(sb.plus bs).get:=by
    funext j
    unfold Aa;rw [tY,tY,hsd,hbd];by_cases e:j.d=O.out.length
    ·rw [if_pos e,if_pos e];cases hf:bV bs j.t j.n with
     | some b=>rfl
     | none =>
      simp only;cases hs:(small (eQ opsA.toList) tr i).get j with
      | none=>rfl
      | some b=>exact (hsub j b hs).symm
    ·rw [if_neg e,if_neg e];cases hs:(small (eQ opsA.toList) tr i).get j with
     | none=>rfl
     | some b=>exact (hsub j b hs).symm
   obtain ⟨k1,k2⟩:=M.inv.join hsub h2 h3 (fun j b k1 k2=>by
    rw [tY,hsd] at k1;split at k1
    ·rename_i e
     split at k1
     ·rename_i x hx;exact hfresh j x e hx
     ·rw [k2] at k1;cases k1
    ·rw [k2] at k1;cases k1)
   have h1':iI P V' (Aa ((small (eQ opsA.toList) tr i).plus bs).get sb.get) (Dk ((small (eQ opsA.toList) tr i).plus bs).get μ' μ) (tr i).val cv :=
    h1.mono (.refl _) (fun j _ b hb=>⟨b,sZ hb,by rw [nP hb];exact .refl _ _⟩)
   rw [hj] at k1 k2 h1';have hk:Ic opsA.toList tr O.out.length i:=by
    refine ⟨fun s' h=>(by rw [hdl] at h;cases h),fun bs' h=>(by rw [hdl] at h;cases h;exact h2.closed),fun j hj=>?_⟩;rcases BM.1 (uO h1 j hj) with ⟨z1,z2⟩ | z
    ·exact .inr ⟨i, .inl rfl,by unfold Names;rw [hdl];exact ⟨by rw [← hsd];exact z1,z2⟩⟩
    ·rcases ((dom he).2 j).1 z with z | ⟨k,z1,z2⟩
     ·exact .inl z
     ·exact .inr ⟨k, .inr z1,z2⟩
   refine hK _ _ _ _ _ _ (M.keep T U hd (fun s' h=>by rw [hdl] at h;cases h) hk k1 k2 h1' ?_ M.outb);intro j x;rw [tY,hbd];constructor
   ·intro h;split at h
    ·rename_i e
     split at h
     ·rename_i y hy
      cases h;exact .inr ⟨e,i,bs, .inr rfl,(M.phase T U he).1,hdl,hy⟩
     ·rcases (M.mem j x).1 h with z | ⟨z1,k,cs,z2,z3⟩
      ·exact .inl z
      ·exact .inr ⟨z1,k,cs, .inl z2,z3⟩
    ·rcases (M.mem j x).1 h with z | ⟨z1,k,cs,z2,z3⟩
     ·exact .inl z
     ·exact .inr ⟨z1,k,cs, .inl z2,z3⟩
   ·intro h;have old:sb.get j=some x→(if j.d=O.out.length then (match bV bs j.t j.n with | some b=>some b | none=>sb.get j) else sb.get j)=some x:=by
     intro h;split
     ·rename_i e
      split
      ·rename_i y hy
       rw [hfresh j y e hy] at h;cases h
      ·exact h
     ·exact h
    rcases h with z | ⟨z1,k,cs,z2 | z2,z3,z4,z5⟩
    ·exact old ((M.mem j x).2 (.inl z))
    ·exact old ((M.mem j x).2 (.inr ⟨z1,k,cs,z2,z3,z4,z5⟩))
    ·subst z2;rw [hdl] at z4;cases z4;rw [if_pos z1,z5]
  | set s' =>
   have hmv:=T.moved U.lt hdl;have he:i∈rd∨i∈mv := .inr hmv.1;obtain ⟨p1,p2,p3,p4⟩:=M.phase T U he;have hsub:=M.sub T Z U he;have hdep:=(dom he).1;have hsd:(small (eQ opsA.toList) tr i).dep=O.out.length:=hdep;have hsb:sb.get=(small (eQ opsA.toList) tr i).get:=by
    funext j
    cases hs:(small (eQ opsA.toList) tr i).get j with
    | some b=>exact hsub j b hs
    | none =>
     cases hq:sb.get j with
     | none=>rfl
     | some x =>
      exfalso
      have hn:¬ (small (eQ opsA.toList) tr i).has j:=by rintro ⟨y,hy⟩;rw [hs] at hy;cases hy
      apply hn;unfold small;rw [BM];rcases (M.mem j x).1 hq with z | ⟨z1,k,cs,z2,z3,z4,z5⟩
      ·exact .inr ⟨x,by rw [p3];exact z⟩
      ·have hkl:=M.inb k z2;have hb:Before opsA.toList k i:=by
        rcases T.ord.mem i hmv.1 k _ (ax hkl) (fun e=>U.new (e ▸ z2)) (.inl (T.laid hkl z4).1) with y | y
        ·exact absurd y (M.TQ U k z2)
        ·exact y
       have hki:=nK T.ord.ord i U.lt hb;exact .inl ⟨by rw [hdep];exact z1,DF hb z5 ((p4 k cs).2 ⟨z3,hki,z4⟩)⟩
   refine run he (fun cv w' hl=>?_);obtain ⟨V',μ',h1,h2,h3,h4⟩:=hl;change iI P V' s'.get μ' _ cv at h1;change Inv P V' s'.get μ' w' at h2;change Evo V (small (eQ opsA.toList) tr i).get μ w V' s'.get μ' w' at h3;change s'.out=_ at h4;have hgrow:∀ j,(small (eQ opsA.toList) tr i).has j→s'.has j:=by
    rintro j ⟨x,hx⟩
    obtain ⟨y,hy,_⟩:=h3.keep j x hx;exact ⟨y,hy⟩
   have hout:s'.out=O.out:=by
    rw [h4]
    show (tr i).base.out=O.out
    rw [p3];exact M.outq
   have hk:Ic opsA.toList tr O.out.length i:=by
    refine ⟨fun s'' h=>(by rw [hdl] at h;cases h;exact ⟨⟨h4,hgrow⟩,h2.closed⟩),fun bs' h=>(by rw [hdl] at h;cases h),fun j hj=>?_⟩;by_cases hs:(small (eQ opsA.toList) tr i).has j
    ·rcases ((dom he).2 j).1 hs with z | ⟨k,z1,z2⟩
     ·exact .inl z
     ·exact .inr ⟨k, .inr z1,z2⟩
    ·exact .inr ⟨i, .inl rfl,by unfold Names;rw [hdl];exact ⟨uO h1 j hj,hs⟩⟩
   exact hK _ _ _ _ _ _ (M.change T U hd hdl hk h2 (by rw [hsb];exact h3) h1 hout)
end
end Go.Lx
namespace Go.Lx
theorem Jo {α:Type} {p p':α→Bool}:∀ {l:List α} {x:α},x∈l→p x=true→p' x=false→(∀ y,p' y=true→p y=true)→l.countP p' < l.countP p
 | y::l,x,hx,h1,h2,h3=>by
  simp only [List.countP_cons];have hle:l.countP p'≤l.countP p:=List.countP_mono_left (fun z _ hz=>h3 z hz);cases hx with
  | head=>rw [h1,h2];simp;omega
  | tail _ hx =>
   have:=Jo hx h1 h2 h3;cases hp:p' y with
   | true=>rw [h3 y hp];simp;omega
   | false=>cases p y<;>simp<;>omega
section
variable {P:Program} {opsA:Array Oper} {tr:Nat→Rec} {F:Facts} {mv rd:List Nat} {O:nY}
theorem Sim.finish {L:Nat→Prop} {a:Act} {w:World} {q:Nat} {V:View} {μ:Id→Pl} {sb:Go.Lx.S} (M:Sim P O opsA.toList tr L a w q V μ sb) (T:Tr P F opsA.toList tr mv rd) (hall:∀ k,k < opsA.toList.length→L k) :
  St P O (tr opsA.toList.length).env ((tr opsA.toList.length).base.plus (ou (tr opsA.toList.length).adds)) a w:=by
 have hq:q≤opsA.toList.length:=by
  rcases M.qs with h | ⟨m,s',h1,h2,h3⟩
  ·omega
  ·have:=M.inb m h2;omega
 have hno:∀ m s',q≤m→m < opsA.toList.length→(tr m).dl≠some (.set s'):=fun m s' h1 h2 h3=>by
  have:=M.sets m s' (hall m h2) h3;omega
 obtain ⟨k1,k2⟩:=Go.Lx.phase T.step M.adds _ hq (bu _) hno;generalize hn:opsA.toList.length=n at *
 have hbd:sb.dep=O.out.length:=by unfold S.dep;rw [M.outb]
 have hqd:(tr n).base.dep=O.out.length:=by unfold S.dep;rw [k1,M.outq]
 have hget:((tr n).base.plus (ou (tr n).adds)).get=sb.get:=by
  funext j
  rw [tY,hqd];have none_of:∀ x,j.d=O.out.length→bV (ou (tr n).adds) j.t j.n=some x→sb.get j=some x:=by
   intro x e hx;obtain ⟨k,bs,z1,z2⟩:=DR hx;obtain ⟨y1,y2,y3⟩:=(k2 k bs).1 z1;exact (M.mem j x).2 (.inr ⟨e,k,bs,hall k y2,y1,y3,z2⟩)
  cases hs:sb.get j with
  | some x =>
   rcases (M.mem j x).1 hs with z | ⟨e,k,bs,z1,z2,z3,z4⟩
   ·split
    ·rename_i e
     split
     ·rename_i y hy
      rw [none_of y e hy] at hs;exact hs
     ·rw [k1];exact z
    ·rw [k1];exact z
   ·rw [if_pos e];have hkl:k < n:=by have:=M.inb k z1;omega
    obtain ⟨y,hy⟩:=Az z4 ((k2 k bs).2 ⟨z2,hkl,z3⟩);rw [hy];have:=none_of y e hy;rw [hs] at this;exact this.symm
  | none =>
   have hb:(tr n).base.get j=none:=by
    cases hz:(tr n).base.get j with
    | none=>rfl
    | some x =>
     have:=(M.mem j x).2 (.inl (by rw [← k1];exact hz));rw [hs] at this;cases this
   split
   ·rename_i e
    split
    ·rename_i y hy
     rw [none_of y e hy] at hs;cases hs
    ·exact hb
   ·exact hb
 refine ⟨V,μ,by rw [hget];exact M.inv,?_,by rw [hget];exact M.evo,by show (tr n).base.out=O.out;rw [k1];exact M.outq,M.size,M.defers⟩;intro t v hv;rw [hget];refine M.env t v ?_;have hl:=LM (fun j o ho=>(T.step j o ho).1) n (by omega) t v hv;rcases hl with ⟨k,o,z1,z2,z3,z4,z5⟩ | ⟨z1,z2⟩
 ·exact .inl ⟨k,o,hall k z1,z2,z3,z4,fun k' o' h1 h2 h3=>z5 k' o' (by have:=M.inb k' h1;omega) h2 h3⟩
 ·exact .inr ⟨fun k o h1 h2=>z1 k o (by have:=M.inb k h1;omega) h2,z2⟩
theorem Sim.congr {L L':Nat→Prop} {a:Act} {w:World} {q:Nat} {V:View} {μ:Id→Pl} {sb:Go.Lx.S} (M:Sim P O opsA.toList tr L a w q V μ sb) (h:∀ k,L k↔L' k):Sim P O opsA.toList tr L' a w q V μ sb:=by
 have:L=L':=funext fun k=>propext (h k)
 rw [← this];exact M
theorem any_ok (T:Tr P F opsA.toList tr mv rd) (Z:Start O tr) (hd:xh O.n opsA.toList=true) {Q:Exit→Act→World→Prop}
  (hQ:∀ a' w',St P O (tr opsA.toList.length).env ((tr opsA.toList.length).base.plus (ou (tr opsA.toList.length).adds)) a' w'→Q .normal a' w') :
  ∀ (fuel:Nat) (listed:Array Bool) (a:Act) (w:World) (q:Nat) (V:View) (μ:Id→Pl) (sb:Go.Lx.S),Sim P O opsA.toList tr (fun k=>k < opsA.toList.length∧listed.getD k false=true) a w q V μ sb→listed.size=opsA.size →
  (List.range opsA.size).countP (fun k=>!listed.getD k false)≤fuel→wpAny P .any opsA Q fuel listed a w:=by
 intro fuel
 induction fuel with
 | zero =>
  intro listed a w q V μ sb M hsz hc;have hall:∀ k,k < opsA.toList.length→listed.getD k false=true:=by
   intro k hk;have:=List.countP_eq_zero.1 (Nat.le_zero.1 hc) k (kP.2 (by simpa using hk));simpa using this
  refine ⟨?_,hQ a w (M.finish T (fun k hk=>⟨hk,hall k hk⟩))⟩;unfold Region.ready;refine List.filter_eq_nil_iff.2 (fun k hk=>?_);have h1:=hall k (by simpa using kP.1 hk);have h2:listed.getD k true=true:=by
   have hl:k < listed.size:=by rw [hsz];exact kP.1 hk
   simp [Array.getD,hl] at h1 ⊢;exact h1
  rw [h2];simp
 | succ fuel ih =>
  intro listed a w q V μ sb M hsz hc;have look_eq:∀ k,k < opsA.size→listed.getD k true=listed.getD k false:=by
   intro k hk;have hl:k < listed.size:=by rw [hsz];exact hk
   simp [Array.getD,hl]
  refine ⟨fun hr=>?_,fun i hi=>?_⟩
  ·refine hQ a w (M.finish T (fun k hk=>⟨hk,?_⟩))
   induction k using Nat.strongRecOn with
   | _ k ihk =>
    have hks:k < opsA.size:=by simpa using hk
    cases hl:listed.getD k false with
    | true=>rfl
    | false =>
     exfalso
     have hm:k∈Region.ready .any opsA listed:=by
      unfold Region.ready;refine List.mem_filter.2 ⟨kP.2 hks,?_⟩;rw [look_eq k hks,hl];have hget:opsA[k]?=some opsA[k]:=bI hks;rw [hget];simp only [Bool.not_false,Bool.true_and,jT,Option.getD_some];rw [← Array.all_toList];refine aW.2 (fun e he=>?_);cases hb:Region.binds .any e with
      | false=>rfl
      | true =>
       have hlt:=T.ord.ord k opsA[k] (by simp [hks]) e he hb;simp only [Bool.not_true,Bool.false_or];exact ihk e.on hlt (by omega)
     rw [hr] at hm;cases hm
  ·unfold Region.ready at hi;obtain ⟨h1,h2⟩:=List.mem_filter.1 hi;have his:i < opsA.size:=kP.1 h1;have hget:opsA[i]?=some opsA[i]:=bI his;rw [look_eq i his,hget] at h2;simp only [bF,Bool.not_eq_true',jT,Option.getD_some] at h2;obtain ⟨hnew,hedge⟩:=h2;have hone:∀ e,e∈opsA[i].after.toList→Region.binds .any e=true→e.on < opsA.toList.length∧listed.getD e.on false=true:=by
    intro e he hb;rw [← Array.all_toList] at hedge;have:=aW.1 hedge e he;rw [hb] at this;have hlt:=T.ord.ord i opsA[i] (by simp [his]) e he hb;exact ⟨by simp;omega,by simpa using this⟩
   have hit:opsA.toList[i]?=some opsA[i]:=by simp [his]
   have U:Turn opsA.toList (fun k=>k < opsA.toList.length∧listed.getD k false=true) i opsA[i]:=by
    refine ⟨hit,fun j hj=>?_,fun h=>by rw [hnew] at h;cases h.2⟩;obtain ⟨e,k1,k2,k3⟩:=(zJ T.ord.ord hit j).1 hj;rcases k3 with rfl | k3
    ·exact hone e k1 k2
    ·exact M.cl e.on j (hone e k1 k2) k3
   refine M.step T Z U hd (fun a' w' q' V' μ' sb' M'=>?_);have hset:∀ k,(listed.setIfInBounds i true).getD k false=(decide (k=i) || listed.getD k false):=by
    intro k;by_cases e:k=i
    ·subst e;have hl:k < listed.size:=by rw [hsz];exact his
     simp [Array.getD,hl]
    ·simp only [Array.getD_eq_getD_getElem?,iQ (fun q=>e q.symm),decide_eq_false e,Bool.false_or]
   refine ih _ a' w' q' V' μ' sb' (M'.congr (fun k=>?_)) (by simpa using hsz) ?_
   ·rw [hset];simp only [jl,iq];constructor
    ·rintro (⟨h1,h2⟩ | rfl)
     ·exact ⟨h1, .inr h2⟩
     ·exact ⟨by simpa using his, .inl rfl⟩
    ·rintro ⟨h1,h2 | h2⟩
     ·exact .inr h2
     ·exact .inl ⟨h1,h2⟩
   ·have:=Jo (l:=List.range opsA.size) (p:=fun k=>!listed.getD k false) (p':=fun k=>!(listed.setIfInBounds i true).getD k false) (x:=i) (kP.2 his) (by simp [hnew]) (by rw [hset];simp)
     (fun y hy=>by rw [hset] at hy;simp at hy ⊢;exact hy.2)
    omega
theorem LY (hm:P.follows .mixedOrders=true) {id:Nat} {ops:Array Oper} (hd:xh O.n ops.toList=true) {Q:Exit→Act→World→Prop} {env:Env} {s:Go.Lx.S} {a:Act} {w:World} {env':Env} {s':Go.Lx.S} {moved reads:List Nat} (hSt:St P O env s a w)
  {F:Facts} (hF:Be s F) (e:Kr P F ops.toList (eQ ops.toList) (mM 0 ops.toList) [] env s env' s' moved reads) (ho:xK ops.toList moved reads=true) (hQ:∀ a' w',St P O env' s' a' w'→Q .normal a' w') :
  (Code.region id ops true).wp P Q a w:=by
 refine wp_region_any hm ?_;obtain ⟨V,μ,I,R,E,hout,hn,hdf⟩:=hSt;obtain ⟨tr,t1,t2,t3,t4,t5,t6⟩:=trace F ops.toList (eQ ops.toList) ops.toList 0 e;simp only [gW] at t4 t5 t6;have T:Tr P F ops.toList tr moved reads:=⟨Ii ho,t4,t3,fun k=>by
  induction k with
  | zero=>intro _ _;rw [t2];exact hF
  | succ k ih =>
   intro hk hK;have ih:=ih (by omega) (by omega);obtain ⟨_,hs⟩:=t4 k _ (ax (by omega));cases hd:(tr k).dl with
   | none=>rw [hd] at hs;rw [hs.2.2.1];exact ih
   | some dl =>
    rw [hd] at hs;obtain ⟨_,_,_,hs⟩:=hs;cases dl with
    | same=>rw [hs.1];exact ih
    | add bs=>rw [hs.2.1];exact ih
    | set s'=>rw [hs.2.1];exact hs.2.2.2.2.resolve_left (by omega)⟩
 have Z:Start O tr:=by
  refine ⟨by rw [t2];exact I.closed,fun t v hv j hj=>?_,by rw [t2];unfold S.dep;rw [hout]⟩;rw [t1] at hv;rw [t2];exact uO (R t v hv) j hj
 have I1:Inv P V s.get μ { w with drawn:=w.drawn+1 }:=⟨I.blk,I.apart,I.cell,I.map,I.tidy⟩
 have E1:Evo O.V O.h O.μ O.w V s.get μ { w with drawn:=w.drawn+1 }:=⟨E.os,E.tape,E.output,E.size,E.rest,E.view,E.newc,E.newm,E.place,E.keep⟩
 have M:Sim P O ops.toList tr (fun k=>k < ops.toList.length∧(Array.replicate ops.size false).getD k false=true) a { w with drawn:=w.drawn+1 } 0 V μ s:=by
  have no:∀ k,¬ (k < ops.toList.length∧(Array.replicate ops.size false).getD k false=true):=by
   rintro k ⟨_,h⟩
   simp [Array.getD] at h
  refine ⟨fun k h=>absurd h (no k),fun k j h=>absurd h (no k),fun k h=>h.1, .inl rfl,fun m s' h=>absurd h (no m),t3,fun i x=>?_,I1,fun t v hv=>?_,E1,hout,by rw [t2];exact hout,hn,hdf⟩
  ·unfold HL;rw [t2];constructor
   ·exact .inl
   ·rintro (h | ⟨_,k,bs,h,_⟩)
    ·exact h
    ·exact absurd h (no k)
  ·rcases hv with ⟨k,_,h,_⟩ | ⟨_,h⟩
   ·exact absurd h (no k)
   ·rw [t1] at h;exact R t v h
 refine any_ok T Z hd (fun a' w' h=>hQ a' w' ?_) ops.size _ a _ 0 V μ s M (by simp) ?_
 ·rw [t5] at h;rw [t6];exact h
 ·exact Nat.le_trans List.countP_le_length (by simp)
end
theorem CWp.draw {P:Program} (hm:P.follows .mixedOrders=true) {id:Nat} {ops:Array Oper} {env env':Env} {s s':Go.Lx.S} {Q:Ex→Env→Go.Lx.S→Prop} {moved reads:List Nat} {F:Facts} (hF:Be s F)
  (h:Kr P F ops.toList (eQ ops.toList) (mM 0 ops.toList) [] env s env' s' moved reads) (ho:xK ops.toList moved reads=true) (hq:Q .norm env' s'):CWp P (.region id ops true) env s Q :=
 ⟨fun _ _ _ hc T=>LY hm hc T hF h ho (fun _ _ T'=>⟨.norm,env',s',rfl,T',hq⟩)⟩
end Go.Lx
