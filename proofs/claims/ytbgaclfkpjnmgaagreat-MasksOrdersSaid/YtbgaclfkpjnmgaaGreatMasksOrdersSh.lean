/- Functions of the program in plain form: printed by a program of this session. Not trusted: the walks show that the program does what they say. -/
import Derived.Test.YtbgaclfkpjnmgaaGreatKit5
set_option linter.all false
namespace Go.Sh
open Go.Lx
set_option linter.unusedVariables false
structure ai where
 Low:Int
 High:Int
 deriving DecidableEq
structure ae where
 Bounds:(List ai)
 Elements:(List Int)
 deriving DecidableEq
structure ay where
 Kind:Int
 Low:Int
 High:Int
 Step:Int
 List:(List Int)
 deriving DecidableEq
structure bF where
 Coefs:(List Int)
 Const:Int
 deriving DecidableEq
structure ag where
 Kind:Int
 Value:Int
 Var:Int
 A:Int
 B:Int
 Subscripts:(List ay)
 Forms:(List bF)
 deriving DecidableEq
structure az where
 Var:Int
 Subscripts:(List ay)
 Value:(List ag)
 Mask:(List ag)
 Else:(List ag)
 deriving DecidableEq
structure aB where
 Extents:(List Int)
 Offsets:(List Int)
 ManyOne:Bool
 deriving DecidableEq
structure aA where
 Writer:Int
 Reader:Int
 deriving DecidableEq
structure dS where
 e:(List ag)
 sections:(List aB)
 shapes:(List (List Int))
 deriving DecidableEq
structure aV where
 store:(List ae)
 at_:Int
 cells:(List Int)
 value:(Option dS)
 mask:(Option dS)
 less:(Option dS)
 deriving DecidableEq
structure aP where
 holds:Bool
 code:Int
 deriving DecidableEq
structure aK where
 holds:Bool
 code:Int
 deriving DecidableEq
structure Cm where
 e0:Bool
 e1:Bool
 e2:Bool
 e3:Bool
 e4:Bool
 e5:Bool
 deriving DecidableEq
def qN (p0:Int) (p1:Int) (p2:Int):ay :=
 (ay.mk 1 p0 p1 p2 [])
def iT (p0:Int) (p1:Int) (p2:Int):(List ag) :=
 [(ag.mk 1 0 0 0 0 [(qN p0 p1 p2)] [])]
def Ah (p0:(List ag)) (p1:(List ag)):Option az :=
 (at_ p0 0).bind fun x1 =>
 some (az.mk 0 x1.Subscripts p1 [] [])
def mO:(List ae) :=
 [(ae.mk [(ai.mk 1 4)] [1,2,3,4])]
def bn (p0:Int) (p1:Int) (p2:Int):Bool :=
 ((decide (p0≥p1))&&(decide (p0≤p2)))
def bC (p0:Int):Bool :=
 (bn p0 (-2147483647) 2147483647)
def lQ (p0:ai):Bool :=
 ((!(bC p0.Low)) || (!(bC p0.High)))
def bG.s1 (p0:(List ai)) (s1:Int):Option (Sum Int (Sum Unit Int)) :=
 if s1 < (p0.length:Int) then
  (at_ p0 s1).bind fun x3 =>
  if (lQ x3)=true then
   some (.inr (.inr s1))
  else
   some (.inl (w (s1+1)))
 else
  some (.inr (.inl ()))
def bG (p0:(List ai)):Option Int :=
 (gV (bG.s1 p0) 0).bind fun z5=>match z5 with
 | .inl v6 =>
  some (-1)
 | .inr r7=>some r7
def eP (p0:(List ai)):Option Bool :=
 (bG p0).bind fun x1 =>
 some (decide (x1≥0))
def aZ (p0:ai):Int :=
 (mx 0 (w ((w (p0.High - p0.Low))+1)))
def nS (p0:ai):Bool :=
 (decide ((aZ p0) > 512))
def bH.s1 (p0:(List ai)) (s1:Int):Option (Sum Int (Sum Unit Int)) :=
 if s1 < (p0.length:Int) then
  (at_ p0 s1).bind fun x3 =>
  if (nS x3)=true then
   some (.inr (.inr s1))
  else
   some (.inl (w (s1+1)))
 else
  some (.inr (.inl ()))
def bH (p0:(List ai)):Option Int :=
 (gV (bH.s1 p0) 0).bind fun z5=>match z5 with
 | .inl v6 =>
  some (-1)
 | .inr r7=>some r7
def eQ (p0:(List ai)):Option Bool :=
 (bH p0).bind fun x1 =>
 some (decide (x1≥0))
def jJ.s1 (p0:(List ai)) (s1:Int×List Int):Option (Sum (Int×List Int) (List Int)) :=
 if s1.1 < (p0.length:Int) then
  (at_ p0 s1.1).bind fun x3 =>
  (app s1.2 ([(aZ x3)]:List Int)).bind fun x4 =>
  some (.inl ((w (s1.1+1)),x4))
 else
  some (.inr s1.2)
def jJ (p0:(List ai)):Option (List Int) :=
 (gV (jJ.s1 p0) (0,[])).bind fun z5 =>
 some z5
def slices_Index_int.s1 (p0:(List Int)) (p1:Int) (s1:Int):Option (Sum Int (Sum Unit Int)) :=
 if s1 < (p0.length:Int) then
  (at_ p0 s1).bind fun x3 =>
  if p1=x3 then
   some (.inr (.inr s1))
  else
   some (.inl (w (s1+1)))
 else
  some (.inr (.inl ()))
def slices_Index_int (p0:(List Int)) (p1:Int):Option Int :=
 (gV (slices_Index_int.s1 p0 p1) 0).bind fun z5=>match z5 with
 | .inl v6 =>
  some (-1)
 | .inr r7=>some r7
def slices_Contains_int (p0:(List Int)) (p1:Int):Option Bool :=
 (slices_Index_int p0 p1).bind fun x1 =>
 some (decide (x1≥0))
def jK.s1 (p0:(List Int)) (s1:Int×Int):Option (Sum (Int×Int) Int) :=
 if s1.2 < (p0.length:Int) then
  (at_ p0 s1.2).bind fun x3 =>
  some (.inl ((mn (w (s1.1 * (mn x3 513))) 513),(w (s1.2+1))))
 else
  some (.inr s1.1)
def jK (p0:(List Int)):Option Int :=
 (gV (jK.s1 p0) (1,0)).bind fun z4 =>
 (slices_Contains_int p0 0).bind fun x5 =>
 if x5=true then
  some 0
 else
  some z4
def uG (p0:(List ai)):Option Int :=
 (jJ p0).bind fun x1 =>
 (jK x1).bind fun x2 =>
 some x2
def gY.s1 (p0:(List aK)) (s1:Int):Option (Sum Int (Sum Unit Int)) :=
 if s1 < (p0.length:Int) then
  (at_ p0 s1).bind fun x3 =>
  if ¬ (x3.holds=true) then
   some (.inr (.inr x3.code))
  else
   some (.inl (w (s1+1)))
 else
  some (.inr (.inl ()))
def gY (p0:(List aK)):Option Int :=
 (gV (gY.s1 p0) 0).bind fun z5=>match z5 with
 | .inl v6 =>
  some 0
 | .inr r7=>some r7
def oh (p0:(List ai)):Option Int :=
 if (p0.length:Int) > 7 then
  some 32
 else
  (eP p0).bind fun x2 =>
  if x2=true then
   some 2
  else
   (eQ p0).bind fun x4 =>
   if ¬ (x4=true) then
    (uG p0).bind fun x6 =>
    (gY [(aK.mk (decide (x6≤512)) 8)]).bind fun x7 =>
    some x7
   else
    (gY [(aK.mk false 8)]).bind fun x8 =>
    some x8
def eF (p0:Int):Bool :=
 (bn p0 (-2147483648) 2147483647)
def oO (p0:Int) (p1:Int):Option Int :=
 (gY [(aK.mk (eF p1) 2)]).bind fun x1 =>
 some x1
def bZ.s1 (p0:(List Int)) (s1:Int):Option (Sum Int (Sum Unit (Int×Int))) :=
 if s1 < (p0.length:Int) then
  (at_ p0 s1).bind fun x3 =>
  (oO s1 x3).bind fun x4 =>
  if ¬ x4=0 then
   some (.inr (.inr (s1,x4)))
  else
   some (.inl (w (s1+1)))
 else
  some (.inr (.inl ()))
def bZ (p0:(List Int)):Option (Int×Int) :=
 (gV (bZ.s1 p0) 0).bind fun z6=>match z6 with
 | .inl v7 =>
  some (0,0)
 | .inr r8=>some r8
def pG (p0:ae):Option (Int×Int) :=
 (oh p0.Bounds).bind fun x1 =>
 if ¬ x1=0 then
  some (0,x1)
 else
  (uG p0.Bounds).bind fun x3 =>
  if ¬ (p0.Elements.length:Int)=x3 then
   some (0,10)
  else
   (bZ p0.Elements).bind fun x5 =>
   some (x5.1,x5.2)
def qY (p0:Int) (p1:ae):Option Int :=
 (pG p1).bind fun x1 =>
 some x1.2
def bJ.s1 (p0:(List ae)) (s1:Int):Option (Sum Int (Sum Unit (Int×Int))) :=
 if s1 < (p0.length:Int) then
  (at_ p0 s1).bind fun x3 =>
  (qY s1 x3).bind fun x4 =>
  if ¬ x4=0 then
   some (.inr (.inr (s1,x4)))
  else
   some (.inl (w (s1+1)))
 else
  some (.inr (.inl ()))
def bJ (p0:(List ae)):Option (Int×Int) :=
 (gV (bJ.s1 p0) 0).bind fun z6=>match z6 with
 | .inl v7 =>
  some (0,0)
 | .inr r8=>some r8
def rP (p0:(List ae)):Option Int :=
 if (p0.length:Int) > 6 then
  some 8
 else
  (bJ p0).bind fun x2 =>
  some x2.2
def bY (p0:Int) (p1:Int) (p2:Int):Bool :=
 ((decide (p0≥p1))&&(decide (p0≤p2)))
def nT (p0:ay):Option Int :=
 if ¬ ((bn p0.Kind 0 2)=true) then
  some 15
 else
  if ¬ (p0.Kind=1) then
   if (bC p0.Low)=true then
    if (bC p0.High)=true then
     (gY [(aK.mk ((((p0.Kind != 2) || (p0.Low==0))&&((p0.Kind==1) || ((p0.High==0)&&(p0.Step==0))))&&((p0.Kind==2) || ((p0.List.length:Int)==0))) 3),(aK.mk true 11),(aK.mk (bC p0.Step) 2)]).bind fun x17 =>
     some x17
    else
     (gY [(aK.mk ((((p0.Kind != 2) || (p0.Low==0))&&((p0.Kind==1) || ((p0.High==0)&&(p0.Step==0))))&&((p0.Kind==2) || ((p0.List.length:Int)==0))) 3),(aK.mk true 11),(aK.mk false 2)]).bind fun x18 =>
     some x18
   else
    (gY [(aK.mk ((((p0.Kind != 2) || (p0.Low==0))&&((p0.Kind==1) || ((p0.High==0)&&(p0.Step==0))))&&((p0.Kind==2) || ((p0.List.length:Int)==0))) 3),(aK.mk true 11),(aK.mk false 2)]).bind fun x19 =>
    some x19
  else
   if (bC p0.Low)=true then
    if (bC p0.High)=true then
     (gY [(aK.mk ((((p0.Kind != 2) || (p0.Low==0))&&((p0.Kind==1) || ((p0.High==0)&&(p0.Step==0))))&&((p0.Kind==2) || ((p0.List.length:Int)==0))) 3),(aK.mk (p0.Step != 0) 11),(aK.mk (bC p0.Step) 2)]).bind fun x22 =>
     some x22
    else
     (gY [(aK.mk ((((p0.Kind != 2) || (p0.Low==0))&&((p0.Kind==1) || ((p0.High==0)&&(p0.Step==0))))&&((p0.Kind==2) || ((p0.List.length:Int)==0))) 3),(aK.mk (p0.Step != 0) 11),(aK.mk false 2)]).bind fun x23 =>
     some x23
   else
    (gY [(aK.mk ((((p0.Kind != 2) || (p0.Low==0))&&((p0.Kind==1) || ((p0.High==0)&&(p0.Step==0))))&&((p0.Kind==2) || ((p0.List.length:Int)==0))) 3),(aK.mk (p0.Step != 0) 11),(aK.mk false 2)]).bind fun x24 =>
    some x24
def uQ (p0:ay):Option Int :=
 if p0.Step > 0 then
  (quo .i64 (w ((w (p0.High - p0.Low))+p0.Step)) p0.Step).bind fun x2 =>
  some (mx 0 x2)
 else
  (quo .i64 (w ((w (p0.Low - p0.High)) - p0.Step)) (w (0 - p0.Step))).bind fun x3 =>
  some (mx 0 x3)
def slices_Clone_int (p0:(List Int)):Option (List Int) :=
 (app ([]:List Int) p0).bind fun x1 =>
 some x1
def pI (p0:Int) (p1:ai):Bool :=
 (!(bn p0 p1.Low p1.High))
def dA.s1 (p0:(List Int)) (p1_0:ai) (s1:Int):Option (Sum Int (Sum Unit Int)) :=
 if s1 < (p0.length:Int) then
  (at_ p0 s1).bind fun x3 =>
  if (pI x3 p1_0)=true then
   some (.inr (.inr s1))
  else
   some (.inl (w (s1+1)))
 else
  some (.inr (.inl ()))
def dA (p0:(List Int)) (p1_0:ai):Option Int :=
 (gV (dA.s1 p0 p1_0) 0).bind fun z5=>match z5 with
 | .inl v6 =>
  some (-1)
 | .inr r7=>some r7
def ik (p0:(List Int)) (p1_0:ai):Option Bool :=
 (dA p0 p1_0).bind fun x1 =>
 some (decide (x1≥0))
def gB.j1 (p0:ai) (a3:(List Int)):Option ((List Int)×Int) :=
 (ik a3 p0).bind fun x4 =>
 if x4=true then
  some (([]:List Int),33)
 else
  some (a3,0)
def gB.s2 (p1:ay) (x5:Int) (s7:Int×List Int):Option (Sum (Int×List Int) (List Int)) :=
 if s7.1 < x5 then
  (app s7.2 ([(w (p1.Low+(w (s7.1 * p1.Step))))]:List Int)).bind fun x9 =>
  some (.inl ((w (s7.1+1)),x9))
 else
  some (.inr s7.2)
def gB (p0:ai) (p1:ay):Option ((List Int)×Int) :=
 (nT p1).bind fun x1 =>
 if ¬ x1=0 then
  some (([]:List Int),x1)
 else
  if p1.Kind=0 then
   gB.j1 p0 [p1.Low]
  else
   if p1.Kind=1 then
    (uQ p1).bind fun x5 =>
    if x5 > 512 then
     some (([]:List Int),8)
    else
     (gV (gB.s2 p1 x5) (0,[])).bind fun z10 =>
     gB.j1 p0 z10
   else
    if (p1.List.length:Int) > 512 then
     some (([]:List Int),8)
    else
     (slices_Clone_int p1.List).bind fun x13 =>
     gB.j1 p0 x13
def jZ.s1 (p0:(List Int)) (s1:Int×Int×List Int):Option (Sum (Int×Int×List Int) (List Int)) :=
 if s1.2.1 < (p0.length:Int) then
  (at_ p0 s1.2.1).bind fun x3 =>
  (app s1.2.2 ([s1.1]:List Int)).bind fun x4 =>
  some (.inl ((w (s1.1 * x3)),(w (s1.2.1+1)),x4))
 else
  some (.inr s1.2.2)
def jZ (p0:(List Int)):Option (List Int) :=
 (gV (jZ.s1 p0) (1,0,[])).bind fun z5 =>
 some z5
def lg.s1 (p0:(List Int)) (s1:Int×Int×List Int):Option (Sum (Int×Int×List Int) (List Int)) :=
 if s1.2.1 < (p0.length:Int) then
  (at_ p0 s1.2.1).bind fun x3 =>
  (rem s1.1 x3).bind fun x4 =>
  (app s1.2.2 ([x4]:List Int)).bind fun x5 =>
  (quo .i64 s1.1 x3).bind fun x6 =>
  some (.inl (x6,(w (s1.2.1+1)),x5))
 else
  some (.inr s1.2.2)
def lg (p0:(List Int)) (p1:Int):Option (List Int) :=
 (gV (lg.s1 p0) (p1,0,[])).bind fun z7 =>
 some z7
def eH.s1 (p0:(List ai)) (p1:(List ay)) (s2:Int×List Int×List (List Int)×List Int):Option (Sum (Int×List Int×List (List Int)×List Int) (Sum (List Int×List (List Int)×List Int) (aB×Int))) :=
 if s2.1 < (p1.length:Int) then
  (at_ p1 s2.1).bind fun x4 =>
  (at_ p0 s2.1).bind fun x5 =>
  (gB x5 x4).bind fun x6 =>
  if ¬ x6.2=0 then
   some (.inr (.inr ((aB.mk [] [] false),x6.2)))
  else
   (app s2.2.2.1 ([x6.1]:List (List Int))).bind fun x8 =>
   (app s2.2.2.2 ([(x6.1.length:Int)]:List Int)).bind fun x9 =>
   if ¬ x4.Kind=0 then
    (app s2.2.1 ([(x6.1.length:Int)]:List Int)).bind fun x11 =>
    some (.inl ((w (s2.1+1)),x11,x8,x9))
   else
    some (.inl ((w (s2.1+1)),s2.2.1,x8,x9))
 else
  some (.inr (.inl (s2.2.1,s2.2.2.1,s2.2.2.2)))
def eH.s3 (p0:(List ai)) (v13:List Int×List (List Int)×List Int) (x17:(List Int)) (x20:(List Int)) (s21:Int×Int):Option (Sum (Int×Int) Int) :=
 if s21.2 < (x20.length:Int) then
  (at_ x20 s21.2).bind fun x23 =>
  (at_ x17 s21.2).bind fun x24 =>
  (at_ v13.2.1 s21.2).bind fun x25 =>
  (at_ x25 x23).bind fun x26 =>
  (at_ p0 s21.2).bind fun x27 =>
  some (.inl ((w (s21.1+(w (x24 * (w (x26 - x27.Low)))))),(w (s21.2+1))))
 else
  some (.inr s21.1)
def eH.s2 (p0:(List ai)) (v13:List Int×List (List Int)×List Int) (x14:Int) (x17:(List Int)) (s18:Int×Bool×List Int×List (Int×Bool)):Option (Sum (Int×Bool×List Int×List (Int×Bool)) (Bool×List Int)) :=
 if s18.1 < x14 then
  (lg v13.2.2 s18.1).bind fun x20 =>
  (gV (eH.s3 p0 v13 x17 x20) (0,0)).bind fun z28 =>
  (app s18.2.2.1 ([z28]:List Int)).bind fun x31 =>
  some (.inl ((w (s18.1+1)),(s18.2.1 || ((Oa s18.2.2.2 z28).getD false)),x31,(VZ s18.2.2.2 z28 true)))
 else
  some (.inr (s18.2.1,s18.2.2.1))
def eH (p0:(List ai)) (p1:(List ay)):Option (aB×Int) :=
 if ¬ (p1.length:Int)=(p0.length:Int) then
  some ((aB.mk [] [] false),32)
 else
  (gV (eH.s1 p0 p1) (0,[],[],[])).bind fun z12=>match z12 with
  | .inl v13 =>
   (jK v13.2.2).bind fun x14 =>
   if x14 > 512 then
    some ((aB.mk [] [] false),8)
   else
    (jJ p0).bind fun x16 =>
    (jZ x16).bind fun x17 =>
    (gV (eH.s2 p0 v13 x14 x17) (0,false,[],[])).bind fun z33 =>
    some ((aB.mk v13.1 z33.2 z33.1),0)
  | .inr r35=>some r35
def qj (p0:(List ai)) (p1:(List ay)):Option (aB×Int) :=
 (oh p0).bind fun x1 =>
 if ¬ x1=0 then
  some ((aB.mk [] [] false),x1)
 else
  (eH p0 p1).bind fun x3 =>
  some (x3.1,x3.2)
def fZ.s1 (p0:(List aP)) (s1:Int):Option (Sum Int (Sum Unit Int)) :=
 if s1 < (p0.length:Int) then
  (at_ p0 s1).bind fun x3 =>
  if ¬ (x3.holds=true) then
   some (.inr (.inr x3.code))
  else
   some (.inl (w (s1+1)))
 else
  some (.inr (.inl ()))
def fZ (p0:(List aP)):Option Int :=
 (gV (fZ.s1 p0) 0).bind fun z5=>match z5 with
 | .inl v6 =>
  some 0
 | .inr r7=>some r7
def iD.s1 (p0:(List Int)) (s1:Int):Option (Sum Int (Sum Unit Int)) :=
 if s1 < (p0.length:Int) then
  (at_ p0 s1).bind fun x3 =>
  if ¬ x3=0 then
   some (.inr (.inr x3))
  else
   some (.inl (w (s1+1)))
 else
  some (.inr (.inl ()))
def iD (p0:(List Int)):Option Int :=
 (gV (iD.s1 p0) 0).bind fun z5=>match z5 with
 | .inl v6 =>
  some 0
 | .inr r7=>some r7
def pg (p0:(List ae)) (p1:Int) (p2:(List ay)):Option (aB×Int) :=
 if ¬ ((bY p1 0 (w ((p0.length:Int) - 1)))=true) then
  some ((aB.mk [] [] false),6)
 else
  (at_ p0 p1).bind fun x2 =>
  (qj x2.Bounds p2).bind fun x3 =>
  (fZ [(aP.mk (decide ((x3.1.Offsets.length:Int)≤60)) 8)]).bind fun x4 =>
  (iD [x3.2,x4]).bind fun x5 =>
  some (x3.1,x5)
def qU (p0:ag):Bool :=
 ((p0.Kind==8) || (p0.Kind==9))
def aU.s1 (p0:(List ag)) (s1:Int):Option (Sum Int (Sum Unit Int)) :=
 if s1 < (p0.length:Int) then
  (at_ p0 s1).bind fun x3 =>
  if (qU x3)=true then
   some (.inr (.inr s1))
  else
   some (.inl (w (s1+1)))
 else
  some (.inr (.inl ()))
def aU (p0:(List ag)):Option Int :=
 (gV (aU.s1 p0) 0).bind fun z5=>match z5 with
 | .inl v6 =>
  some (-1)
 | .inr r7=>some r7
def dJ (p0:(List ag)):Option Bool :=
 (aU p0).bind fun x1 =>
 some (decide (x1≥0))
def bW (p0:Int):Bool :=
 ((decide (p0≥2))&&(decide (p0≤6)))
def fC (p0:ag):(List Int) :=
 if (bW p0.Kind)=true then
  [p0.A,p0.B]
 else
  if p0.Kind=7 then
   [p0.A]
  else
   ([]:List Int)
def jA.j1 (p0:ag) (a1:Bool):Option Bool :=
 some (((((((p0.Kind==0) || (p0.Value==0))&&(a1 || (p0.Var==0)))&&((bW p0.Kind) || (p0.B==0)))&&(((bW p0.Kind) || (p0.Kind==7)) || (p0.A==0)))&&((p0.Kind==1) || ((p0.Subscripts.length:Int)==0)))&&((p0.Kind==9) || ((p0.Forms.length:Int)==0)))
def jA (p0:ag):Option Bool :=
 if p0.Kind=1 then
  jA.j1 p0 true
 else
  if p0.Kind=8 then
   jA.j1 p0 true
  else
   jA.j1 p0 (p0.Kind==9)
def iU.s1 (p0:Int) (p1:ag) (s2:Int×List Int):Option (Sum (Int×List Int) (Sum (List Int) (Int×List Int))) :=
 if s2.1 < ((fC p1).length:Int) then
  (at_ (fC p1) s2.1).bind fun x4 =>
  if ¬ ((bY x4 0 (w (p0 - 1)))=true) then
   some (.inr (.inr (3,s2.2)))
  else
   (at_ s2.2 x4).bind fun x6 =>
   (at_ s2.2 x4).bind fun x7 =>
   some (.inl ((w (s2.1+1)),(s2.2.set x4.toNat (w (x6+1)))))
 else
  some (.inr (.inl s2.2))
def iU (p0:Int) (p1:ag) (b1:(List Int)):Option (Int×List Int) :=
 if ¬ ((bY p1.Kind 0 9)=true) then
  some (15,b1)
 else
  (gV (iU.s1 p0 p1) (0,b1)).bind fun z8=>match z8 with
  | .inl v9 =>
   (jA p1).bind fun x10 =>
   (fZ [(aP.mk x10 3)]).bind fun x11 =>
   some (x11,v9)
  | .inr r12=>some r12
def bz.s1 (p0:(List ag)) (s1:Int×List Int):Option (Sum (Int×List Int) (Sum (List Int) (Int×Int×List Int))) :=
 if s1.1 < (p0.length:Int) then
  (at_ p0 s1.1).bind fun x3 =>
  (iU s1.1 x3 s1.2).bind fun x4 =>
  if ¬ x4.1=0 then
   some (.inr (.inr (s1.1,x4.1,x4.2)))
  else
   some (.inl ((w (s1.1+1)),x4.2))
 else
  some (.inr (.inl s1.2))
def bz (p0:(List ag)) (b1:(List Int)):Option (Int×Int×List Int) :=
 (gV (bz.s1 p0) (0,b1)).bind fun z6=>match z6 with
 | .inl v7 =>
  some (0,0,v7)
 | .inr r8=>some r8
def rZ (p0:Int) (p1:Int) (p2:Int):Option Int :=
 (fZ [(aP.mk (((p0==p2)&&(p1==0)) || ((p0 != p2)&&(p1==1))) 3)]).bind fun x7 =>
 some x7
def dw.s1 (p0:(List Int)) (p1_0:Int) (s1:Int):Option (Sum Int (Sum Unit (Int×Int))) :=
 if s1 < (p0.length:Int) then
  (at_ p0 s1).bind fun x3 =>
  (rZ s1 x3 p1_0).bind fun x4 =>
  if ¬ x4=0 then
   some (.inr (.inr (s1,x4)))
  else
   some (.inl (w (s1+1)))
 else
  some (.inr (.inl ()))
def dw (p0:(List Int)) (p1_0:Int):Option (Int×Int) :=
 (gV (dw.s1 p0 p1_0) 0).bind fun z6=>match z6 with
 | .inl v7 =>
  some (0,0)
 | .inr r8=>some r8
def ug (p0:(List ag)):Option Int :=
 (fZ [(aP.mk (decide ((p0.length:Int) > 0)) 17),(aP.mk (decide ((p0.length:Int)≤40)) 8)]).bind fun x1 =>
 if ¬ x1=0 then
  some x1
 else
  (Jo (p0.length:Int) 0).bind fun x3 =>
  (bz p0 x3).bind fun x4 =>
  if ¬ x4.2.1=0 then
   some x4.2.1
  else
   (dw x4.2.2 (w ((p0.length:Int) - 1))).bind fun x6 =>
   some x6.2
def slices_Equal_int.s1 (p0:(List Int)) (p1:(List Int)) (s2:Int):Option (Sum Int (Sum Unit Bool)) :=
 if s2 < (p0.length:Int) then
  (at_ p0 s2).bind fun x4 =>
  (at_ p1 s2).bind fun x5 =>
  if ¬ x4=x5 then
   some (.inr (.inr false))
  else
   some (.inl (w (s2+1)))
 else
  some (.inr (.inl ()))
def slices_Equal_int (p0:(List Int)) (p1:(List Int)):Option Bool :=
 if ¬ (p0.length:Int)=(p1.length:Int) then
  some false
 else
  (gV (slices_Equal_int.s1 p0 p1) 0).bind fun z7=>match z7 with
  | .inl v8 =>
   some true
  | .inr r9=>some r9
def wR (p0:(List Int)) (p1:(List Int)):Option ((List Int)×Bool) :=
 if (p0.length:Int)=0 then
  some (p1,true)
 else
  if (p1.length:Int)=0 then
   some (p0,true)
  else
   (slices_Equal_int p0 p1).bind fun x3 =>
   some (p0,x3)
def oZ (p0:Int) (p1:ag) (p2:(List ae)) (pb1_0:(List ag)) (b2:(List aB)) (b3:(List (List Int))):Option (Int×List aB×List (List Int)) :=
 if p1.Kind=0 then
  (fZ [(aP.mk (bY p1.Value (-2147483648) 2147483647) 2)]).bind fun x2 =>
  some (x2,b2,b3)
 else
  if p1.Kind=1 then
   (pg p2 p1.Var p1.Subscripts).bind fun x4 =>
   (at_ b2 p0).bind fun x5 =>
   (at_ b3 p0).bind fun x6 =>
   some (x4.2,(b2.set p0.toNat x4.1),(b3.set p0.toNat x4.1.Extents))
  else
   if p1.Kind=7 then
    (at_ b3 p1.A).bind fun x8 =>
    (at_ b3 p0).bind fun x9 =>
    some (0,b2,(b3.set p0.toNat x8))
   else
    (at_ b3 p1.A).bind fun x10 =>
    (at_ b3 p1.B).bind fun x11 =>
    (wR x10 x11).bind fun x12 =>
    (at_ b3 p0).bind fun x13 =>
    (fZ [(aP.mk x12.2 10)]).bind fun x14 =>
    some (x14,b2,(b3.set p0.toNat x12.1))
def bD.s1 (p0:(List ag)) (p1_0:(List ae)) (pb1_0:(List ag)) (s1:Int×List aB×List (List Int)):Option (Sum (Int×List aB×List (List Int)) (Sum (List aB×List (List Int)) (Int×Int×List aB×List (List Int)))) :=
 if s1.1 < (p0.length:Int) then
  (at_ p0 s1.1).bind fun x3 =>
  (oZ s1.1 x3 p1_0 pb1_0 s1.2.1 s1.2.2).bind fun x4 =>
  if ¬ x4.1=0 then
   some (.inr (.inr (s1.1,x4.1,x4.2.1,x4.2.2)))
  else
   some (.inl ((w (s1.1+1)),x4.2.1,x4.2.2))
 else
  some (.inr (.inl (s1.2.1,s1.2.2)))
def bD (p0:(List ag)) (p1_0:(List ae)) (pb1_0:(List ag)) (b2:(List aB)) (b3:(List (List Int))):Option (Int×Int×List aB×List (List Int)) :=
 (gV (bD.s1 p0 p1_0 pb1_0) (0,b2,b3)).bind fun z6=>match z6 with
 | .inl v7 =>
  some (0,0,v7.1,v7.2)
 | .inr r8=>some r8
def uP (p0:(List ae)) (p1:(List ag)):Option ((Option dS)×Int) :=
 (dJ p1).bind fun x1 =>
 (ug p1).bind fun x2 =>
 (fZ [(aP.mk (!x1) 15)]).bind fun x3 =>
 (iD [x2,x3]).bind fun x4 =>
 if ¬ x4=0 then
  some (none,x4)
 else
  (Jo (p1.length:Int) (aB.mk [] [] false)).bind fun x6 =>
  (Jo (p1.length:Int) []).bind fun x7 =>
  (bD p1 p0 p1 x6 x7).bind fun x8 =>
  some ((some (dS.mk p1 x8.2.2.1 x8.2.2.2)),x8.2.1)
def qg (p0:(Option dS)):Option (List Int) :=
 (p0).bind fun x1 =>
 (at_ x1.shapes (w ((x1.shapes.length:Int) - 1))).bind fun x2 =>
 some x2
def pW (p0:(List ae)) (p1:(List ag)) (p2:(List Int)):Option ((Option dS)×Int) :=
 (uP p0 p1).bind fun x1 =>
 if ¬ x1.2=0 then
  some (none,x1.2)
 else
  (qg x1.1).bind fun x3 =>
  if (x3.length:Int)=0 then
   (fZ [(aP.mk true 10)]).bind fun x5 =>
   some (x1.1,x5)
  else
   (slices_Equal_int x3 p2).bind fun x6 =>
   (fZ [(aP.mk x6 10)]).bind fun x7 =>
   some (x1.1,x7)
def lm.j1 (p0:(List ae)) (p1:az) (x3:aB×Int) (x7:(Option dS)×Int) (a9:(Option dS)):Option ((Option aV)×Int) :=
 if (p1.Else.length:Int) > 0 then
  if (a9).isNone=true then
   some (none,3)
  else
   (pW p0 p1.Else x3.1.Extents).bind fun x12 =>
   if ¬ x12.2=0 then
    some (none,x12.2)
   else
    some ((some (aV.mk p0 p1.Var x3.1.Offsets x7.1 a9 x12.1)),0)
 else
  some ((some (aV.mk p0 p1.Var x3.1.Offsets x7.1 a9 none)),0)
def lm (p0:(List ae)) (p1:az):Option ((Option aV)×Int) :=
 (rP p0).bind fun x1 =>
 if ¬ x1=0 then
  some (none,x1)
 else
  (pg p0 p1.Var p1.Subscripts).bind fun x3 =>
  (fZ [(aP.mk (!x3.1.ManyOne) 23)]).bind fun x4 =>
  (iD [x3.2,x4]).bind fun x5 =>
  if ¬ x5=0 then
   some (none,x5)
  else
   (pW p0 p1.Value x3.1.Extents).bind fun x7 =>
   if ¬ x7.2=0 then
    some (none,x7.2)
   else
    if (p1.Mask.length:Int) > 0 then
     (pW p0 p1.Mask x3.1.Extents).bind fun x10 =>
     if ¬ x10.2=0 then
      some (none,x10.2)
     else
      lm.j1 p0 p1 x3 x7 x10.1
    else
     lm.j1 p0 p1 x3 x7 none
def lM (p0:(List ai)):Option (List ai) :=
 (app ([]:List ai) p0).bind fun x1 =>
 some x1
def lC.s1 (p0:(List ae)) (s1:Int×List ae):Option (Sum (Int×List ae) (List ae)) :=
 if s1.1 < (p0.length:Int) then
  (at_ p0 s1.1).bind fun x3 =>
  (lM x3.Bounds).bind fun x4 =>
  (slices_Clone_int x3.Elements).bind fun x5 =>
  (app s1.2 [(ae.mk x4 x5)]).bind fun x6 =>
  some (.inl ((w (s1.1+1)),x6))
 else
  some (.inr s1.2)
def lC (p0:(List ae)):Option (List ae) :=
 (gV (lC.s1 p0) (0,[])).bind fun z7 =>
 some z7
def qQ (p0:aB) (p1:Int):Option Int :=
 if (p0.Extents.length:Int)=0 then
  (at_ p0.Offsets 0).bind fun x2 =>
  some x2
 else
  (at_ p0.Offsets p1).bind fun x3 =>
  some x3
def nM (p0:Bool):Int :=
 if p0=true then
  1
 else
  0
def lX (p0:Int) (p1:Int) (p2:Int):Int :=
 if p0=2 then
  (IntKind.i32.wrap (p1+p2))
 else
  if p0=3 then
   (IntKind.i32.wrap (p1 - p2))
  else
   if p0=4 then
    (IntKind.i32.wrap (p1 * p2))
   else
    if p0=5 then
     (nM (decide (p1 < p2)))
    else
     if p0=6 then
      (nM (p1==p2))
     else
      (nM (p1==0))
def iE.s1 (p1:(List ae)) (p2:Int) (x1:dS) (s3:Int×List Int):Option (Sum (Int×List Int) (List Int)) :=
 if s3.1 < (x1.e.length:Int) then
  (at_ x1.e s3.1).bind fun x5 =>
  if x5.Kind=0 then
   (at_ s3.2 s3.1).bind fun x7 =>
   some (.inl ((w (s3.1+1)),(s3.2.set s3.1.toNat (IntKind.i32.wrap x5.Value))))
  else
   if x5.Kind=1 then
    (at_ p1 x5.Var).bind fun x9 =>
    (at_ x1.sections s3.1).bind fun x10 =>
    (qQ x10 p2).bind fun x11 =>
    (at_ x9.Elements x11).bind fun x12 =>
    (at_ s3.2 s3.1).bind fun x13 =>
    some (.inl ((w (s3.1+1)),(s3.2.set s3.1.toNat (IntKind.i32.wrap x12))))
   else
    (at_ s3.2 x5.A).bind fun x14 =>
    (at_ s3.2 x5.B).bind fun x15 =>
    (at_ s3.2 s3.1).bind fun x16 =>
    some (.inl ((w (s3.1+1)),(s3.2.set s3.1.toNat (lX x5.Kind x14 x15))))
 else
  some (.inr s3.2)
def iE (p0:(Option dS)) (p1:(List ae)) (p2:Int):Option Int :=
 (p0).bind fun x1 =>
 (Jo (x1.e.length:Int) 0).bind fun x2 =>
 (gV (iE.s1 p1 p2 x1) (0,x2)).bind fun z17 =>
 (at_ z17 (w ((z17.length:Int) - 1))).bind fun x18 =>
 some (w x18)
def iG (p0:(Option aV)) (p1:Int):Option (Option dS) :=
 (p0).bind fun x1 =>
 if (x1.mask).isNone=true then
  some x1.value
 else
  (iE x1.mask x1.store p1).bind fun x3 =>
  if ¬ x3=0 then
   some x1.value
  else
   some x1.less
def qo.s1 (p0:(List ae)) (x1:(Option aV)×Int) (x4:aV) (s5:Int×List ae):Option (Sum (Int×List ae) (List ae)) :=
 if s5.1 < (x4.cells.length:Int) then
  (at_ x4.cells s5.1).bind fun x7 =>
  (iG x1.1 s5.1).bind fun x8 =>
  if (x8).isSome=true then
   (at_ s5.2 x4.at_).bind fun x10 =>
   (iE x8 p0 s5.1).bind fun x11 =>
   (at_ x10.Elements x7).bind fun x12 =>
   some (.inl ((w (s5.1+1)),(s5.2.set x4.at_.toNat ({ x10 with Elements:=(x10.Elements.set x7.toNat x11) }:ae))))
  else
   none
 else
  some (.inr s5.2)
def qo (p0:(List ae)) (p1:az):Option ((List ae)×Int) :=
 (lm p0 p1).bind fun x1 =>
 if ¬ x1.2=0 then
  none
 else
  (lC p0).bind fun x3 =>
  (x1.1).bind fun x4 =>
  (gV (qo.s1 p0 x1 x4) (0,x3)).bind fun z13 =>
  some (z13,0)
def iJ (p0_0:List Int):Option (List Int):=EM p0_0
def jf.s1 (x4:(List Int)) (s5:Bool×Int):Option (Sum (Bool×Int) Bool) :=
 if s5.2 < (x4.length:Int) then
  (at_ x4 s5.2).bind fun x7 =>
  some (.inl ((s5.1&&(x7==s5.2)),(w (s5.2+1))))
 else
  some (.inr s5.1)
def jf (p0:(List ae)) (p1:az) (p2:(List Int)):Option ((Option aV)×Int) :=
 (lm p0 p1).bind fun x1 =>
 if ¬ x1.2=0 then
  some (none,x1.2)
 else
  (x1.1).bind fun x3 =>
  (iJ p2).bind fun x4 =>
  (gV (jf.s1 x4) (((p2.length:Int)==(x3.cells.length:Int)),0)).bind fun z10 =>
  (fZ [(aP.mk z10 3)]).bind fun x11 =>
  some (x1.1,x11)
def kC.s1 (p2:(List Int)) (x1:(Option aV)×Int) (s4:Int×List ae):Option (Sum (Int×List ae) (List ae)) :=
 if s4.1 < (p2.length:Int) then
  (at_ p2 s4.1).bind fun x6 =>
  (iG x1.1 x6).bind fun x7 =>
  if (x7).isSome=true then
   (x1.1).bind fun x9 =>
   (at_ s4.2 x9.at_).bind fun x10 =>
   (at_ x9.cells x6).bind fun x11 =>
   (iE x7 s4.2 x6).bind fun x12 =>
   (at_ x10.Elements x11).bind fun x13 =>
   some (.inl ((w (s4.1+1)),(s4.2.set x9.at_.toNat ({ x10 with Elements:=(x10.Elements.set x11.toNat x12) }:ae))))
  else
   some (.inl ((w (s4.1+1)),s4.2))
 else
  some (.inr s4.2)
def kC (p0:(List ae)) (p1:az) (p2:(List Int)):Option ((List ae)×Int) :=
 (jf p0 p1 p2).bind fun x1 =>
 if ¬ x1.2=0 then
  some (([]:List ae),x1.2)
 else
  (lC p0).bind fun x3 =>
  (gV (kC.s1 p2 x1) (0,x3)).bind fun z14 =>
  some (z14,0)
def fP.s1 (p0:(Option aV)) (p1:Int) (p2:Int) (x3:dS) (s4:Int):Option (Sum Int (Sum Unit Bool)) :=
 if s4 < (x3.e.length:Int) then
  (at_ x3.e s4).bind fun x6 =>
  if x6.Kind=1 then
   (p0).bind fun x8 =>
   if x6.Var=x8.at_ then
    (at_ x3.sections s4).bind fun x10 =>
    (qQ x10 p1).bind fun x11 =>
    if x11=p2 then
     some (.inr (.inr true))
    else
     some (.inl (w (s4+1)))
   else
    some (.inl (w (s4+1)))
  else
   some (.inl (w (s4+1)))
 else
  some (.inr (.inl ()))
def fP (p0:(Option aV)) (p1:Int) (p2:Int):Option Bool :=
 (iG p0 p1).bind fun x1 =>
 if (x1).isNone=true then
  some false
 else
  (x1).bind fun x3 =>
  (gV (fP.s1 p0 p1 p2 x3) 0).bind fun z13=>match z13 with
  | .inl v14 =>
   some false
  | .inr r15=>some r15
def bT.s2 (p0:(Option aV)) (x1:aV) (s2:Int×List aA) (x4:Int) (s7:Int×List aA):Option (Sum (Int×List aA) (List aA)) :=
 if s7.1 < (x1.cells.length:Int) then
  if ¬ s7.1=s2.1 then
   (fP p0 s7.1 x4).bind fun x10 =>
   if x10=true then
    (app s7.2 ([(aA.mk s2.1 s7.1)]:List aA)).bind fun x12 =>
    some (.inl ((w (s7.1+1)),x12))
   else
    some (.inl ((w (s7.1+1)),s7.2))
  else
   some (.inl ((w (s7.1+1)),s7.2))
 else
  some (.inr s7.2)
def bT.s1 (p0:(Option aV)) (x1:aV) (s2:Int×List aA):Option (Sum (Int×List aA) (List aA)) :=
 if s2.1 < (x1.cells.length:Int) then
  (at_ x1.cells s2.1).bind fun x4 =>
  (iG p0 s2.1).bind fun x5 =>
  if (x5).isNone=true then
   some (.inl ((w (s2.1+1)),s2.2))
  else
   (gV (bT.s2 p0 x1 s2 x4) (0,s2.2)).bind fun z13 =>
   some (.inl ((w (s2.1+1)),z13))
 else
  some (.inr s2.2)
def bT (p0:(Option aV)):Option (List aA) :=
 (p0).bind fun x1 =>
 (gV (bT.s1 p0 x1) (0,[])).bind fun z15 =>
 some z15
def uA (p0:(List ae)) (p1:az):Option ((List aA)×Int) :=
 (lm p0 p1).bind fun x1 =>
 if ¬ x1.2=0 then
  none
 else
  (bT x1.1).bind fun x3 =>
  some (x3,0)
def jv.s1 (x3:(List aA)) (s4:Int×List (List Int)):Option (Sum (Int×List (List Int)) (List (List Int))) :=
 if s4.1 < (x3.length:Int) then
  (at_ x3 s4.1).bind fun x6 =>
  (at_ s4.2 x6.Reader).bind fun x7 =>
  (app x7 ([x6.Writer]:List Int)).bind fun x8 =>
  some (.inl ((w (s4.1+1)),(s4.2.set x6.Reader.toNat x8)))
 else
  some (.inr s4.2)
def jv (p0:(Option aV)):Option (List (List Int)) :=
 (p0).bind fun x1 =>
 (Jo (x1.cells.length:Int) ([]:List Int)).bind fun x2 =>
 (bT p0).bind fun x3 =>
 (gV (jv.s1 x3) (0,x2)).bind fun z9 =>
 some z9
def gm.s2 (x7:(List Int)) (s8:Int×List Int):Option (Sum (Int×List Int) (List Int)) :=
 if s8.1 < (x7.length:Int) then
  (at_ x7 s8.1).bind fun x10 =>
  (at_ s8.2 x10).bind fun x11 =>
  (at_ s8.2 x10).bind fun x12 =>
  some (.inl ((w (s8.1+1)),(s8.2.set x10.toNat (w (x11+1)))))
 else
  some (.inr s8.2)
def gm.s1 (x3:(List (List Int))) (s5:Int×List Int):Option (Sum (Int×List Int) (List Int)) :=
 if s5.1 < (x3.length:Int) then
  (at_ x3 s5.1).bind fun x7 =>
  (gV (gm.s2 x7) (0,s5.2)).bind fun z13 =>
  some (.inl ((w (s5.1+1)),z13))
 else
  some (.inr s5.2)
def gm.s4 (x22:(List Int)) (s23:Int×List Int):Option (Sum (Int×List Int) (List Int)) :=
 if s23.1 < (x22.length:Int) then
  (at_ x22 s23.1).bind fun x25 =>
  (at_ s23.2 x25).bind fun x26 =>
  (at_ s23.2 x25).bind fun x27 =>
  some (.inl ((w (s23.1+1)),(s23.2.set x25.toNat (w (x26 - 1)))))
 else
  some (.inr s23.2)
def gm.s3 (x3:(List (List Int))) (s16:Int×List Int×List Int):Option (Sum (Int×List Int×List Int) (List Int)) :=
 if s16.1 < (x3.length:Int) then
  (slices_Index_int s16.2.1 0).bind fun x18 =>
  if x18 < 0 then
   none
  else
   (app s16.2.2 ([x18]:List Int)).bind fun x20 =>
   (at_ s16.2.1 x18).bind fun x21 =>
   (at_ x3 x18).bind fun x22 =>
   (gV (gm.s4 x22) (0,(s16.2.1.set x18.toNat (-1)))).bind fun z28 =>
   some (.inl ((w (s16.1+1)),z28,x20))
 else
  some (.inr s16.2.2)
def gm (p0:(List ae)) (p1:az):Option ((List Int)×Int) :=
 (lm p0 p1).bind fun x1 =>
 if ¬ x1.2=0 then
  none
 else
  (jv x1.1).bind fun x3 =>
  (Jo (x3.length:Int) 0).bind fun x4 =>
  (gV (gm.s1 x3) (0,x4)).bind fun z15 =>
  (gV (gm.s3 x3) (0,z15,[])).bind fun z30 =>
  some (z30,0)
def jU.j3 (x4:(List Int)) (s7:Int×List Bool×List (List Int)) (x9:Int) (a12:Bool):Option (Sum (Int×List Bool×List (List Int)) (Sum (List Bool×List (List Int)) (List Int))) :=
 if a12=true then
  (at_ s7.2.1 x9).bind fun x14 =>
  (slices_Clone_int x4).bind fun x15 =>
  (app x15 ([x9]:List Int)).bind fun x16 =>
  (app s7.2.2 ([x16]:List (List Int))).bind fun x17 =>
  some (.inl ((w (s7.1+1)),(s7.2.1.set x9.toNat true),x17))
 else
  some (.inl ((w (s7.1+1)),s7.2.1,s7.2.2))
def jU.s2 (p1:Int) (x4:(List Int)) (x6:(List Int)) (s7:Int×List Bool×List (List Int)):Option (Sum (Int×List Bool×List (List Int)) (Sum (List Bool×List (List Int)) (List Int))) :=
 if s7.1 < (x6.length:Int) then
  (at_ x6 s7.1).bind fun x9 =>
  if x9=p1 then
   (neL x4).bind fun x11 =>
   some (.inr (.inr x11))
  else
   if x9 > p1 then
    (at_ s7.2.1 x9).bind fun x13 =>
    jU.j3 x4 s7 x9 (!x13)
   else
    jU.j3 x4 s7 x9 false
 else
  some (.inr (.inl (s7.2.1,s7.2.2)))
def jU.s1 (p0:(List (List Int))) (p1:Int) (s2:List Bool×List (List Int)):Option (Sum (List Bool×List (List Int)) (Sum Unit (List Int))) :=
 if (s2.2.length:Int) > 0 then
  (at_ s2.2 0).bind fun x4 =>
  (at_ x4 (w ((x4.length:Int) - 1))).bind fun x5 =>
  (at_ p0 x5).bind fun x6 =>
  (gV (jU.s2 p1 x4 x6) (0,s2.1,s2.2)).bind fun z18=>match z18 with
  | .inl v19 =>
   (cut v19.2 1 (v19.2.length:Int)).bind fun x20 =>
   some (.inl (v19.1,x20))
  | .inr r21=>some (.inr (.inr r21))
 else
  some (.inr (.inl ()))
def jU (p0:(List (List Int))) (p1:Int):Option (List Int) :=
 (Jo (p0.length:Int) false).bind fun x1 =>
 (gV (jU.s1 p0 p1) (x1,[[p1]])).bind fun z22=>match z22 with
 | .inl v23 =>
  some []
 | .inr r24=>some r24
def qX.s1 (x3:(List (List Int))) (s4:(List Int)×Int):Option (Sum ((List Int)×Int) (List Int)) :=
 if s4.2 < (x3.length:Int) then
  (jU x3 s4.2).bind fun x6 =>
  if ((!(x6.isEmpty))&&((s4.1.isEmpty) || (decide ((x6.length:Int) < (s4.1.length:Int)))))=true then
   some (.inl (x6,(w (s4.2+1))))
  else
   some (.inl (s4.1,(w (s4.2+1))))
 else
  some (.inr s4.1)
def qX (p0:(List ae)) (p1:az):Option ((List Int)×Int) :=
 (lm p0 p1).bind fun x1 =>
 if ¬ x1.2=0 then
  none
 else
  (jv x1.1).bind fun x3 =>
  (gV (qX.s1 x3) (([]:List Int),0)).bind fun z12 =>
  (fZ [(aP.mk (!(z12.isEmpty)) 12)]).bind fun x13 =>
  some (z12,x13)
def eU.F (self83:(List Int)→(List Int)→Option Bool) (p0:(List Int)) (p1:(List Int)):Option Bool :=
 if (((p0.length:Int)==0) || ((p1.length:Int)==0))=true then
  some (decide ((p0.length:Int) < (p1.length:Int)))
 else
  (at_ p0 0).bind fun x4 =>
  (at_ p1 0).bind fun x5 =>
  if x4 < x5 then
   some true
  else
   (at_ p0 0).bind fun x7 =>
   (at_ p1 0).bind fun x8 =>
   if x7=x8 then
    (cut p0 1 (p0.length:Int)).bind fun x10 =>
    (cut p1 1 (p1.length:Int)).bind fun x11 =>
    (self83 x10 x11).bind fun x12 =>
    some x12
   else
    some false
def eU.N:Nat→(List Int)→(List Int)→Option Bool
 | 0=>fun _ _=>none
 | n+1=>eU.F (eU.N n)
def eU (p0:(List Int)) (p1:(List Int)):Option Bool:=lim fun n=>eU.N n p0 p1
def qH (p0:(List Int)) (p1:(List Int)):Option Bool :=
 if (p0.length:Int)=(p1.length:Int) then
  (eU p0 p1).bind fun x2 =>
  if ¬ (x2=true) then
   (eU p1 p0).bind fun x4 =>
   some (!x4)
  else
   some false
 else
  some false
def yw:Option Bool :=
 (Ah (iT 2 4 1) (iT 1 3 1)).bind fun x1 =>
 (Ah (iT 1 4 1) (iT 4 1 (-1))).bind fun x2 =>
 (qo mO x1).bind fun x3 =>
 (kC mO x1 [0,1,2]).bind fun x4 =>
 (uA mO x1).bind fun x5 =>
 (gm mO x1).bind fun x6 =>
 (qX mO x2).bind fun x7 =>
 if ((((x3.2 != 0) || (x4.2 != 0)) || ((x3.1.length:Int) != 1)) || ((x4.1.length:Int) != 1))=true then
  none
 else
  (at_ x3.1 0).bind fun x15 =>
  (qH x15.Elements [1,1,2,3]).bind fun x16 =>
  if x16=true then
   (at_ x4.1 0).bind fun x18 =>
   (qH x18.Elements [1,1,1,1]).bind fun x19 =>
   if ((x19&&(x5.2==0))&&((x5.1.length:Int)==2))=true then
    (at_ x5.1 1).bind fun x25 =>
    if (((x25.Writer==1)&&((x25.Reader==2)&&true))&&(x6.2==0))=true then
     (qH x6.1 [2,1,0]).bind fun x29 =>
     if (x29&&(x7.2==0))=true then
      (qH x7.1 [0,3]).bind fun x33 =>
      some x33
     else
      none
    else
     none
   else
    none
  else
   none
def qO.s1 (p0:(List ae)) (s2:Int):Option (Sum Int (Sum Unit Bool)) :=
 if s2 < (p0.length:Int) then
  (at_ p0 s2).bind fun x4 =>
  if (x4.Bounds.length:Int) > 9 then
   some (.inr (.inr false))
  else
   (at_ p0 s2).bind fun x6 =>
   if (x6.Elements.length:Int) > 40 then
    some (.inr (.inr false))
   else
    some (.inl (w (s2+1)))
 else
  some (.inr (.inl ()))
def qO (p0:(List ae)):Option Bool :=
 if (p0.length:Int) > 8 then
  some false
 else
  (gV (qO.s1 p0) 0).bind fun z8=>match z8 with
  | .inl v9 =>
   some true
  | .inr r10=>some r10
def mP.s1 (p0:(List ay)) (s2:Int):Option (Sum Int (Sum Unit Bool)) :=
 if s2 < (p0.length:Int) then
  (at_ p0 s2).bind fun x4 =>
  if (x4.List.length:Int) > 20 then
   some (.inr (.inr false))
  else
   some (.inl (w (s2+1)))
 else
  some (.inr (.inl ()))
def mP (p0:(List ay)):Option Bool :=
 if (p0.length:Int) > 9 then
  some false
 else
  (gV (mP.s1 p0) 0).bind fun z6=>match z6 with
  | .inl v7 =>
   some true
  | .inr r8=>some r8
def nJ.s1 (p0:(List bF)) (s2:Int):Option (Sum Int (Sum Unit Bool)) :=
 if s2 < (p0.length:Int) then
  (at_ p0 s2).bind fun x4 =>
  if (x4.Coefs.length:Int) > 9 then
   some (.inr (.inr false))
  else
   some (.inl (w (s2+1)))
 else
  some (.inr (.inl ()))
def nJ (p0:(List bF)):Option Bool :=
 if (p0.length:Int) > 9 then
  some false
 else
  (gV (nJ.s1 p0) 0).bind fun z6=>match z6 with
  | .inl v7 =>
   some true
  | .inr r8=>some r8
def lN.s1 (p0:(List ag)) (s6:Int):Option (Sum Int (Sum Unit Bool)) :=
 if s6 < (p0.length:Int) then
  (at_ p0 s6).bind fun x8 =>
  (mP x8.Subscripts).bind fun x9 =>
  if ¬ (x9=true) then
   some (.inr (.inr false))
  else
   (at_ p0 s6).bind fun x11 =>
   (nJ x11.Forms).bind fun x12 =>
   if ¬ (x12=true) then
    some (.inr (.inr false))
   else
    some (.inl (w (s6+1)))
 else
  some (.inr (.inl ()))
def lN (p0:(List ag)):Option Bool :=
 if (((decide ((p0.length:Int) > 20))&&(decide ((p0.length:Int)≤40))) || (decide ((p0.length:Int) > 42)))=true then
  some false
 else
  (gV (lN.s1 p0) 0).bind fun z14=>match z14 with
  | .inl v15 =>
   some true
  | .inr r16=>some r16
def vZ (p0:az):Option Bool :=
 (mP p0.Subscripts).bind fun x1 =>
 if x1=true then
  (lN p0.Value).bind fun x3 =>
  if x3=true then
   (lN p0.Mask).bind fun x5 =>
   if x5=true then
    (lN p0.Else).bind fun x7 =>
    some x7
   else
    some false
  else
   some false
 else
  some false
def qi (p0:(List ai)):Option (List ai) :=
 (app ([]:List ai) p0).bind fun x1 =>
 some x1
def lV (p0:(List Int)):Option (List Int) :=
 (Jo (p0.length:Int) 0).bind fun x1 =>
 some (copied x1 p0)
def vS (p0:ae):Option ae :=
 (qi p0.Bounds).bind fun x1 =>
 (lV p0.Elements).bind fun x2 =>
 some (ae.mk x1 x2)
def jh.s1 (p0:(List ae)) (s1:Int×List ae):Option (Sum (Int×List ae) (List ae)) :=
 if s1.1 < (p0.length:Int) then
  (at_ p0 s1.1).bind fun x3 =>
  (vS x3).bind fun x4 =>
  (app s1.2 ([x4]:List ae)).bind fun x5 =>
  some (.inl ((w (s1.1+1)),x5))
 else
  some (.inr s1.2)
def jh (p0:(List ae)):Option (List ae) :=
 (gV (jh.s1 p0) (0,[])).bind fun z6 =>
 some z6
def gp.s1 (p0:(List ay)) (s1:Int×List ay):Option (Sum (Int×List ay) (List ay)) :=
 if s1.1 < (p0.length:Int) then
  (at_ p0 s1.1).bind fun x3 =>
  (lV x3.List).bind fun x4 =>
  (app s1.2 ([(ay.mk x3.Kind x3.Low x3.High x3.Step x4)]:List ay)).bind fun x5 =>
  some (.inl ((w (s1.1+1)),x5))
 else
  some (.inr s1.2)
def gp (p0:(List ay)):Option (List ay) :=
 (gV (gp.s1 p0) (0,[])).bind fun z6 =>
 some z6
def jD.s1 (p0:(List bF)) (s1:Int×List bF):Option (Sum (Int×List bF) (List bF)) :=
 if s1.1 < (p0.length:Int) then
  (at_ p0 s1.1).bind fun x3 =>
  (lV x3.Coefs).bind fun x4 =>
  (at_ p0 s1.1).bind fun x5 =>
  (app s1.2 ([(bF.mk x4 x5.Const)]:List bF)).bind fun x6 =>
  some (.inl ((w (s1.1+1)),x6))
 else
  some (.inr s1.2)
def jD (p0:(List bF)):Option (List bF) :=
 (gV (jD.s1 p0) (0,[])).bind fun z7 =>
 some z7
def jo.s1 (p0:(List ag)) (s1:Int×List ag):Option (Sum (Int×List ag) (List ag)) :=
 if s1.1 < (p0.length:Int) then
  (at_ p0 s1.1).bind fun x3 =>
  (gp x3.Subscripts).bind fun x4 =>
  (jD x3.Forms).bind fun x5 =>
  (app s1.2 ([(ag.mk x3.Kind x3.Value x3.Var x3.A x3.B x4 x5)]:List ag)).bind fun x6 =>
  some (.inl ((w (s1.1+1)),x6))
 else
  some (.inr s1.2)
def jo (p0:(List ag)):Option (List ag) :=
 (gV (jo.s1 p0) (0,[])).bind fun z7 =>
 some z7
def qp (p0:az):Option az :=
 (gp p0.Subscripts).bind fun x1 =>
 (jo p0.Value).bind fun x2 =>
 (jo p0.Mask).bind fun x3 =>
 (jo p0.Else).bind fun x4 =>
 some (az.mk p0.Var x1 x2 x3 x4)
def oN (p0:aA) (p1:(List Int)):Option Bool :=
 (slices_Index_int p1 p0.Writer).bind fun x1 =>
 (slices_Index_int p1 p0.Reader).bind fun x2 =>
 some (decide (x1 < x2))
def aX.s1 (p0:(List aA)) (p1_0:(List Int)) (s1:Int):Option (Sum Int (Sum Unit Int)) :=
 if s1 < (p0.length:Int) then
  (at_ p0 s1).bind fun x3 =>
  (oN x3 p1_0).bind fun x4 =>
  if x4=true then
   some (.inr (.inr s1))
  else
   some (.inl (w (s1+1)))
 else
  some (.inr (.inl ()))
def aX (p0:(List aA)) (p1_0:(List Int)):Option Int :=
 (gV (aX.s1 p0 p1_0) 0).bind fun z6=>match z6 with
 | .inl v7 =>
  some (-1)
 | .inr r8=>some r8
def fA (p0:(List aA)) (p1_0:(List Int)):Option Bool :=
 (aX p0 p1_0).bind fun x1 =>
 some (decide (x1≥0))
def oW (p0:(List ae)) (p1:az) (p2:(List Int)):Option (Bool×Int) :=
 (jf p0 p1 p2).bind fun x1 =>
 if ¬ x1.2=0 then
  some (false,x1.2)
 else
  (bT x1.1).bind fun x3 =>
  (fA x3 p2).bind fun x4 =>
  some ((!x4),0)
def eX (p0:Int) (p1:Int) (p2:Int):Bool :=
 (!((decide (p0 < p1)) || (decide (p0 > p2))))
def dZ (p0:Int):Bool :=
 (eX p0 (-2147483647) 2147483647)
def jO.s1 (p0:(List ai)) (s1:Int×List Int):Option (Sum (Int×List Int) (List Int)) :=
 if s1.1 < (p0.length:Int) then
  (at_ p0 s1.1).bind fun x3 =>
  (at_ p0 s1.1).bind fun x4 =>
  (app s1.2 ([(mx 0 (w ((w (x3.High - x4.Low))+1)))]:List Int)).bind fun x5 =>
  some (.inl ((w (s1.1+1)),x5))
 else
  some (.inr s1.2)
def jO (p0:(List ai)):Option (List Int) :=
 (gV (jO.s1 p0) (0,[])).bind fun z6 =>
 some z6
def jP.s1 (p0:(List Int)) (s1:Int×Int):Option (Sum (Int×Int) (Sum Int Int)) :=
 if s1.2 < (p0.length:Int) then
  (at_ p0 s1.2).bind fun x3 =>
  if x3=0 then
   some (.inr (.inr 0))
  else
   (at_ p0 s1.2).bind fun x5 =>
   some (.inl ((mn (w (s1.1 * (mn x5 513))) 513),(w (s1.2+1))))
 else
  some (.inr (.inl s1.1))
def jP (p0:(List Int)):Option Int :=
 (gV (jP.s1 p0) (1,0)).bind fun z6=>match z6 with
 | .inl v7 =>
  some v7
 | .inr r8=>some r8
def fQ.s1 (p0:(List ai)) (s2:Int):Option (Sum Int (Sum Unit Int)) :=
 if s2 < (p0.length:Int) then
  (at_ p0 s2).bind fun x4 =>
  if ¬ ((dZ x4.Low)=true) then
   some (.inr (.inr 2))
  else
   (at_ p0 s2).bind fun x6 =>
   if ¬ ((dZ x6.High)=true) then
    some (.inr (.inr 2))
   else
    some (.inl (w (s2+1)))
 else
  some (.inr (.inl ()))
def fQ.s2 (x10:(List Int)) (s11:Int):Option (Sum Int (Sum Unit Int)) :=
 if s11 < (x10.length:Int) then
  (at_ x10 s11).bind fun x13 =>
  if x13 > 512 then
   some (.inr (.inr 8))
  else
   some (.inl (w (s11+1)))
 else
  some (.inr (.inl ()))
def fQ (p0:(List ai)):Option Int :=
 if (p0.length:Int) > 7 then
  some 32
 else
  (gV (fQ.s1 p0) 0).bind fun z8=>match z8 with
  | .inl v9 =>
   (jO p0).bind fun x10 =>
   (gV (fQ.s2 x10) 0).bind fun z15=>match z15 with
   | .inl v16 =>
    (jP x10).bind fun x17 =>
    if x17 > 512 then
     some 8
    else
     some 0
   | .inr r19=>some r19
  | .inr r20=>some r20
def kW (p0:Int):Bool :=
 (eX p0 (-2147483648) 2147483647)
def nN.s1 (p0:ae) (s6:Int):Option (Sum Int (Sum Unit (Int×Int))) :=
 if s6 < (p0.Elements.length:Int) then
  (at_ p0.Elements s6).bind fun x8 =>
  if ¬ ((kW x8)=true) then
   some (.inr (.inr (s6,2)))
  else
   some (.inl (w (s6+1)))
 else
  some (.inr (.inl ()))
def nN (p0:ae):Option (Int×Int) :=
 (fQ p0.Bounds).bind fun x1 =>
 if ¬ x1=0 then
  some (0,x1)
 else
  (jO p0.Bounds).bind fun x3 =>
  (jP x3).bind fun x4 =>
  if ¬ (p0.Elements.length:Int)=x4 then
   some (0,10)
  else
   (gV (nN.s1 p0) 0).bind fun z10=>match z10 with
   | .inl v11 =>
    some (0,0)
   | .inr r12=>some r12
def zN (p0:ae):Option Int :=
 (nN p0).bind fun x1 =>
 some x1.2
def jY.s1 (p0:(List ae)) (s2:Int):Option (Sum Int (Sum Unit Int)) :=
 if s2 < (p0.length:Int) then
  (at_ p0 s2).bind fun x4 =>
  (zN x4).bind fun x5 =>
  if ¬ x5=0 then
   some (.inr (.inr x5))
  else
   some (.inl (w (s2+1)))
 else
  some (.inr (.inl ()))
def jY (p0:(List ae)):Option Int :=
 if (p0.length:Int) > 6 then
  some 8
 else
  (gV (jY.s1 p0) 0).bind fun z7=>match z7 with
  | .inl v8 =>
   some 0
  | .inr r9=>some r9
def kH (p0:Int):Int :=
 if p0 < 0 then
  (w (0 - p0))
 else
  p0
def ni (p0:Bool):Int :=
 if p0=true then
  1
 else
  0
def vO (p0:Int) (p1:Int):Option Int :=
 (quo .i64 p0 p1).bind fun x1 =>
 (rem p0 p1).bind fun x2 =>
 some (w (x1 - (ni (decide (x2 < 0)))))
def dH.s2 (p0:ai) (a26:(List Int)) (s27:Int):Option (Sum Int (Sum Unit ((List Int)×Int))) :=
 if s27 < (a26.length:Int) then
  (at_ a26 s27).bind fun x29 =>
  if ¬ ((eX x29 p0.Low p0.High)=true) then
   some (.inr (.inr (([]:List Int),33)))
  else
   some (.inl (w (s27+1)))
 else
  some (.inr (.inl ()))
def dH.j1 (p0:ai) (a26:(List Int)):Option ((List Int)×Int) :=
 (gV (dH.s2 p0 a26) 0).bind fun z31=>match z31 with
 | .inl v32 =>
  some (a26,0)
 | .inr r33=>some r33
def dH.s4 (p1:ay) (a29:Int) (s31:Int×List Int):Option (Sum (Int×List Int) (List Int)) :=
 if s31.1 < a29 then
  (app s31.2 ([(w (p1.Low+(w (s31.1 * p1.Step))))]:List Int)).bind fun x33 =>
  some (.inl ((w (s31.1+1)),x33))
 else
  some (.inr s31.2)
def dH.j3 (p0:ai) (p1:ay) (a29:Int):Option ((List Int)×Int) :=
 if a29 > 512 then
  some (([]:List Int),8)
 else
  (gV (dH.s4 p1 a29) (0,[])).bind fun z34 =>
  dH.j1 p0 z34
def dH (p0:ai) (p1:ay):Option ((List Int)×Int) :=
 if ((!(dZ p0.Low)) || (!(dZ p0.High)))=true then
  some (([]:List Int),2)
 else
  if ¬ ((eX p1.Kind 0 2)=true) then
   some (([]:List Int),15)
  else
   if ((((p1.Kind != 1)&&((p1.High != 0) || (p1.Step != 0))) || ((p1.Kind==2)&&(p1.Low != 0))) || ((p1.Kind != 2)&&(decide ((p1.List.length:Int) > 0))))=true then
    some (([]:List Int),3)
   else
    if ((p1.Kind==1)&&(p1.Step==0))=true then
     some (([]:List Int),11)
    else
     if (((!(dZ p1.Low)) || (!(dZ p1.High))) || (!(dZ p1.Step)))=true then
      some (([]:List Int),2)
     else
      if p1.Kind=0 then
       dH.j1 p0 [p1.Low]
      else
       if p1.Kind=1 then
        (vO (w (p1.High - p1.Low)) (kH p1.Step)).bind fun x28 =>
        if p1.Step < 0 then
         (vO (w (p1.Low - p1.High)) (kH p1.Step)).bind fun x30 =>
         dH.j3 p0 p1 (mx 0 (w (x30+1)))
        else
         dH.j3 p0 p1 (mx 0 (w (x28+1)))
       else
        if (p1.List.length:Int) > 512 then
         some (([]:List Int),8)
        else
         (lV p1.List).bind fun x37 =>
         dH.j1 p0 x37
def kV.s1 (p0:(List Int)) (s1:Int×Int×List Int):Option (Sum (Int×Int×List Int) (List Int)) :=
 if s1.2.1 < (p0.length:Int) then
  (at_ p0 s1.2.1).bind fun x3 =>
  (rem s1.1 x3).bind fun x4 =>
  (app s1.2.2 ([x4]:List Int)).bind fun x5 =>
  (at_ p0 s1.2.1).bind fun x6 =>
  (quo .i64 s1.1 x6).bind fun x7 =>
  some (.inl (x7,(w (s1.2.1+1)),x5))
 else
  some (.inr s1.2.2)
def kV (p0:(List Int)) (p1:Int):Option (List Int) :=
 (gV (kV.s1 p0) (p1,0,[])).bind fun z8 =>
 some z8
def mV.s1 (p0:(List Int)) (p1:(List Int)) (s1:Int×Int):Option (Sum (Int×Int) Int) :=
 if s1.2≥0 then
  (at_ p0 s1.2).bind fun x3 =>
  (at_ p1 s1.2).bind fun x4 =>
  some (.inl ((w ((w (s1.1 * x3))+x4)),(w (s1.2 - 1))))
 else
  some (.inr s1.1)
def mV (p0:(List Int)) (p1:(List Int)):Option Int :=
 (gV (mV.s1 p0 p1) (0,(w ((p0.length:Int) - 1)))).bind fun z5 =>
 some z5
def mi.s1 (p0:(List ai)) (p1:(List Int)) (s1:Int×List Int):Option (Sum (Int×List Int) (List Int)) :=
 if s1.1 < (p0.length:Int) then
  (at_ p1 s1.1).bind fun x3 =>
  (at_ p0 s1.1).bind fun x4 =>
  (app s1.2 ([(w (x3 - x4.Low))]:List Int)).bind fun x5 =>
  some (.inl ((w (s1.1+1)),x5))
 else
  some (.inr s1.2)
def mi (p0:(List ai)) (p1:(List Int)):Option Int :=
 (gV (mi.s1 p0 p1) (0,[])).bind fun z6 =>
 (jO p0).bind fun x7 =>
 (mV x7 z6).bind fun x8 =>
 some x8
def rX.s1 (p0:(List Int)) (p1:Int) (s1:Bool×Int):Option (Sum (Bool×Int) Bool) :=
 if s1.2 < (p0.length:Int) then
  (at_ p0 s1.2).bind fun x3 =>
  some (.inl ((s1.1 || (x3==p1)),(w (s1.2+1))))
 else
  some (.inr s1.1)
def rX (p0:(List Int)) (p1:Int):Option Bool :=
 (gV (rX.s1 p0 p1) (false,0)).bind fun z6 =>
 some z6
def dY.s1 (p0:(List ai)) (p1:(List ay)) (s4:Int×List (List Int)×List Int×List Int):Option (Sum (Int×List (List Int)×List Int×List Int) (Sum (List (List Int)×List Int×List Int) (aB×Int))) :=
 if s4.1 < (p1.length:Int) then
  (at_ p0 s4.1).bind fun x6 =>
  (at_ p1 s4.1).bind fun x7 =>
  (dH x6 x7).bind fun x8 =>
  if ¬ x8.2=0 then
   some (.inr (.inr ((aB.mk [] [] false),x8.2)))
  else
   (app s4.2.1 ([x8.1]:List (List Int))).bind fun x10 =>
   (app s4.2.2.1 ([(x8.1.length:Int)]:List Int)).bind fun x11 =>
   (at_ p1 s4.1).bind fun x12 =>
   if ¬ x12.Kind=0 then
    (app s4.2.2.2 ([(x8.1.length:Int)]:List Int)).bind fun x14 =>
    some (.inl ((w (s4.1+1)),x10,x11,x14))
   else
    some (.inl ((w (s4.1+1)),x10,x11,s4.2.2.2))
 else
  some (.inr (.inl (s4.2.1,s4.2.2.1,s4.2.2.2)))
def dY.s3 (v16:List (List Int)×List Int×List Int) (s22:Int×List Int):Option (Sum (Int×List Int) (List Int)) :=
 if s22.1 < (s22.2.length:Int) then
  (at_ v16.1 s22.1).bind fun x24 =>
  (at_ s22.2 s22.1).bind fun x25 =>
  (at_ x24 x25).bind fun x26 =>
  (at_ s22.2 s22.1).bind fun x27 =>
  some (.inl ((w (s22.1+1)),(s22.2.set s22.1.toNat x26)))
 else
  some (.inr s22.2)
def dY.s2 (p0:(List ai)) (v16:List (List Int)×List Int×List Int) (x17:Int) (s19:Int×Bool×List Int):Option (Sum (Int×Bool×List Int) (Bool×List Int)) :=
 if s19.1 < x17 then
  (kV v16.2.1 s19.1).bind fun x21 =>
  (gV (dY.s3 v16) (0,x21)).bind fun z28 =>
  (mi p0 z28).bind fun x29 =>
  if s19.2.1=true then
   (app s19.2.2 ([x29]:List Int)).bind fun x31 =>
   some (.inl ((w (s19.1+1)),true,x31))
  else
   (rX s19.2.2 x29).bind fun x32 =>
   (app s19.2.2 ([x29]:List Int)).bind fun x33 =>
   some (.inl ((w (s19.1+1)),x32,x33))
 else
  some (.inr (s19.2.1,s19.2.2))
def dY (p0:(List ai)) (p1:(List ay)):Option (aB×Int) :=
 (fQ p0).bind fun x1 =>
 if ¬ x1=0 then
  some ((aB.mk [] [] false),x1)
 else
  if ¬ (p1.length:Int)=(p0.length:Int) then
   some ((aB.mk [] [] false),32)
  else
   (gV (dY.s1 p0 p1) (0,[],[],[])).bind fun z15=>match z15 with
   | .inl v16 =>
    (jP v16.2.1).bind fun x17 =>
    if x17 > 512 then
     some ((aB.mk [] [] false),8)
    else
     (gV (dY.s2 p0 v16 x17) (0,false,[])).bind fun z35 =>
     some ((aB.mk v16.2.2 z35.2 z35.1),0)
   | .inr r37=>some r37
def dD.j3 (s4:Int×List Int) (x6:ag) (a8:Bool×Bool×Bool×Bool×Bool×Bool) (a39:List Int):Option (Sum (Int×List Int) (Sum (List Int) Int)) :=
 if a8.2.2.2.2.2=true then
  (at_ a39 x6.B).bind fun x41 =>
  (at_ a39 x6.B).bind fun x42 =>
  some (.inl ((w (s4.1+1)),(a39.set x6.B.toNat (w (x41+1)))))
 else
  some (.inl ((w (s4.1+1)),a39))
def dD.j2 (s4:Int×List Int) (x6:ag) (a8:Bool×Bool×Bool×Bool×Bool×Bool):Option (Sum (Int×List Int) (Sum (List Int) Int)) :=
 if (((((((!a8.1)&&(x6.Value != 0)) || ((!a8.2.1)&&(x6.Var != 0))) || ((!a8.2.2.1)&&(decide ((x6.Subscripts.length:Int) > 0)))) || ((!a8.2.2.2.1)&&(decide ((x6.Forms.length:Int) > 0)))) || ((!a8.2.2.2.2.1)&&(x6.A != 0))) || ((!a8.2.2.2.2.2)&&(x6.B != 0)))=true then
  some (.inr (.inr 3))
 else
  if ((a8.2.2.2.2.1&&(!(eX x6.A 0 (w (s4.1 - 1))))) || (a8.2.2.2.2.2&&(!(eX x6.B 0 (w (s4.1 - 1))))))=true then
   some (.inr (.inr 3))
  else
   if a8.2.2.2.2.1=true then
    (at_ s4.2 x6.A).bind fun x40 =>
    (at_ s4.2 x6.A).bind fun x41 =>
    dD.j3 s4 x6 a8 (s4.2.set x6.A.toNat (w (x40+1)))
   else
    dD.j3 s4 x6 a8 s4.2
def dD.s1 (p0:(List ag)) (s4:Int×List Int):Option (Sum (Int×List Int) (Sum (List Int) Int)) :=
 if s4.1 < (p0.length:Int) then
  (at_ p0 s4.1).bind fun x6 =>
  if ¬ ((eX x6.Kind 0 9)=true) then
   some (.inr (.inr 15))
  else
   if x6.Kind=0 then
    dD.j2 s4 x6 (true,false,false,false,false,false)
   else
    if x6.Kind=1 then
     dD.j2 s4 x6 (false,true,true,false,false,false)
    else
     if x6.Kind=7 then
      dD.j2 s4 x6 (false,false,false,false,true,false)
     else
      if x6.Kind=8 then
       dD.j2 s4 x6 (false,true,false,false,false,false)
      else
       if x6.Kind=9 then
        dD.j2 s4 x6 (false,true,false,true,false,false)
       else
        dD.j2 s4 x6 (false,false,false,false,true,true)
 else
  some (.inr (.inl s4.2))
def dD.s4 (p0:(List ag)) (v44:List Int) (s45:Int):Option (Sum Int (Sum Unit Int)) :=
 if s45 < (p0.length:Int) then
  (at_ v44 s45).bind fun x47 =>
  if ¬ x47=(ni (decide (s45 < (w ((p0.length:Int) - 1))))) then
   some (.inr (.inr 3))
  else
   some (.inl (w (s45+1)))
 else
  some (.inr (.inl ()))
def dD (p0:(List ag)):Option Int :=
 if (p0.length:Int)=0 then
  some 17
 else
  if (p0.length:Int) > 40 then
   some 8
  else
   (Jo (p0.length:Int) 0).bind fun x3 =>
   (gV (dD.s1 p0) (0,x3)).bind fun z43=>match z43 with
   | .inl v44 =>
    (gV (dD.s4 p0 v44) 0).bind fun z49=>match z49 with
    | .inl v50 =>
     some 0
    | .inr r51=>some r51
   | .inr r52=>some r52
def iI.s1 (p1:(List ag)) (s3:Int):Option (Sum Int (Sum Unit ((List (List Int))×Int))) :=
 if s3 < (p1.length:Int) then
  (at_ p1 s3).bind fun x5 =>
  if x5.Kind=8 then
   some (.inr (.inr (([]:List (List Int)),15)))
  else
   (at_ p1 s3).bind fun x7 =>
   if x7.Kind=9 then
    some (.inr (.inr (([]:List (List Int)),15)))
   else
    some (.inl (w (s3+1)))
 else
  some (.inr (.inl ()))
def iI.s2 (p0:(List ae)) (p1:(List ag)) (s11:Int×List (List Int)):Option (Sum (Int×List (List Int)) (Sum (List (List Int)) ((List (List Int))×Int))) :=
 if s11.1 < (p1.length:Int) then
  (at_ p1 s11.1).bind fun x13 =>
  if x13.Kind=0 then
   if ¬ ((kW x13.Value)=true) then
    some (.inr (.inr (([]:List (List Int)),2)))
   else
    (app s11.2 ([[]]:List (List Int))).bind fun x16 =>
    some (.inl ((w (s11.1+1)),x16))
  else
   if x13.Kind=1 then
    if ¬ ((eX x13.Var 0 (w ((p0.length:Int) - 1)))=true) then
     some (.inr (.inr (([]:List (List Int)),6)))
    else
     (at_ p0 x13.Var).bind fun x19 =>
     (dY x19.Bounds x13.Subscripts).bind fun x20 =>
     if ¬ x20.2=0 then
      some (.inr (.inr (([]:List (List Int)),x20.2)))
     else
      if (x20.1.Offsets.length:Int) > 60 then
       some (.inr (.inr (([]:List (List Int)),8)))
      else
       (app s11.2 ([x20.1.Extents]:List (List Int))).bind fun x23 =>
       some (.inl ((w (s11.1+1)),x23))
   else
    if x13.Kind=7 then
     (at_ s11.2 x13.A).bind fun x25 =>
     (app s11.2 ([x25]:List (List Int))).bind fun x26 =>
     some (.inl ((w (s11.1+1)),x26))
    else
     (at_ s11.2 x13.A).bind fun x27 =>
     (at_ s11.2 x13.B).bind fun x28 =>
     if ((decide ((x27.length:Int) > 0))&&(decide ((x28.length:Int) > 0)))=true then
      (qH x27 x28).bind fun x32 =>
      if ¬ (x32=true) then
       some (.inr (.inr (([]:List (List Int)),10)))
      else
       if (x27.length:Int)=0 then
        (app s11.2 ([x28]:List (List Int))).bind fun x35 =>
        some (.inl ((w (s11.1+1)),x35))
       else
        (app s11.2 ([x27]:List (List Int))).bind fun x36 =>
        some (.inl ((w (s11.1+1)),x36))
     else
      if (x27.length:Int)=0 then
       (app s11.2 ([x28]:List (List Int))).bind fun x38 =>
       some (.inl ((w (s11.1+1)),x38))
      else
       (app s11.2 ([x27]:List (List Int))).bind fun x39 =>
       some (.inl ((w (s11.1+1)),x39))
 else
  some (.inr (.inl s11.2))
def iI (p0:(List ae)) (p1:(List ag)):Option ((List (List Int))×Int) :=
 (dD p1).bind fun x1 =>
 if ¬ x1=0 then
  some (([]:List (List Int)),x1)
 else
  (gV (iI.s1 p1) 0).bind fun z9=>match z9 with
  | .inl v10 =>
   (gV (iI.s2 p0 p1) (0,[])).bind fun z40=>match z40 with
   | .inl v41 =>
    some (v41,0)
   | .inr r42=>some r42
  | .inr r43=>some r43
def uF (p0:(List ae)) (p1:(List ag)) (p2:(List Int)):Option Int :=
 (iI p0 p1).bind fun x1 =>
 if ¬ x1.2=0 then
  some x1.2
 else
  (at_ x1.1 (w ((x1.1.length:Int) - 1))).bind fun x3 =>
  if (x3.length:Int) > 0 then
   (qH x3 p2).bind fun x5 =>
   if ¬ (x5=true) then
    some 10
   else
    some 0
  else
   some 0
def kX.j1 (p0:(List ae)) (p1:az) (x5:aB×Int) (a11:Unit):Option (aB×Int) :=
 if (p1.Else.length:Int) > 0 then
  if (p1.Mask.length:Int)=0 then
   some ((aB.mk [] [] false),3)
  else
   (uF p0 p1.Else x5.1.Extents).bind fun x14 =>
   if ¬ x14=0 then
    some ((aB.mk [] [] false),x14)
   else
    some (x5.1,0)
 else
  some (x5.1,0)
def kX (p0:(List ae)) (p1:az):Option (aB×Int) :=
 (jY p0).bind fun x1 =>
 if ¬ x1=0 then
  some ((aB.mk [] [] false),x1)
 else
  if ¬ ((eX p1.Var 0 (w ((p0.length:Int) - 1)))=true) then
   some ((aB.mk [] [] false),6)
  else
   (at_ p0 p1.Var).bind fun x4 =>
   (dY x4.Bounds p1.Subscripts).bind fun x5 =>
   if ¬ x5.2=0 then
    some ((aB.mk [] [] false),x5.2)
   else
    if (x5.1.Offsets.length:Int) > 60 then
     some ((aB.mk [] [] false),8)
    else
     if x5.1.ManyOne=true then
      some ((aB.mk [] [] false),23)
     else
      (uF p0 p1.Value x5.1.Extents).bind fun x9 =>
      if ¬ x9=0 then
       some ((aB.mk [] [] false),x9)
      else
       if (p1.Mask.length:Int) > 0 then
        (uF p0 p1.Mask x5.1.Extents).bind fun x12 =>
        if ¬ x12=0 then
         some ((aB.mk [] [] false),x12)
        else
         kX.j1 p0 p1 x5 ()
       else
        kX.j1 p0 p1 x5 ()
def kZ.s1 (p0:(List Int)) (p1:Int) (s2:Int):Option (Sum Int (Sum Unit Bool)) :=
 if s2 < p1 then
  (rX p0 s2).bind fun x4 =>
  if ¬ (x4=true) then
   some (.inr (.inr false))
  else
   some (.inl (w (s2+1)))
 else
  some (.inr (.inl ()))
def kZ (p0:(List Int)) (p1:Int):Option Bool :=
 if ¬ (p0.length:Int)=p1 then
  some false
 else
  (gV (kZ.s1 p0 p1) 0).bind fun z6=>match z6 with
  | .inl v7 =>
   some true
  | .inr r8=>some r8
def tH (p0:(List ae)) (p1:ag) (p2:Int):Option Int :=
 (at_ p0 p1.Var).bind fun x1 =>
 (dY x1.Bounds p1.Subscripts).bind fun x2 =>
 if (x2.1.Extents.length:Int)=0 then
  (at_ x2.1.Offsets 0).bind fun x4 =>
  some x4
 else
  (at_ x2.1.Offsets p2).bind fun x5 =>
  some x5
def CE (p0:Int) (p1:Int):Option Int :=
 (rem p0 p1).bind fun x1 =>
 (rem p0 p1).bind fun x2 =>
 some (w (x1+(w (p1 * (ni (decide (x2 < 0)))))))
def uD (p0:Int):Option Int :=
 (CE (w (p0+2147483648)) 4294967296).bind fun x1 =>
 some (w (x1 - 2147483648))
def qZ (p0:Int) (p1:Int) (p2:Int):Option Int :=
 if p0=2 then
  (uD (w (p1+p2))).bind fun x2 =>
  some x2
 else
  if p0=3 then
   (uD (w (p1 - p2))).bind fun x4 =>
   some x4
  else
   if p0=4 then
    (uD (w (p1 * p2))).bind fun x6 =>
    some x6
   else
    if p0=5 then
     some (ni (decide (p1 < p2)))
    else
     if p0=6 then
      some (ni (p1==p2))
     else
      some (ni (p1==0))
def jQ.s1 (p0:(List ae)) (p1:(List ag)) (p2:Int) (s1:Int×List Int):Option (Sum (Int×List Int) (List Int)) :=
 if s1.1 < (p1.length:Int) then
  (at_ p1 s1.1).bind fun x3 =>
  if x3.Kind=0 then
   (app s1.2 ([x3.Value]:List Int)).bind fun x5 =>
   some (.inl ((w (s1.1+1)),x5))
  else
   if x3.Kind=1 then
    (at_ p0 x3.Var).bind fun x7 =>
    (tH p0 x3 p2).bind fun x8 =>
    (at_ x7.Elements x8).bind fun x9 =>
    (app s1.2 ([x9]:List Int)).bind fun x10 =>
    some (.inl ((w (s1.1+1)),x10))
   else
    if x3.Kind=7 then
     (at_ s1.2 x3.A).bind fun x12 =>
     (qZ x3.Kind x12 0).bind fun x13 =>
     (app s1.2 ([x13]:List Int)).bind fun x14 =>
     some (.inl ((w (s1.1+1)),x14))
    else
     (at_ s1.2 x3.A).bind fun x15 =>
     (at_ s1.2 x3.B).bind fun x16 =>
     (qZ x3.Kind x15 x16).bind fun x17 =>
     (app s1.2 ([x17]:List Int)).bind fun x18 =>
     some (.inl ((w (s1.1+1)),x18))
 else
  some (.inr s1.2)
def jQ (p0:(List ae)) (p1:(List ag)) (p2:Int):Option Int :=
 (gV (jQ.s1 p0 p1 p2) (0,[])).bind fun z19 =>
 (at_ z19 (w ((z19.length:Int) - 1))).bind fun x20 =>
 some x20
def lD.s1 (p0:(List ae)) (p1:az) (p2:Int) (s1:Int×List (List ag)):Option (Sum (Int×List (List ag)) (List (List ag))) :=
 if s1.1 < p2 then
  if (p1.Mask.length:Int) > 0 then
   (jQ p0 p1.Mask s1.1).bind fun x4 =>
   if x4=0 then
    (app s1.2 ([p1.Else]:List (List ag))).bind fun x6 =>
    some (.inl ((w (s1.1+1)),x6))
   else
    (app s1.2 ([p1.Value]:List (List ag))).bind fun x7 =>
    some (.inl ((w (s1.1+1)),x7))
  else
   (app s1.2 ([p1.Value]:List (List ag))).bind fun x8 =>
   some (.inl ((w (s1.1+1)),x8))
 else
  some (.inr s1.2)
def lD (p0:(List ae)) (p1:az) (p2:Int):Option (List (List ag)) :=
 (gV (lD.s1 p0 p1 p2) (0,[])).bind fun z9 =>
 some z9
def nO.s1 (p0:(List ae)) (p1:(List ag)) (p2:Int) (p3:Int) (p4:Int) (s1:Int):Option (Sum Int (Sum Unit Bool)) :=
 if s1 < (p1.length:Int) then
  (at_ p1 s1).bind fun x3 =>
  if x3.Kind=1 then
   (at_ p1 s1).bind fun x5 =>
   if x5.Var=p3 then
    (at_ p1 s1).bind fun x7 =>
    (tH p0 x7 p2).bind fun x8 =>
    if x8=p4 then
     some (.inr (.inr true))
    else
     some (.inl (w (s1+1)))
   else
    some (.inl (w (s1+1)))
  else
   some (.inl (w (s1+1)))
 else
  some (.inr (.inl ()))
def nO (p0:(List ae)) (p1:(List ag)) (p2:Int) (p3:Int) (p4:Int):Option Bool :=
 (gV (nO.s1 p0 p1 p2 p3 p4) 0).bind fun z10=>match z10 with
 | .inl v11 =>
  some false
 | .inr r12=>some r12
def gG.s2 (p0:(List ae)) (p1:az) (x1:aB×Int) (x2:(List (List ag))) (s3:Int×List aA) (s5:Int×List aA):Option (Sum (Int×List aA) (List aA)) :=
 if s5.1 < (x2.length:Int) then
  if ¬ s3.1=s5.1 then
   (at_ x2 s3.1).bind fun x8 =>
   if (x8.length:Int) > 0 then
    (at_ x2 s5.1).bind fun x10 =>
    if (x10.length:Int) > 0 then
     (at_ x2 s5.1).bind fun x12 =>
     (at_ x1.1.Offsets s3.1).bind fun x13 =>
     (nO p0 x12 s5.1 p1.Var x13).bind fun x14 =>
     if x14=true then
      (app s5.2 ([(aA.mk s3.1 s5.1)]:List aA)).bind fun x16 =>
      some (.inl ((w (s5.1+1)),x16))
     else
      some (.inl ((w (s5.1+1)),s5.2))
    else
     some (.inl ((w (s5.1+1)),s5.2))
   else
    some (.inl ((w (s5.1+1)),s5.2))
  else
   some (.inl ((w (s5.1+1)),s5.2))
 else
  some (.inr s5.2)
def gG.s1 (p0:(List ae)) (p1:az) (x1:aB×Int) (x2:(List (List ag))) (s3:Int×List aA):Option (Sum (Int×List aA) (List aA)) :=
 if s3.1 < (x2.length:Int) then
  (gV (gG.s2 p0 p1 x1 x2 s3) (0,s3.2)).bind fun z17 =>
  some (.inl ((w (s3.1+1)),z17))
 else
  some (.inr s3.2)
def gG (p0:(List ae)) (p1:az):Option (List aA) :=
 (kX p0 p1).bind fun x1 =>
 (lD p0 p1 (x1.1.Offsets.length:Int)).bind fun x2 =>
 (gV (gG.s1 p0 p1 x1 x2) (0,[])).bind fun z19 =>
 some z19
def iZ.s2 (p0:(List aA)) (p1:(List Int)) (s1:Int) (s3:Int):Option (Sum Int (Sum Unit Bool)) :=
 if s3 < (p1.length:Int) then
  (at_ p1 s3).bind fun x5 =>
  (at_ p0 s1).bind fun x6 =>
  if ¬ x5=x6.Reader then
   (at_ p1 s3).bind fun x8 =>
   (at_ p0 s1).bind fun x9 =>
   if x8=x9.Writer then
    some (.inr (.inr false))
   else
    some (.inl (w (s3+1)))
  else
   some (.inr (.inl ()))
 else
  some (.inr (.inl ()))
def iZ.s1 (p0:(List aA)) (p1:(List Int)) (s1:Int):Option (Sum Int (Sum Unit Bool)) :=
 if s1 < (p0.length:Int) then
  (gV (iZ.s2 p0 p1 s1) 0).bind fun z11=>match z11 with
  | .inl v12 =>
   some (.inl (w (s1+1)))
  | .inr r13=>some (.inr (.inr r13))
 else
  some (.inr (.inl ()))
def iZ (p0:(List aA)) (p1:(List Int)):Option Bool :=
 (gV (iZ.s1 p0 p1) 0).bind fun z14=>match z14 with
 | .inl v15 =>
  some true
 | .inr r16=>some r16
def iH.s1 (p0:(List ae)) (s1:Int×List ae):Option (Sum (Int×List ae) (List ae)) :=
 if s1.1 < (p0.length:Int) then
  (at_ p0 s1.1).bind fun x3 =>
  (vS x3).bind fun x4 =>
  (app s1.2 [(ae.mk x4.Bounds x4.Elements)]).bind fun x5 =>
  some (.inl ((w (s1.1+1)),x5))
 else
  some (.inr s1.2)
def iH (p0:(List ae)):Option (List ae) :=
 (gV (iH.s1 p0) (0,[])).bind fun z6 =>
 some z6
def kY.s1 (p0:(List ae)) (p1:az) (p2:(List Int)) (p3:Bool) (x1:aB×Int) (x2:(List (List ag))) (s4:Int×List ae):Option (Sum (Int×List ae) (List ae)) :=
 if s4.1 < (p2.length:Int) then
  (at_ p2 s4.1).bind fun x6 =>
  (at_ x2 x6).bind fun x7 =>
  if (x7.length:Int)=0 then
   some (.inl ((w (s4.1+1)),s4.2))
  else
   if p3=true then
    (at_ s4.2 p1.Var).bind fun x10 =>
    (at_ p2 s4.1).bind fun x11 =>
    (at_ x1.1.Offsets x11).bind fun x12 =>
    (at_ p2 s4.1).bind fun x13 =>
    (jQ p0 x7 x13).bind fun x14 =>
    (at_ x10.Elements x12).bind fun x15 =>
    some (.inl ((w (s4.1+1)),(s4.2.set p1.Var.toNat ({ x10 with Elements:=(x10.Elements.set x12.toNat x14) }:ae))))
   else
    (at_ s4.2 p1.Var).bind fun x16 =>
    (at_ p2 s4.1).bind fun x17 =>
    (at_ x1.1.Offsets x17).bind fun x18 =>
    (at_ p2 s4.1).bind fun x19 =>
    (jQ s4.2 x7 x19).bind fun x20 =>
    (at_ x16.Elements x18).bind fun x21 =>
    some (.inl ((w (s4.1+1)),(s4.2.set p1.Var.toNat ({ x16 with Elements:=(x16.Elements.set x18.toNat x20) }:ae))))
 else
  some (.inr s4.2)
def kY (p0:(List ae)) (p1:az) (p2:(List Int)) (p3:Bool):Option (List ae) :=
 (kX p0 p1).bind fun x1 =>
 (lD p0 p1 (x1.1.Offsets.length:Int)).bind fun x2 =>
 (iH p0).bind fun x3 =>
 (gV (kY.s1 p0 p1 p2 p3 x1 x2) (0,x3)).bind fun z22 =>
 some z22
def pq.s1 (p0:ae) (p1:ae) (s4:Int):Option (Sum Int (Sum Unit Bool)) :=
 if s4 < (p0.Bounds.length:Int) then
  (at_ p0.Bounds s4).bind fun x6 =>
  (at_ p1.Bounds s4).bind fun x7 =>
  if ¬ (((x6.Low==x7.Low)&&((x6.High==x7.High)&&true))=true) then
   some (.inr (.inr false))
  else
   some (.inl (w (s4+1)))
 else
  some (.inr (.inl ()))
def pq (p0:ae) (p1:ae):Option Bool :=
 if ¬ (p0.Bounds.length:Int)=(p1.Bounds.length:Int) then
  some false
 else
  (qH p0.Elements p1.Elements).bind fun x2 =>
  if ¬ (x2=true) then
   some false
  else
   (gV (pq.s1 p0 p1) 0).bind fun z9=>match z9 with
   | .inl v10 =>
    some true
   | .inr r11=>some r11
def jE.s1 (p0:(List ae)) (p1:(List ae)) (s2:Int):Option (Sum Int (Sum Unit Bool)) :=
 if s2 < (p0.length:Int) then
  (at_ p0 s2).bind fun x4 =>
  (at_ p1 s2).bind fun x5 =>
  (pq x4 x5).bind fun x6 =>
  if ¬ (x6=true) then
   some (.inr (.inr false))
  else
   some (.inl (w (s2+1)))
 else
  some (.inr (.inl ()))
def jE (p0:(List ae)) (p1:(List ae)):Option Bool :=
 if ¬ (p0.length:Int)=(p1.length:Int) then
  some false
 else
  (gV (jE.s1 p0 p1) 0).bind fun z8=>match z8 with
  | .inl v9 =>
   some true
  | .inr r10=>some r10
def iV.j1 (p0:(List ae)) (p1:az) (p2:(List Int)) (x12:Bool×Int) (x16:(List ae)×Int) (a18:Int):Option Bool :=
 if ¬ a18=0 then
  some ((((x12.2==a18)&&(x16.2==a18))&&(!x12.1))&&((x16.1.length:Int)==0))
 else
  if x12.2=0 then
   (gG p0 p1).bind fun x27 =>
   (iZ x27 p2).bind fun x28 =>
   if ((x12.1==x28)&&(x16.2==0))=true then
    (kY p0 p1 p2 false).bind fun x32 =>
    (jE x16.1 x32).bind fun x33 =>
    some x33
   else
    some false
  else
   some false
def iV (p0:(List ae)) (p1:az) (p2:(List Int)):Option Bool :=
 (yw).bind fun x1 =>
 if ¬ (x1=true) then
  some false
 else
  (qO p0).bind fun x3 =>
  if ¬ (x3=true) then
   some true
  else
   (vZ p1).bind fun x5 =>
   if ((!x5) || (decide ((p2.length:Int) > 60)))=true then
    some true
   else
    (jh p0).bind fun x9 =>
    (qp p1).bind fun x10 =>
    (lV p2).bind fun x11 =>
    (oW x9 x10 x11).bind fun x12 =>
    (jh p0).bind fun x13 =>
    (qp p1).bind fun x14 =>
    (lV p2).bind fun x15 =>
    (kC x13 x14 x15).bind fun x16 =>
    (kX p0 p1).bind fun x17 =>
    if x17.2=0 then
     (kZ p2 (x17.1.Offsets.length:Int)).bind fun x19 =>
     if ¬ (x19=true) then
      iV.j1 p0 p1 p2 x12 x16 3
     else
      iV.j1 p0 p1 p2 x12 x16 x17.2
    else
     iV.j1 p0 p1 p2 x12 x16 x17.2
end Go.Sh
