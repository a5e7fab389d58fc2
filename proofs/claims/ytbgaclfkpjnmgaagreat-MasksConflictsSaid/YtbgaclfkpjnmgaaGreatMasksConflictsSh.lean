/- Functions of the program in plain form: printed by a program of this session. Not trusted: the walks show that the program does what they say. -/
import Derived.Test.YtbgaclfkpjnmgaaGreatKit5
set_option linter.all false
namespace Go.Sh
open Go.Lx
set_option linter.unusedVariables false
structure ax where
 Low:Int
 High:Int
 deriving DecidableEq
structure ah where
 Bounds:(List ax)
 Elements:(List Int)
 deriving DecidableEq
structure az where
 Kind:Int
 Low:Int
 High:Int
 Step:Int
 List:(List Int)
 deriving DecidableEq
structure bG where
 Coefs:(List Int)
 Const:Int
 deriving DecidableEq
structure ag where
 Kind:Int
 Value:Int
 Var:Int
 A:Int
 B:Int
 Subscripts:(List az)
 Forms:(List bG)
 deriving DecidableEq
structure aC where
 Var:Int
 Subscripts:(List az)
 Value:(List ag)
 Mask:(List ag)
 Else:(List ag)
 deriving DecidableEq
structure ai where
 Writer:Int
 Reader:Int
 deriving DecidableEq
structure aA where
 Extents:(List Int)
 Offsets:(List Int)
 ManyOne:Bool
 deriving DecidableEq
structure dW where
 e:(List ag)
 sections:(List aA)
 shapes:(List (List Int))
 deriving DecidableEq
structure aX where
 store:(List ah)
 at_:Int
 cells:(List Int)
 value:(Option dW)
 mask:(Option dW)
 less:(Option dW)
 deriving DecidableEq
structure aQ where
 holds:Bool
 code:Int
 deriving DecidableEq
structure aK where
 holds:Bool
 code:Int
 deriving DecidableEq
structure CS where
 e0:Bool
 e1:Bool
 e2:Bool
 e3:Bool
 e4:Bool
 e5:Bool
 deriving DecidableEq
def qW (p0:Int) (p1:Int) (p2:Int):az :=
 (az.mk 1 p0 p1 p2 [])
def jb (p0:Int) (p1:Int) (p2:Int):(List ag) :=
 [(ag.mk 1 0 0 0 0 [(qW p0 p1 p2)] [])]
def AC (p0:(List ag)) (p1:(List ag)):Option aC :=
 (at_ p0 0).bind fun x1 =>
 some (aC.mk 0 x1.Subscripts p1 [] [])
def mQ:(List ah) :=
 [(ah.mk [(ax.mk 1 4)] [1,2,3,4])]
def bu (p0:Int) (p1:Int) (p2:Int):Bool :=
 ((decide (p0≥p1))&&(decide (p0≤p2)))
def bD (p0:Int):Bool :=
 (bu p0 (-2147483647) 2147483647)
def lU (p0:ax):Bool :=
 ((!(bD p0.Low)) || (!(bD p0.High)))
def bI.s1 (p0:(List ax)) (s1:Int):Option (Sum Int (Sum Unit Int)) :=
 if s1 < (p0.length:Int) then
  (at_ p0 s1).bind fun x3 =>
  if (lU x3)=true then
   some (.inr (.inr s1))
  else
   some (.inl (w (s1+1)))
 else
  some (.inr (.inl ()))
def bI (p0:(List ax)):Option Int :=
 (fZ (bI.s1 p0) 0).bind fun z5=>match z5 with
 | .inl v6 =>
  some (-1)
 | .inr r7=>some r7
def fA (p0:(List ax)):Option Bool :=
 (bI p0).bind fun x1 =>
 some (decide (x1≥0))
def bg (p0:ax):Int :=
 (mx 0 (w ((w (p0.High - p0.Low))+1)))
def nY (p0:ax):Bool :=
 (decide ((bg p0) > 512))
def bJ.s1 (p0:(List ax)) (s1:Int):Option (Sum Int (Sum Unit Int)) :=
 if s1 < (p0.length:Int) then
  (at_ p0 s1).bind fun x3 =>
  if (nY x3)=true then
   some (.inr (.inr s1))
  else
   some (.inl (w (s1+1)))
 else
  some (.inr (.inl ()))
def bJ (p0:(List ax)):Option Int :=
 (fZ (bJ.s1 p0) 0).bind fun z5=>match z5 with
 | .inl v6 =>
  some (-1)
 | .inr r7=>some r7
def fB (p0:(List ax)):Option Bool :=
 (bJ p0).bind fun x1 =>
 some (decide (x1≥0))
def jM.s1 (p0:(List ax)) (s1:Int×List Int):Option (Sum (Int×List Int) (List Int)) :=
 if s1.1 < (p0.length:Int) then
  (at_ p0 s1.1).bind fun x3 =>
  (app s1.2 ([(bg x3)]:List Int)).bind fun x4 =>
  some (.inl ((w (s1.1+1)),x4))
 else
  some (.inr s1.2)
def jM (p0:(List ax)):Option (List Int) :=
 (fZ (jM.s1 p0) (0,[])).bind fun z5 =>
 some z5
def slices_Index_int.s1 (p0:(List Int)) (p1:Int) (s1:Int):Option (Sum Int (Sum Unit Int)) :=
 if s1 < (p0.length:Int) then
  (at_ p0 s1).bind fun x3 =>
  if p1=x3 then
   some (.inr (.inr s1))
  else
   some (.inl (w (s1+1)))
 else
  some (.inr (.inl ()))
def slices_Index_int (p0:(List Int)) (p1:Int):Option Int :=
 (fZ (slices_Index_int.s1 p0 p1) 0).bind fun z5=>match z5 with
 | .inl v6 =>
  some (-1)
 | .inr r7=>some r7
def slices_Contains_int (p0:(List Int)) (p1:Int):Option Bool :=
 (slices_Index_int p0 p1).bind fun x1 =>
 some (decide (x1≥0))
def jO.s1 (p0:(List Int)) (s1:Int×Int):Option (Sum (Int×Int) Int) :=
 if s1.2 < (p0.length:Int) then
  (at_ p0 s1.2).bind fun x3 =>
  some (.inl ((mn (w (s1.1 * (mn x3 513))) 513),(w (s1.2+1))))
 else
  some (.inr s1.1)
def jO (p0:(List Int)):Option Int :=
 (fZ (jO.s1 p0) (1,0)).bind fun z4 =>
 (slices_Contains_int p0 0).bind fun x5 =>
 if x5=true then
  some 0
 else
  some z4
def uV (p0:(List ax)):Option Int :=
 (jM p0).bind fun x1 =>
 (jO x1).bind fun x2 =>
 some x2
def iF.s1 (p0:(List aK)) (s1:Int):Option (Sum Int (Sum Unit Int)) :=
 if s1 < (p0.length:Int) then
  (at_ p0 s1).bind fun x3 =>
  if ¬ (x3.holds=true) then
   some (.inr (.inr x3.code))
  else
   some (.inl (w (s1+1)))
 else
  some (.inr (.inl ()))
def iF (p0:(List aK)):Option Int :=
 (fZ (iF.s1 p0) 0).bind fun z5=>match z5 with
 | .inl v6 =>
  some 0
 | .inr r7=>some r7
def oH (p0:(List ax)):Option Int :=
 if (p0.length:Int) > 7 then
  some 32
 else
  (fA p0).bind fun x2 =>
  if x2=true then
   some 2
  else
   (fB p0).bind fun x4 =>
   if ¬ (x4=true) then
    (uV p0).bind fun x6 =>
    (iF [(aK.mk (decide (x6≤512)) 8)]).bind fun x7 =>
    some x7
   else
    (iF [(aK.mk false 8)]).bind fun x8 =>
    some x8
def eU (p0:Int):Bool :=
 (bu p0 (-2147483648) 2147483647)
def pz (p0:Int) (p1:Int):Option Int :=
 (iF [(aK.mk (eU p1) 2)]).bind fun x1 =>
 some x1
def cO.s1 (p0:(List Int)) (s1:Int):Option (Sum Int (Sum Unit (Int×Int))) :=
 if s1 < (p0.length:Int) then
  (at_ p0 s1).bind fun x3 =>
  (pz s1 x3).bind fun x4 =>
  if ¬ x4=0 then
   some (.inr (.inr (s1,x4)))
  else
   some (.inl (w (s1+1)))
 else
  some (.inr (.inl ()))
def cO (p0:(List Int)):Option (Int×Int) :=
 (fZ (cO.s1 p0) 0).bind fun z6=>match z6 with
 | .inl v7 =>
  some (0,0)
 | .inr r8=>some r8
def pW (p0:ah):Option (Int×Int) :=
 (oH p0.Bounds).bind fun x1 =>
 if ¬ x1=0 then
  some (0,x1)
 else
  (uV p0.Bounds).bind fun x3 =>
  if ¬ (p0.Elements.length:Int)=x3 then
   some (0,10)
  else
   (cO p0.Elements).bind fun x5 =>
   some (x5.1,x5.2)
def rG (p0:Int) (p1:ah):Option Int :=
 (pW p1).bind fun x1 =>
 some x1.2
def bP.s1 (p0:(List ah)) (s1:Int):Option (Sum Int (Sum Unit (Int×Int))) :=
 if s1 < (p0.length:Int) then
  (at_ p0 s1).bind fun x3 =>
  (rG s1 x3).bind fun x4 =>
  if ¬ x4=0 then
   some (.inr (.inr (s1,x4)))
  else
   some (.inl (w (s1+1)))
 else
  some (.inr (.inl ()))
def bP (p0:(List ah)):Option (Int×Int) :=
 (fZ (bP.s1 p0) 0).bind fun z6=>match z6 with
 | .inl v7 =>
  some (0,0)
 | .inr r8=>some r8
def sD (p0:(List ah)):Option Int :=
 if (p0.length:Int) > 6 then
  some 8
 else
  (bP p0).bind fun x2 =>
  some x2.2
def bZ (p0:Int) (p1:Int) (p2:Int):Bool :=
 ((decide (p0≥p1))&&(decide (p0≤p2)))
def nZ (p0:az):Option Int :=
 if ¬ ((bu p0.Kind 0 2)=true) then
  some 15
 else
  if ¬ (p0.Kind=1) then
   if (bD p0.Low)=true then
    if (bD p0.High)=true then
     (iF [(aK.mk ((((p0.Kind != 2) || (p0.Low==0))&&((p0.Kind==1) || ((p0.High==0)&&(p0.Step==0))))&&((p0.Kind==2) || ((p0.List.length:Int)==0))) 3),(aK.mk true 11),(aK.mk (bD p0.Step) 2)]).bind fun x17 =>
     some x17
    else
     (iF [(aK.mk ((((p0.Kind != 2) || (p0.Low==0))&&((p0.Kind==1) || ((p0.High==0)&&(p0.Step==0))))&&((p0.Kind==2) || ((p0.List.length:Int)==0))) 3),(aK.mk true 11),(aK.mk false 2)]).bind fun x18 =>
     some x18
   else
    (iF [(aK.mk ((((p0.Kind != 2) || (p0.Low==0))&&((p0.Kind==1) || ((p0.High==0)&&(p0.Step==0))))&&((p0.Kind==2) || ((p0.List.length:Int)==0))) 3),(aK.mk true 11),(aK.mk false 2)]).bind fun x19 =>
    some x19
  else
   if (bD p0.Low)=true then
    if (bD p0.High)=true then
     (iF [(aK.mk ((((p0.Kind != 2) || (p0.Low==0))&&((p0.Kind==1) || ((p0.High==0)&&(p0.Step==0))))&&((p0.Kind==2) || ((p0.List.length:Int)==0))) 3),(aK.mk (p0.Step != 0) 11),(aK.mk (bD p0.Step) 2)]).bind fun x22 =>
     some x22
    else
     (iF [(aK.mk ((((p0.Kind != 2) || (p0.Low==0))&&((p0.Kind==1) || ((p0.High==0)&&(p0.Step==0))))&&((p0.Kind==2) || ((p0.List.length:Int)==0))) 3),(aK.mk (p0.Step != 0) 11),(aK.mk false 2)]).bind fun x23 =>
     some x23
   else
    (iF [(aK.mk ((((p0.Kind != 2) || (p0.Low==0))&&((p0.Kind==1) || ((p0.High==0)&&(p0.Step==0))))&&((p0.Kind==2) || ((p0.List.length:Int)==0))) 3),(aK.mk (p0.Step != 0) 11),(aK.mk false 2)]).bind fun x24 =>
    some x24
def vG (p0:az):Option Int :=
 if p0.Step > 0 then
  (quo .i64 (w ((w (p0.High - p0.Low))+p0.Step)) p0.Step).bind fun x2 =>
  some (mx 0 x2)
 else
  (quo .i64 (w ((w (p0.Low - p0.High)) - p0.Step)) (w (0 - p0.Step))).bind fun x3 =>
  some (mx 0 x3)
def slices_Clone_int (p0:(List Int)):Option (List Int) :=
 (app ([]:List Int) p0).bind fun x1 =>
 some x1
def pX (p0:Int) (p1:ax):Bool :=
 (!(bu p0 p1.Low p1.High))
def dw.s1 (p0:(List Int)) (p1_0:ax) (s1:Int):Option (Sum Int (Sum Unit Int)) :=
 if s1 < (p0.length:Int) then
  (at_ p0 s1).bind fun x3 =>
  if (pX x3 p1_0)=true then
   some (.inr (.inr s1))
  else
   some (.inl (w (s1+1)))
 else
  some (.inr (.inl ()))
def dw (p0:(List Int)) (p1_0:ax):Option Int :=
 (fZ (dw.s1 p0 p1_0) 0).bind fun z5=>match z5 with
 | .inl v6 =>
  some (-1)
 | .inr r7=>some r7
def iI (p0:(List Int)) (p1_0:ax):Option Bool :=
 (dw p0 p1_0).bind fun x1 =>
 some (decide (x1≥0))
def gZ.j1 (p0:ax) (a3:(List Int)):Option ((List Int)×Int) :=
 (iI a3 p0).bind fun x4 =>
 if x4=true then
  some (([]:List Int),33)
 else
  some (a3,0)
def gZ.s2 (p1:az) (x5:Int) (s7:Int×List Int):Option (Sum (Int×List Int) (List Int)) :=
 if s7.1 < x5 then
  (app s7.2 ([(w (p1.Low+(w (s7.1 * p1.Step))))]:List Int)).bind fun x9 =>
  some (.inl ((w (s7.1+1)),x9))
 else
  some (.inr s7.2)
def gZ (p0:ax) (p1:az):Option ((List Int)×Int) :=
 (nZ p1).bind fun x1 =>
 if ¬ x1=0 then
  some (([]:List Int),x1)
 else
  if p1.Kind=0 then
   gZ.j1 p0 [p1.Low]
  else
   if p1.Kind=1 then
    (vG p1).bind fun x5 =>
    if x5 > 512 then
     some (([]:List Int),8)
    else
     (fZ (gZ.s2 p1 x5) (0,[])).bind fun z10 =>
     gZ.j1 p0 z10
   else
    if (p1.List.length:Int) > 512 then
     some (([]:List Int),8)
    else
     (slices_Clone_int p1.List).bind fun x13 =>
     gZ.j1 p0 x13
def kF.s1 (p0:(List Int)) (s1:Int×Int×List Int):Option (Sum (Int×Int×List Int) (List Int)) :=
 if s1.2.1 < (p0.length:Int) then
  (at_ p0 s1.2.1).bind fun x3 =>
  (app s1.2.2 ([s1.1]:List Int)).bind fun x4 =>
  some (.inl ((w (s1.1 * x3)),(w (s1.2.1+1)),x4))
 else
  some (.inr s1.2.2)
def kF (p0:(List Int)):Option (List Int) :=
 (fZ (kF.s1 p0) (1,0,[])).bind fun z5 =>
 some z5
def lm.s1 (p0:(List Int)) (s1:Int×Int×List Int):Option (Sum (Int×Int×List Int) (List Int)) :=
 if s1.2.1 < (p0.length:Int) then
  (at_ p0 s1.2.1).bind fun x3 =>
  (rem s1.1 x3).bind fun x4 =>
  (app s1.2.2 ([x4]:List Int)).bind fun x5 =>
  (quo .i64 s1.1 x3).bind fun x6 =>
  some (.inl (x6,(w (s1.2.1+1)),x5))
 else
  some (.inr s1.2.2)
def lm (p0:(List Int)) (p1:Int):Option (List Int) :=
 (fZ (lm.s1 p0) (p1,0,[])).bind fun z7 =>
 some z7
def eX.s1 (p0:(List ax)) (p1:(List az)) (s2:Int×List Int×List (List Int)×List Int):Option (Sum (Int×List Int×List (List Int)×List Int) (Sum (List Int×List (List Int)×List Int) (aA×Int))) :=
 if s2.1 < (p1.length:Int) then
  (at_ p1 s2.1).bind fun x4 =>
  (at_ p0 s2.1).bind fun x5 =>
  (gZ x5 x4).bind fun x6 =>
  if ¬ x6.2=0 then
   some (.inr (.inr ((aA.mk [] [] false),x6.2)))
  else
   (app s2.2.2.1 ([x6.1]:List (List Int))).bind fun x8 =>
   (app s2.2.2.2 ([(x6.1.length:Int)]:List Int)).bind fun x9 =>
   if ¬ x4.Kind=0 then
    (app s2.2.1 ([(x6.1.length:Int)]:List Int)).bind fun x11 =>
    some (.inl ((w (s2.1+1)),x11,x8,x9))
   else
    some (.inl ((w (s2.1+1)),s2.2.1,x8,x9))
 else
  some (.inr (.inl (s2.2.1,s2.2.2.1,s2.2.2.2)))
def eX.s3 (p0:(List ax)) (v13:List Int×List (List Int)×List Int) (x17:(List Int)) (x20:(List Int)) (s21:Int×Int):Option (Sum (Int×Int) Int) :=
 if s21.2 < (x20.length:Int) then
  (at_ x20 s21.2).bind fun x23 =>
  (at_ x17 s21.2).bind fun x24 =>
  (at_ v13.2.1 s21.2).bind fun x25 =>
  (at_ x25 x23).bind fun x26 =>
  (at_ p0 s21.2).bind fun x27 =>
  some (.inl ((w (s21.1+(w (x24 * (w (x26 - x27.Low)))))),(w (s21.2+1))))
 else
  some (.inr s21.1)
def eX.s2 (p0:(List ax)) (v13:List Int×List (List Int)×List Int) (x14:Int) (x17:(List Int)) (s18:Int×Bool×List Int×List (Int×Bool)):Option (Sum (Int×Bool×List Int×List (Int×Bool)) (Bool×List Int)) :=
 if s18.1 < x14 then
  (lm v13.2.2 s18.1).bind fun x20 =>
  (fZ (eX.s3 p0 v13 x17 x20) (0,0)).bind fun z28 =>
  (app s18.2.2.1 ([z28]:List Int)).bind fun x31 =>
  some (.inl ((w (s18.1+1)),(s18.2.1 || ((OM s18.2.2.2 z28).getD false)),x31,(Xp s18.2.2.2 z28 true)))
 else
  some (.inr (s18.2.1,s18.2.2.1))
def eX (p0:(List ax)) (p1:(List az)):Option (aA×Int) :=
 if ¬ (p1.length:Int)=(p0.length:Int) then
  some ((aA.mk [] [] false),32)
 else
  (fZ (eX.s1 p0 p1) (0,[],[],[])).bind fun z12=>match z12 with
  | .inl v13 =>
   (jO v13.2.2).bind fun x14 =>
   if x14 > 512 then
    some ((aA.mk [] [] false),8)
   else
    (jM p0).bind fun x16 =>
    (kF x16).bind fun x17 =>
    (fZ (eX.s2 p0 v13 x14 x17) (0,false,[],[])).bind fun z33 =>
    some ((aA.mk v13.1 z33.2 z33.1),0)
  | .inr r35=>some r35
def qC (p0:(List ax)) (p1:(List az)):Option (aA×Int) :=
 (oH p0).bind fun x1 =>
 if ¬ x1=0 then
  some ((aA.mk [] [] false),x1)
 else
  (eX p0 p1).bind fun x3 =>
  some (x3.1,x3.2)
def gQ.s1 (p0:(List aQ)) (s1:Int):Option (Sum Int (Sum Unit Int)) :=
 if s1 < (p0.length:Int) then
  (at_ p0 s1).bind fun x3 =>
  if ¬ (x3.holds=true) then
   some (.inr (.inr x3.code))
  else
   some (.inl (w (s1+1)))
 else
  some (.inr (.inl ()))
def gQ (p0:(List aQ)):Option Int :=
 (fZ (gQ.s1 p0) 0).bind fun z5=>match z5 with
 | .inl v6 =>
  some 0
 | .inr r7=>some r7
def iP.s1 (p0:(List Int)) (s1:Int):Option (Sum Int (Sum Unit Int)) :=
 if s1 < (p0.length:Int) then
  (at_ p0 s1).bind fun x3 =>
  if ¬ x3=0 then
   some (.inr (.inr x3))
  else
   some (.inl (w (s1+1)))
 else
  some (.inr (.inl ()))
def iP (p0:(List Int)):Option Int :=
 (fZ (iP.s1 p0) 0).bind fun z5=>match z5 with
 | .inl v6 =>
  some 0
 | .inr r7=>some r7
def pR (p0:(List ah)) (p1:Int) (p2:(List az)):Option (aA×Int) :=
 if ¬ ((bZ p1 0 (w ((p0.length:Int) - 1)))=true) then
  some ((aA.mk [] [] false),6)
 else
  (at_ p0 p1).bind fun x2 =>
  (qC x2.Bounds p2).bind fun x3 =>
  (gQ [(aQ.mk (decide ((x3.1.Offsets.length:Int)≤60)) 8)]).bind fun x4 =>
  (iP [x3.2,x4]).bind fun x5 =>
  some (x3.1,x5)
def rq (p0:ag):Bool :=
 ((p0.Kind==8) || (p0.Kind==9))
def aW.s1 (p0:(List ag)) (s1:Int):Option (Sum Int (Sum Unit Int)) :=
 if s1 < (p0.length:Int) then
  (at_ p0 s1).bind fun x3 =>
  if (rq x3)=true then
   some (.inr (.inr s1))
  else
   some (.inl (w (s1+1)))
 else
  some (.inr (.inl ()))
def aW (p0:(List ag)):Option Int :=
 (fZ (aW.s1 p0) 0).bind fun z5=>match z5 with
 | .inl v6 =>
  some (-1)
 | .inr r7=>some r7
def dM (p0:(List ag)):Option Bool :=
 (aW p0).bind fun x1 =>
 some (decide (x1≥0))
def bY (p0:Int):Bool :=
 ((decide (p0≥2))&&(decide (p0≤6)))
def fH (p0:ag):(List Int) :=
 if (bY p0.Kind)=true then
  [p0.A,p0.B]
 else
  if p0.Kind=7 then
   [p0.A]
  else
   ([]:List Int)
def jG.j1 (p0:ag) (a1:Bool):Option Bool :=
 some (((((((p0.Kind==0) || (p0.Value==0))&&(a1 || (p0.Var==0)))&&((bY p0.Kind) || (p0.B==0)))&&(((bY p0.Kind) || (p0.Kind==7)) || (p0.A==0)))&&((p0.Kind==1) || ((p0.Subscripts.length:Int)==0)))&&((p0.Kind==9) || ((p0.Forms.length:Int)==0)))
def jG (p0:ag):Option Bool :=
 if p0.Kind=1 then
  jG.j1 p0 true
 else
  if p0.Kind=8 then
   jG.j1 p0 true
  else
   jG.j1 p0 (p0.Kind==9)
def jc.s1 (p0:Int) (p1:ag) (s2:Int×List Int):Option (Sum (Int×List Int) (Sum (List Int) (Int×List Int))) :=
 if s2.1 < ((fH p1).length:Int) then
  (at_ (fH p1) s2.1).bind fun x4 =>
  if ¬ ((bZ x4 0 (w (p0 - 1)))=true) then
   some (.inr (.inr (3,s2.2)))
  else
   (at_ s2.2 x4).bind fun x6 =>
   (at_ s2.2 x4).bind fun x7 =>
   some (.inl ((w (s2.1+1)),(s2.2.set x4.toNat (w (x6+1)))))
 else
  some (.inr (.inl s2.2))
def jc (p0:Int) (p1:ag) (b1:(List Int)):Option (Int×List Int) :=
 if ¬ ((bZ p1.Kind 0 9)=true) then
  some (15,b1)
 else
  (fZ (jc.s1 p0 p1) (0,b1)).bind fun z8=>match z8 with
  | .inl v9 =>
   (jG p1).bind fun x10 =>
   (gQ [(aQ.mk x10 3)]).bind fun x11 =>
   some (x11,v9)
  | .inr r12=>some r12
def bC.s1 (p0:(List ag)) (s1:Int×List Int):Option (Sum (Int×List Int) (Sum (List Int) (Int×Int×List Int))) :=
 if s1.1 < (p0.length:Int) then
  (at_ p0 s1.1).bind fun x3 =>
  (jc s1.1 x3 s1.2).bind fun x4 =>
  if ¬ x4.1=0 then
   some (.inr (.inr (s1.1,x4.1,x4.2)))
  else
   some (.inl ((w (s1.1+1)),x4.2))
 else
  some (.inr (.inl s1.2))
def bC (p0:(List ag)) (b1:(List Int)):Option (Int×Int×List Int) :=
 (fZ (bC.s1 p0) (0,b1)).bind fun z6=>match z6 with
 | .inl v7 =>
  some (0,0,v7)
 | .inr r8=>some r8
def sO (p0:Int) (p1:Int) (p2:Int):Option Int :=
 (gQ [(aQ.mk (((p0==p2)&&(p1==0)) || ((p0 != p2)&&(p1==1))) 3)]).bind fun x7 =>
 some x7
def dm.s1 (p0:(List Int)) (p1_0:Int) (s1:Int):Option (Sum Int (Sum Unit (Int×Int))) :=
 if s1 < (p0.length:Int) then
  (at_ p0 s1).bind fun x3 =>
  (sO s1 x3 p1_0).bind fun x4 =>
  if ¬ x4=0 then
   some (.inr (.inr (s1,x4)))
  else
   some (.inl (w (s1+1)))
 else
  some (.inr (.inl ()))
def dm (p0:(List Int)) (p1_0:Int):Option (Int×Int) :=
 (fZ (dm.s1 p0 p1_0) 0).bind fun z6=>match z6 with
 | .inl v7 =>
  some (0,0)
 | .inr r8=>some r8
def uu (p0:(List ag)):Option Int :=
 (gQ [(aQ.mk (decide ((p0.length:Int) > 0)) 17),(aQ.mk (decide ((p0.length:Int)≤40)) 8)]).bind fun x1 =>
 if ¬ x1=0 then
  some x1
 else
  (Js (p0.length:Int) 0).bind fun x3 =>
  (bC p0 x3).bind fun x4 =>
  if ¬ x4.2.1=0 then
   some x4.2.1
  else
   (dm x4.2.2 (w ((p0.length:Int) - 1))).bind fun x6 =>
   some x6.2
def slices_Equal_int.s1 (p0:(List Int)) (p1:(List Int)) (s2:Int):Option (Sum Int (Sum Unit Bool)) :=
 if s2 < (p0.length:Int) then
  (at_ p0 s2).bind fun x4 =>
  (at_ p1 s2).bind fun x5 =>
  if ¬ x4=x5 then
   some (.inr (.inr false))
  else
   some (.inl (w (s2+1)))
 else
  some (.inr (.inl ()))
def slices_Equal_int (p0:(List Int)) (p1:(List Int)):Option Bool :=
 if ¬ (p0.length:Int)=(p1.length:Int) then
  some false
 else
  (fZ (slices_Equal_int.s1 p0 p1) 0).bind fun z7=>match z7 with
  | .inl v8 =>
   some true
  | .inr r9=>some r9
def xu (p0:(List Int)) (p1:(List Int)):Option ((List Int)×Bool) :=
 if (p0.length:Int)=0 then
  some (p1,true)
 else
  if (p1.length:Int)=0 then
   some (p0,true)
  else
   (slices_Equal_int p0 p1).bind fun x3 =>
   some (p0,x3)
def pO (p0:Int) (p1:ag) (p2:(List ah)) (pb1_0:(List ag)) (b2:(List aA)) (b3:(List (List Int))):Option (Int×List aA×List (List Int)) :=
 if p1.Kind=0 then
  (gQ [(aQ.mk (bZ p1.Value (-2147483648) 2147483647) 2)]).bind fun x2 =>
  some (x2,b2,b3)
 else
  if p1.Kind=1 then
   (pR p2 p1.Var p1.Subscripts).bind fun x4 =>
   (at_ b2 p0).bind fun x5 =>
   (at_ b3 p0).bind fun x6 =>
   some (x4.2,(b2.set p0.toNat x4.1),(b3.set p0.toNat x4.1.Extents))
  else
   if p1.Kind=7 then
    (at_ b3 p1.A).bind fun x8 =>
    (at_ b3 p0).bind fun x9 =>
    some (0,b2,(b3.set p0.toNat x8))
   else
    (at_ b3 p1.A).bind fun x10 =>
    (at_ b3 p1.B).bind fun x11 =>
    (xu x10 x11).bind fun x12 =>
    (at_ b3 p0).bind fun x13 =>
    (gQ [(aQ.mk x12.2 10)]).bind fun x14 =>
    some (x14,b2,(b3.set p0.toNat x12.1))
def bF.s1 (p0:(List ag)) (p1_0:(List ah)) (pb1_0:(List ag)) (s1:Int×List aA×List (List Int)):Option (Sum (Int×List aA×List (List Int)) (Sum (List aA×List (List Int)) (Int×Int×List aA×List (List Int)))) :=
 if s1.1 < (p0.length:Int) then
  (at_ p0 s1.1).bind fun x3 =>
  (pO s1.1 x3 p1_0 pb1_0 s1.2.1 s1.2.2).bind fun x4 =>
  if ¬ x4.1=0 then
   some (.inr (.inr (s1.1,x4.1,x4.2.1,x4.2.2)))
  else
   some (.inl ((w (s1.1+1)),x4.2.1,x4.2.2))
 else
  some (.inr (.inl (s1.2.1,s1.2.2)))
def bF (p0:(List ag)) (p1_0:(List ah)) (pb1_0:(List ag)) (b2:(List aA)) (b3:(List (List Int))):Option (Int×Int×List aA×List (List Int)) :=
 (fZ (bF.s1 p0 p1_0 pb1_0) (0,b2,b3)).bind fun z6=>match z6 with
 | .inl v7 =>
  some (0,0,v7.1,v7.2)
 | .inr r8=>some r8
def vC (p0:(List ah)) (p1:(List ag)):Option ((Option dW)×Int) :=
 (dM p1).bind fun x1 =>
 (uu p1).bind fun x2 =>
 (gQ [(aQ.mk (!x1) 15)]).bind fun x3 =>
 (iP [x2,x3]).bind fun x4 =>
 if ¬ x4=0 then
  some (none,x4)
 else
  (Js (p1.length:Int) (aA.mk [] [] false)).bind fun x6 =>
  (Js (p1.length:Int) []).bind fun x7 =>
  (bF p1 p0 p1 x6 x7).bind fun x8 =>
  some ((some (dW.mk p1 x8.2.2.1 x8.2.2.2)),x8.2.1)
def qy (p0:(Option dW)):Option (List Int) :=
 (p0).bind fun x1 =>
 (at_ x1.shapes (w ((x1.shapes.length:Int) - 1))).bind fun x2 =>
 some x2
def ql (p0:(List ah)) (p1:(List ag)) (p2:(List Int)):Option ((Option dW)×Int) :=
 (vC p0 p1).bind fun x1 =>
 if ¬ x1.2=0 then
  some (none,x1.2)
 else
  (qy x1.1).bind fun x3 =>
  if (x3.length:Int)=0 then
   (gQ [(aQ.mk true 10)]).bind fun x5 =>
   some (x1.1,x5)
  else
   (slices_Equal_int x3 p2).bind fun x6 =>
   (gQ [(aQ.mk x6 10)]).bind fun x7 =>
   some (x1.1,x7)
def lD.j1 (p0:(List ah)) (p1:aC) (x3:aA×Int) (x7:(Option dW)×Int) (a9:(Option dW)):Option ((Option aX)×Int) :=
 if (p1.Else.length:Int) > 0 then
  if (a9).isNone=true then
   some (none,3)
  else
   (ql p0 p1.Else x3.1.Extents).bind fun x12 =>
   if ¬ x12.2=0 then
    some (none,x12.2)
   else
    some ((some (aX.mk p0 p1.Var x3.1.Offsets x7.1 a9 x12.1)),0)
 else
  some ((some (aX.mk p0 p1.Var x3.1.Offsets x7.1 a9 none)),0)
def lD (p0:(List ah)) (p1:aC):Option ((Option aX)×Int) :=
 (sD p0).bind fun x1 =>
 if ¬ x1=0 then
  some (none,x1)
 else
  (pR p0 p1.Var p1.Subscripts).bind fun x3 =>
  (gQ [(aQ.mk (!x3.1.ManyOne) 23)]).bind fun x4 =>
  (iP [x3.2,x4]).bind fun x5 =>
  if ¬ x5=0 then
   some (none,x5)
  else
   (ql p0 p1.Value x3.1.Extents).bind fun x7 =>
   if ¬ x7.2=0 then
    some (none,x7.2)
   else
    if (p1.Mask.length:Int) > 0 then
     (ql p0 p1.Mask x3.1.Extents).bind fun x10 =>
     if ¬ x10.2=0 then
      some (none,x10.2)
     else
      lD.j1 p0 p1 x3 x7 x10.1
    else
     lD.j1 p0 p1 x3 x7 none
def qI (p0:(List ax)):Option (List ax) :=
 (app ([]:List ax) p0).bind fun x1 =>
 some x1
def qY.s1 (p0:(List ah)) (s1:Int×List ah):Option (Sum (Int×List ah) (List ah)) :=
 if s1.1 < (p0.length:Int) then
  (at_ p0 s1.1).bind fun x3 =>
  (qI x3.Bounds).bind fun x4 =>
  (slices_Clone_int x3.Elements).bind fun x5 =>
  (app s1.2 [(ah.mk x4 x5)]).bind fun x6 =>
  some (.inl ((w (s1.1+1)),x6))
 else
  some (.inr s1.2)
def qY (p0:(List ah)):Option (List ah) :=
 (fZ (qY.s1 p0) (0,[])).bind fun z7 =>
 some z7
def rf (p0:aA) (p1:Int):Option Int :=
 if (p0.Extents.length:Int)=0 then
  (at_ p0.Offsets 0).bind fun x2 =>
  some x2
 else
  (at_ p0.Offsets p1).bind fun x3 =>
  some x3
def nT (p0:Bool):Int :=
 if p0=true then
  1
 else
  0
def lZ (p0:Int) (p1:Int) (p2:Int):Int :=
 if p0=2 then
  (IntKind.i32.wrap (p1+p2))
 else
  if p0=3 then
   (IntKind.i32.wrap (p1 - p2))
  else
   if p0=4 then
    (IntKind.i32.wrap (p1 * p2))
   else
    if p0=5 then
     (nT (decide (p1 < p2)))
    else
     if p0=6 then
      (nT (p1==p2))
     else
      (nT (p1==0))
def iQ.s1 (p1:(List ah)) (p2:Int) (x1:dW) (s3:Int×List Int):Option (Sum (Int×List Int) (List Int)) :=
 if s3.1 < (x1.e.length:Int) then
  (at_ x1.e s3.1).bind fun x5 =>
  if x5.Kind=0 then
   (at_ s3.2 s3.1).bind fun x7 =>
   some (.inl ((w (s3.1+1)),(s3.2.set s3.1.toNat (IntKind.i32.wrap x5.Value))))
  else
   if x5.Kind=1 then
    (at_ p1 x5.Var).bind fun x9 =>
    (at_ x1.sections s3.1).bind fun x10 =>
    (rf x10 p2).bind fun x11 =>
    (at_ x9.Elements x11).bind fun x12 =>
    (at_ s3.2 s3.1).bind fun x13 =>
    some (.inl ((w (s3.1+1)),(s3.2.set s3.1.toNat (IntKind.i32.wrap x12))))
   else
    (at_ s3.2 x5.A).bind fun x14 =>
    (at_ s3.2 x5.B).bind fun x15 =>
    (at_ s3.2 s3.1).bind fun x16 =>
    some (.inl ((w (s3.1+1)),(s3.2.set s3.1.toNat (lZ x5.Kind x14 x15))))
 else
  some (.inr s3.2)
def iQ (p0:(Option dW)) (p1:(List ah)) (p2:Int):Option Int :=
 (p0).bind fun x1 =>
 (Js (x1.e.length:Int) 0).bind fun x2 =>
 (fZ (iQ.s1 p1 p2 x1) (0,x2)).bind fun z17 =>
 (at_ z17 (w ((z17.length:Int) - 1))).bind fun x18 =>
 some (w x18)
def iR (p0:(Option aX)) (p1:Int):Option (Option dW) :=
 (p0).bind fun x1 =>
 if (x1.mask).isNone=true then
  some x1.value
 else
  (iQ x1.mask x1.store p1).bind fun x3 =>
  if ¬ x3=0 then
   some x1.value
  else
   some x1.less
def qG.s1 (p0:(List ah)) (x1:(Option aX)×Int) (x4:aX) (s5:Int×List ah):Option (Sum (Int×List ah) (List ah)) :=
 if s5.1 < (x4.cells.length:Int) then
  (at_ x4.cells s5.1).bind fun x7 =>
  (iR x1.1 s5.1).bind fun x8 =>
  if (x8).isSome=true then
   (at_ s5.2 x4.at_).bind fun x10 =>
   (iQ x8 p0 s5.1).bind fun x11 =>
   (at_ x10.Elements x7).bind fun x12 =>
   some (.inl ((w (s5.1+1)),(s5.2.set x4.at_.toNat ({ x10 with Elements:=(x10.Elements.set x7.toNat x11) }:ah))))
  else
   none
 else
  some (.inr s5.2)
def qG (p0:(List ah)) (p1:aC):Option ((List ah)×Int) :=
 (lD p0 p1).bind fun x1 =>
 if ¬ x1.2=0 then
  none
 else
  (qY p0).bind fun x3 =>
  (x1.1).bind fun x4 =>
  (fZ (qG.s1 p0 x1 x4) (0,x3)).bind fun z13 =>
  some (z13,0)
def mG (p0_0:List Int):Option (List Int):=Jk p0_0
def pM.s1 (x4:(List Int)) (s5:Bool×Int):Option (Sum (Bool×Int) Bool) :=
 if s5.2 < (x4.length:Int) then
  (at_ x4 s5.2).bind fun x7 =>
  some (.inl ((s5.1&&(x7==s5.2)),(w (s5.2+1))))
 else
  some (.inr s5.1)
def pM (p0:(List ah)) (p1:aC) (p2:(List Int)):Option ((Option aX)×Int) :=
 (lD p0 p1).bind fun x1 =>
 if ¬ x1.2=0 then
  none
 else
  (x1.1).bind fun x3 =>
  (mG p2).bind fun x4 =>
  (fZ (pM.s1 x4) (((p2.length:Int)==(x3.cells.length:Int)),0)).bind fun z10 =>
  (gQ [(aQ.mk z10 3)]).bind fun x11 =>
  some (x1.1,x11)
def rF.s1 (p2:(List Int)) (x1:(Option aX)×Int) (s4:Int×List ah):Option (Sum (Int×List ah) (List ah)) :=
 if s4.1 < (p2.length:Int) then
  (at_ p2 s4.1).bind fun x6 =>
  (iR x1.1 x6).bind fun x7 =>
  if (x7).isSome=true then
   (x1.1).bind fun x9 =>
   (at_ s4.2 x9.at_).bind fun x10 =>
   (at_ x9.cells x6).bind fun x11 =>
   (iQ x7 s4.2 x6).bind fun x12 =>
   (at_ x10.Elements x11).bind fun x13 =>
   some (.inl ((w (s4.1+1)),(s4.2.set x9.at_.toNat ({ x10 with Elements:=(x10.Elements.set x11.toNat x12) }:ah))))
  else
   none
 else
  some (.inr s4.2)
def rF (p0:(List ah)) (p1:aC) (p2:(List Int)):Option ((List ah)×Int) :=
 (pM p0 p1 p2).bind fun x1 =>
 if ¬ x1.2=0 then
  none
 else
  (qY p0).bind fun x3 =>
  (fZ (rF.s1 p2 x1) (0,x3)).bind fun z14 =>
  some (z14,0)
def gG.s1 (p0:(Option aX)) (p1:Int) (p2:Int) (x3:dW) (s4:Int):Option (Sum Int (Sum Unit Bool)) :=
 if s4 < (x3.e.length:Int) then
  (at_ x3.e s4).bind fun x6 =>
  if x6.Kind=1 then
   (p0).bind fun x8 =>
   if x6.Var=x8.at_ then
    (at_ x3.sections s4).bind fun x10 =>
    (rf x10 p1).bind fun x11 =>
    if x11=p2 then
     some (.inr (.inr true))
    else
     some (.inl (w (s4+1)))
   else
    some (.inl (w (s4+1)))
  else
   some (.inl (w (s4+1)))
 else
  some (.inr (.inl ()))
def gG (p0:(Option aX)) (p1:Int) (p2:Int):Option Bool :=
 (iR p0 p1).bind fun x1 =>
 if (x1).isNone=true then
  some false
 else
  (x1).bind fun x3 =>
  (fZ (gG.s1 p0 p1 p2 x3) 0).bind fun z13=>match z13 with
  | .inl v14 =>
   some false
  | .inr r15=>some r15
def bW.s2 (p0:(Option aX)) (x1:aX) (s2:Int×List ai) (x4:Int) (s7:Int×List ai):Option (Sum (Int×List ai) (List ai)) :=
 if s7.1 < (x1.cells.length:Int) then
  if ¬ s7.1=s2.1 then
   (gG p0 s7.1 x4).bind fun x10 =>
   if x10=true then
    (app s7.2 ([(ai.mk s2.1 s7.1)]:List ai)).bind fun x12 =>
    some (.inl ((w (s7.1+1)),x12))
   else
    some (.inl ((w (s7.1+1)),s7.2))
  else
   some (.inl ((w (s7.1+1)),s7.2))
 else
  some (.inr s7.2)
def bW.s1 (p0:(Option aX)) (x1:aX) (s2:Int×List ai):Option (Sum (Int×List ai) (List ai)) :=
 if s2.1 < (x1.cells.length:Int) then
  (at_ x1.cells s2.1).bind fun x4 =>
  (iR p0 s2.1).bind fun x5 =>
  if (x5).isNone=true then
   some (.inl ((w (s2.1+1)),s2.2))
  else
   (fZ (bW.s2 p0 x1 s2 x4) (0,s2.2)).bind fun z13 =>
   some (.inl ((w (s2.1+1)),z13))
 else
  some (.inr s2.2)
def bW (p0:(Option aX)):Option (List ai) :=
 (p0).bind fun x1 =>
 (fZ (bW.s1 p0 x1) (0,[])).bind fun z15 =>
 some z15
def nK (p0:(List ah)) (p1:aC):Option ((List ai)×Int) :=
 (lD p0 p1).bind fun x1 =>
 if ¬ x1.2=0 then
  some (([]:List ai),x1.2)
 else
  (bW x1.1).bind fun x3 =>
  some (x3,0)
def fQ.s1 (x3:(List ai)) (s4:Int×List (List Int)):Option (Sum (Int×List (List Int)) (List (List Int))) :=
 if s4.1 < (x3.length:Int) then
  (at_ x3 s4.1).bind fun x6 =>
  (at_ s4.2 x6.Reader).bind fun x7 =>
  (app x7 ([x6.Writer]:List Int)).bind fun x8 =>
  some (.inl ((w (s4.1+1)),(s4.2.set x6.Reader.toNat x8)))
 else
  some (.inr s4.2)
def fQ (p0:(Option aX)):Option (List (List Int)) :=
 (p0).bind fun x1 =>
 (Js (x1.cells.length:Int) ([]:List Int)).bind fun x2 =>
 (bW p0).bind fun x3 =>
 (fZ (fQ.s1 x3) (0,x2)).bind fun z9 =>
 some z9
def bQ.s2 (x7:(List Int)) (s8:Int×List Int):Option (Sum (Int×List Int) (List Int)) :=
 if s8.1 < (x7.length:Int) then
  (at_ x7 s8.1).bind fun x10 =>
  (at_ s8.2 x10).bind fun x11 =>
  (at_ s8.2 x10).bind fun x12 =>
  some (.inl ((w (s8.1+1)),(s8.2.set x10.toNat (w (x11+1)))))
 else
  some (.inr s8.2)
def bQ.s1 (x3:(List (List Int))) (s5:Int×List Int):Option (Sum (Int×List Int) (List Int)) :=
 if s5.1 < (x3.length:Int) then
  (at_ x3 s5.1).bind fun x7 =>
  (fZ (bQ.s2 x7) (0,s5.2)).bind fun z13 =>
  some (.inl ((w (s5.1+1)),z13))
 else
  some (.inr s5.2)
def bQ.s4 (x22:(List Int)) (s23:Int×List Int):Option (Sum (Int×List Int) (List Int)) :=
 if s23.1 < (x22.length:Int) then
  (at_ x22 s23.1).bind fun x25 =>
  (at_ s23.2 x25).bind fun x26 =>
  (at_ s23.2 x25).bind fun x27 =>
  some (.inl ((w (s23.1+1)),(s23.2.set x25.toNat (w (x26 - 1)))))
 else
  some (.inr s23.2)
def bQ.s3 (x3:(List (List Int))) (s16:Int×List Int×List Int):Option (Sum (Int×List Int×List Int) (Sum (List Int) ((List Int)×Int))) :=
 if s16.1 < (x3.length:Int) then
  (slices_Index_int s16.2.1 0).bind fun x18 =>
  if x18 < 0 then
   some (.inr (.inr (([]:List Int),25)))
  else
   (app s16.2.2 ([x18]:List Int)).bind fun x20 =>
   (at_ s16.2.1 x18).bind fun x21 =>
   (at_ x3 x18).bind fun x22 =>
   (fZ (bQ.s4 x22) (0,(s16.2.1.set x18.toNat (-1)))).bind fun z28 =>
   some (.inl ((w (s16.1+1)),z28,x20))
 else
  some (.inr (.inl s16.2.2))
def bQ (p0:(List ah)) (p1:aC):Option ((List Int)×Int) :=
 (lD p0 p1).bind fun x1 =>
 if ¬ x1.2=0 then
  some (([]:List Int),x1.2)
 else
  (fQ x1.1).bind fun x3 =>
  (Js (x3.length:Int) 0).bind fun x4 =>
  (fZ (bQ.s1 x3) (0,x4)).bind fun z15 =>
  (fZ (bQ.s3 x3) (0,z15,[])).bind fun z30=>match z30 with
  | .inl v31 =>
   some (v31,0)
  | .inr r32=>some r32
def fP.j3 (x4:(List Int)) (s7:Int×List Bool×List (List Int)) (x9:Int) (a12:Bool):Option (Sum (Int×List Bool×List (List Int)) (Sum (List Bool×List (List Int)) (List Int))) :=
 if a12=true then
  (at_ s7.2.1 x9).bind fun x14 =>
  (slices_Clone_int x4).bind fun x15 =>
  (app x15 ([x9]:List Int)).bind fun x16 =>
  (app s7.2.2 ([x16]:List (List Int))).bind fun x17 =>
  some (.inl ((w (s7.1+1)),(s7.2.1.set x9.toNat true),x17))
 else
  some (.inl ((w (s7.1+1)),s7.2.1,s7.2.2))
def fP.s2 (p1:Int) (x4:(List Int)) (x6:(List Int)) (s7:Int×List Bool×List (List Int)):Option (Sum (Int×List Bool×List (List Int)) (Sum (List Bool×List (List Int)) (List Int))) :=
 if s7.1 < (x6.length:Int) then
  (at_ x6 s7.1).bind fun x9 =>
  if x9=p1 then
   (neL x4).bind fun x11 =>
   some (.inr (.inr x11))
  else
   if x9 > p1 then
    (at_ s7.2.1 x9).bind fun x13 =>
    fP.j3 x4 s7 x9 (!x13)
   else
    fP.j3 x4 s7 x9 false
 else
  some (.inr (.inl (s7.2.1,s7.2.2)))
def fP.s1 (p0:(List (List Int))) (p1:Int) (s2:List Bool×List (List Int)):Option (Sum (List Bool×List (List Int)) (Sum Unit (List Int))) :=
 if (s2.2.length:Int) > 0 then
  (at_ s2.2 0).bind fun x4 =>
  (at_ x4 (w ((x4.length:Int) - 1))).bind fun x5 =>
  (at_ p0 x5).bind fun x6 =>
  (fZ (fP.s2 p1 x4 x6) (0,s2.1,s2.2)).bind fun z18=>match z18 with
  | .inl v19 =>
   (cut v19.2 1 (v19.2.length:Int)).bind fun x20 =>
   some (.inl (v19.1,x20))
  | .inr r21=>some (.inr (.inr r21))
 else
  some (.inr (.inl ()))
def fP (p0:(List (List Int))) (p1:Int):Option (List Int) :=
 (Js (p0.length:Int) false).bind fun x1 =>
 (fZ (fP.s1 p0 p1) (x1,[[p1]])).bind fun z22=>match z22 with
 | .inl v23 =>
  some []
 | .inr r24=>some r24
def jR.s1 (x3:(List (List Int))) (s4:(List Int)×Int):Option (Sum ((List Int)×Int) (List Int)) :=
 if s4.2 < (x3.length:Int) then
  (fP x3 s4.2).bind fun x6 =>
  if ((!(x6.isEmpty))&&((s4.1.isEmpty) || (decide ((x6.length:Int) < (s4.1.length:Int)))))=true then
   some (.inl (x6,(w (s4.2+1))))
  else
   some (.inl (s4.1,(w (s4.2+1))))
 else
  some (.inr s4.1)
def jR (p0:(List ah)) (p1:aC):Option ((List Int)×Int) :=
 (lD p0 p1).bind fun x1 =>
 if ¬ x1.2=0 then
  some ([],x1.2)
 else
  (fQ x1.1).bind fun x3 =>
  (fZ (jR.s1 x3) (([]:List Int),0)).bind fun z12 =>
  (gQ [(aQ.mk (!(z12.isEmpty)) 12)]).bind fun x13 =>
  some (z12,x13)
def fC.F (self83:(List Int)→(List Int)→Option Bool) (p0:(List Int)) (p1:(List Int)):Option Bool :=
 if (((p0.length:Int)==0) || ((p1.length:Int)==0))=true then
  some (decide ((p0.length:Int) < (p1.length:Int)))
 else
  (at_ p0 0).bind fun x4 =>
  (at_ p1 0).bind fun x5 =>
  if x4 < x5 then
   some true
  else
   (at_ p0 0).bind fun x7 =>
   (at_ p1 0).bind fun x8 =>
   if x7=x8 then
    (cut p0 1 (p0.length:Int)).bind fun x10 =>
    (cut p1 1 (p1.length:Int)).bind fun x11 =>
    (self83 x10 x11).bind fun x12 =>
    some x12
   else
    some false
def fC.N:Nat→(List Int)→(List Int)→Option Bool
 | 0=>fun _ _=>none
 | n+1=>fC.F (fC.N n)
def fC (p0:(List Int)) (p1:(List Int)):Option Bool:=lim fun n=>fC.N n p0 p1
def pG (p0:(List Int)) (p1:(List Int)):Option Bool :=
 if (p0.length:Int)=(p1.length:Int) then
  (fC p0 p1).bind fun x2 =>
  if ¬ (x2=true) then
   (fC p1 p0).bind fun x4 =>
   some (!x4)
  else
   some false
 else
  some false
def yK:Option Bool :=
 (AC (jb 2 4 1) (jb 1 3 1)).bind fun x1 =>
 (AC (jb 1 4 1) (jb 4 1 (-1))).bind fun x2 =>
 (qG mQ x1).bind fun x3 =>
 (rF mQ x1 [0,1,2]).bind fun x4 =>
 (nK mQ x1).bind fun x5 =>
 (bQ mQ x1).bind fun x6 =>
 (jR mQ x2).bind fun x7 =>
 if ((((x3.2 != 0) || (x4.2 != 0)) || ((x3.1.length:Int) != 1)) || ((x4.1.length:Int) != 1))=true then
  none
 else
  (at_ x3.1 0).bind fun x15 =>
  (pG x15.Elements [1,1,2,3]).bind fun x16 =>
  if x16=true then
   (at_ x4.1 0).bind fun x18 =>
   (pG x18.Elements [1,1,1,1]).bind fun x19 =>
   if ((x19&&(x5.2==0))&&((x5.1.length:Int)==2))=true then
    (at_ x5.1 1).bind fun x25 =>
    if (((x25.Writer==1)&&((x25.Reader==2)&&true))&&(x6.2==0))=true then
     (pG x6.1 [2,1,0]).bind fun x29 =>
     if (x29&&(x7.2==0))=true then
      (pG x7.1 [0,3]).bind fun x33 =>
      some x33
     else
      none
    else
     none
   else
    none
  else
   none
def qX.s1 (p0:(List ah)) (s2:Int):Option (Sum Int (Sum Unit Bool)) :=
 if s2 < (p0.length:Int) then
  (at_ p0 s2).bind fun x4 =>
  if (x4.Bounds.length:Int) > 9 then
   some (.inr (.inr false))
  else
   (at_ p0 s2).bind fun x6 =>
   if (x6.Elements.length:Int) > 40 then
    some (.inr (.inr false))
   else
    some (.inl (w (s2+1)))
 else
  some (.inr (.inl ()))
def qX (p0:(List ah)):Option Bool :=
 if (p0.length:Int) > 8 then
  some false
 else
  (fZ (qX.s1 p0) 0).bind fun z8=>match z8 with
  | .inl v9 =>
   some true
  | .inr r10=>some r10
def mV.s1 (p0:(List az)) (s2:Int):Option (Sum Int (Sum Unit Bool)) :=
 if s2 < (p0.length:Int) then
  (at_ p0 s2).bind fun x4 =>
  if (x4.List.length:Int) > 20 then
   some (.inr (.inr false))
  else
   some (.inl (w (s2+1)))
 else
  some (.inr (.inl ()))
def mV (p0:(List az)):Option Bool :=
 if (p0.length:Int) > 9 then
  some false
 else
  (fZ (mV.s1 p0) 0).bind fun z6=>match z6 with
  | .inl v7 =>
   some true
  | .inr r8=>some r8
def nS.s1 (p0:(List bG)) (s2:Int):Option (Sum Int (Sum Unit Bool)) :=
 if s2 < (p0.length:Int) then
  (at_ p0 s2).bind fun x4 =>
  if (x4.Coefs.length:Int) > 9 then
   some (.inr (.inr false))
  else
   some (.inl (w (s2+1)))
 else
  some (.inr (.inl ()))
def nS (p0:(List bG)):Option Bool :=
 if (p0.length:Int) > 9 then
  some false
 else
  (fZ (nS.s1 p0) 0).bind fun z6=>match z6 with
  | .inl v7 =>
   some true
  | .inr r8=>some r8
def lM.s1 (p0:(List ag)) (s6:Int):Option (Sum Int (Sum Unit Bool)) :=
 if s6 < (p0.length:Int) then
  (at_ p0 s6).bind fun x8 =>
  (mV x8.Subscripts).bind fun x9 =>
  if ¬ (x9=true) then
   some (.inr (.inr false))
  else
   (at_ p0 s6).bind fun x11 =>
   (nS x11.Forms).bind fun x12 =>
   if ¬ (x12=true) then
    some (.inr (.inr false))
   else
    some (.inl (w (s6+1)))
 else
  some (.inr (.inl ()))
def lM (p0:(List ag)):Option Bool :=
 if (((decide ((p0.length:Int) > 20))&&(decide ((p0.length:Int)≤40))) || (decide ((p0.length:Int) > 42)))=true then
  some false
 else
  (fZ (lM.s1 p0) 0).bind fun z14=>match z14 with
  | .inl v15 =>
   some true
  | .inr r16=>some r16
def wK (p0:aC):Option Bool :=
 (mV p0.Subscripts).bind fun x1 =>
 if x1=true then
  (lM p0.Value).bind fun x3 =>
  if x3=true then
   (lM p0.Mask).bind fun x5 =>
   if x5=true then
    (lM p0.Else).bind fun x7 =>
    some x7
   else
    some false
  else
   some false
 else
  some false
def qB (p0:(List ax)):Option (List ax) :=
 (app ([]:List ax) p0).bind fun x1 =>
 some x1
def oI (p0:(List Int)):Option (List Int) :=
 (Js (p0.length:Int) 0).bind fun x1 =>
 some (copied x1 p0)
def xZ (p0:ah):Option ah :=
 (qB p0.Bounds).bind fun x1 =>
 (oI p0.Elements).bind fun x2 =>
 some (ah.mk x1 x2)
def jg.s1 (p0:(List ah)) (s1:Int×List ah):Option (Sum (Int×List ah) (List ah)) :=
 if s1.1 < (p0.length:Int) then
  (at_ p0 s1.1).bind fun x3 =>
  (xZ x3).bind fun x4 =>
  (app s1.2 ([x4]:List ah)).bind fun x5 =>
  some (.inl ((w (s1.1+1)),x5))
 else
  some (.inr s1.2)
def jg (p0:(List ah)):Option (List ah) :=
 (fZ (jg.s1 p0) (0,[])).bind fun z6 =>
 some z6
def gX.s1 (p0:(List az)) (s1:Int×List az):Option (Sum (Int×List az) (List az)) :=
 if s1.1 < (p0.length:Int) then
  (at_ p0 s1.1).bind fun x3 =>
  (oI x3.List).bind fun x4 =>
  (app s1.2 ([(az.mk x3.Kind x3.Low x3.High x3.Step x4)]:List az)).bind fun x5 =>
  some (.inl ((w (s1.1+1)),x5))
 else
  some (.inr s1.2)
def gX (p0:(List az)):Option (List az) :=
 (fZ (gX.s1 p0) (0,[])).bind fun z6 =>
 some z6
def jJ.s1 (p0:(List bG)) (s1:Int×List bG):Option (Sum (Int×List bG) (List bG)) :=
 if s1.1 < (p0.length:Int) then
  (at_ p0 s1.1).bind fun x3 =>
  (oI x3.Coefs).bind fun x4 =>
  (at_ p0 s1.1).bind fun x5 =>
  (app s1.2 ([(bG.mk x4 x5.Const)]:List bG)).bind fun x6 =>
  some (.inl ((w (s1.1+1)),x6))
 else
  some (.inr s1.2)
def jJ (p0:(List bG)):Option (List bG) :=
 (fZ (jJ.s1 p0) (0,[])).bind fun z7 =>
 some z7
def jC.s1 (p0:(List ag)) (s1:Int×List ag):Option (Sum (Int×List ag) (List ag)) :=
 if s1.1 < (p0.length:Int) then
  (at_ p0 s1.1).bind fun x3 =>
  (gX x3.Subscripts).bind fun x4 =>
  (jJ x3.Forms).bind fun x5 =>
  (app s1.2 ([(ag.mk x3.Kind x3.Value x3.Var x3.A x3.B x4 x5)]:List ag)).bind fun x6 =>
  some (.inl ((w (s1.1+1)),x6))
 else
  some (.inr s1.2)
def jC (p0:(List ag)):Option (List ag) :=
 (fZ (jC.s1 p0) (0,[])).bind fun z7 =>
 some z7
def oP (p0:aC):Option aC :=
 (gX p0.Subscripts).bind fun x1 =>
 (jC p0.Value).bind fun x2 =>
 (jC p0.Mask).bind fun x3 =>
 (jC p0.Else).bind fun x4 =>
 some (aC.mk p0.Var x1 x2 x3 x4)
def fD (p0:Int) (p1:Int) (p2:Int):Bool :=
 (!((decide (p0 < p1)) || (decide (p0 > p2))))
def eH (p0:Int):Bool :=
 (fD p0 (-2147483647) 2147483647)
def jS.s1 (p0:(List ax)) (s1:Int×List Int):Option (Sum (Int×List Int) (List Int)) :=
 if s1.1 < (p0.length:Int) then
  (at_ p0 s1.1).bind fun x3 =>
  (at_ p0 s1.1).bind fun x4 =>
  (app s1.2 ([(mx 0 (w ((w (x3.High - x4.Low))+1)))]:List Int)).bind fun x5 =>
  some (.inl ((w (s1.1+1)),x5))
 else
  some (.inr s1.2)
def jS (p0:(List ax)):Option (List Int) :=
 (fZ (jS.s1 p0) (0,[])).bind fun z6 =>
 some z6
def jT.s1 (p0:(List Int)) (s1:Int×Int):Option (Sum (Int×Int) (Sum Int Int)) :=
 if s1.2 < (p0.length:Int) then
  (at_ p0 s1.2).bind fun x3 =>
  if x3=0 then
   some (.inr (.inr 0))
  else
   (at_ p0 s1.2).bind fun x5 =>
   some (.inl ((mn (w (s1.1 * (mn x5 513))) 513),(w (s1.2+1))))
 else
  some (.inr (.inl s1.1))
def jT (p0:(List Int)):Option Int :=
 (fZ (jT.s1 p0) (1,0)).bind fun z6=>match z6 with
 | .inl v7 =>
  some v7
 | .inr r8=>some r8
def gJ.s1 (p0:(List ax)) (s2:Int):Option (Sum Int (Sum Unit Int)) :=
 if s2 < (p0.length:Int) then
  (at_ p0 s2).bind fun x4 =>
  if ¬ ((eH x4.Low)=true) then
   some (.inr (.inr 2))
  else
   (at_ p0 s2).bind fun x6 =>
   if ¬ ((eH x6.High)=true) then
    some (.inr (.inr 2))
   else
    some (.inl (w (s2+1)))
 else
  some (.inr (.inl ()))
def gJ.s2 (x10:(List Int)) (s11:Int):Option (Sum Int (Sum Unit Int)) :=
 if s11 < (x10.length:Int) then
  (at_ x10 s11).bind fun x13 =>
  if x13 > 512 then
   some (.inr (.inr 8))
  else
   some (.inl (w (s11+1)))
 else
  some (.inr (.inl ()))
def gJ (p0:(List ax)):Option Int :=
 if (p0.length:Int) > 7 then
  some 32
 else
  (fZ (gJ.s1 p0) 0).bind fun z8=>match z8 with
  | .inl v9 =>
   (jS p0).bind fun x10 =>
   (fZ (gJ.s2 x10) 0).bind fun z15=>match z15 with
   | .inl v16 =>
    (jT x10).bind fun x17 =>
    if x17 > 512 then
     some 8
    else
     some 0
   | .inr r19=>some r19
  | .inr r20=>some r20
def lg (p0:Int):Bool :=
 (fD p0 (-2147483648) 2147483647)
def nU.s1 (p0:ah) (s6:Int):Option (Sum Int (Sum Unit (Int×Int))) :=
 if s6 < (p0.Elements.length:Int) then
  (at_ p0.Elements s6).bind fun x8 =>
  if ¬ ((lg x8)=true) then
   some (.inr (.inr (s6,2)))
  else
   some (.inl (w (s6+1)))
 else
  some (.inr (.inl ()))
def nU (p0:ah):Option (Int×Int) :=
 (gJ p0.Bounds).bind fun x1 =>
 if ¬ x1=0 then
  some (0,x1)
 else
  (jS p0.Bounds).bind fun x3 =>
  (jT x3).bind fun x4 =>
  if ¬ (p0.Elements.length:Int)=x4 then
   some (0,10)
  else
   (fZ (nU.s1 p0) 0).bind fun z10=>match z10 with
   | .inl v11 =>
    some (0,0)
   | .inr r12=>some r12
def Ai (p0:ah):Option Int :=
 (nU p0).bind fun x1 =>
 some x1.2
def kE.s1 (p0:(List ah)) (s2:Int):Option (Sum Int (Sum Unit Int)) :=
 if s2 < (p0.length:Int) then
  (at_ p0 s2).bind fun x4 =>
  (Ai x4).bind fun x5 =>
  if ¬ x5=0 then
   some (.inr (.inr x5))
  else
   some (.inl (w (s2+1)))
 else
  some (.inr (.inl ()))
def kE (p0:(List ah)):Option Int :=
 if (p0.length:Int) > 6 then
  some 8
 else
  (fZ (kE.s1 p0) 0).bind fun z7=>match z7 with
  | .inl v8 =>
   some 0
  | .inr r9=>some r9
def kM (p0:Int):Int :=
 if p0 < 0 then
  (w (0 - p0))
 else
  p0
def nD (p0:Bool):Int :=
 if p0=true then
  1
 else
  0
def wF (p0:Int) (p1:Int):Option Int :=
 (quo .i64 p0 p1).bind fun x1 =>
 (rem p0 p1).bind fun x2 =>
 some (w (x1 - (nD (decide (x2 < 0)))))
def dJ.s2 (p0:ax) (a26:(List Int)) (s27:Int):Option (Sum Int (Sum Unit ((List Int)×Int))) :=
 if s27 < (a26.length:Int) then
  (at_ a26 s27).bind fun x29 =>
  if ¬ ((fD x29 p0.Low p0.High)=true) then
   some (.inr (.inr (([]:List Int),33)))
  else
   some (.inl (w (s27+1)))
 else
  some (.inr (.inl ()))
def dJ.j1 (p0:ax) (a26:(List Int)):Option ((List Int)×Int) :=
 (fZ (dJ.s2 p0 a26) 0).bind fun z31=>match z31 with
 | .inl v32 =>
  some (a26,0)
 | .inr r33=>some r33
def dJ.s4 (p1:az) (a29:Int) (s31:Int×List Int):Option (Sum (Int×List Int) (List Int)) :=
 if s31.1 < a29 then
  (app s31.2 ([(w (p1.Low+(w (s31.1 * p1.Step))))]:List Int)).bind fun x33 =>
  some (.inl ((w (s31.1+1)),x33))
 else
  some (.inr s31.2)
def dJ.j3 (p0:ax) (p1:az) (a29:Int):Option ((List Int)×Int) :=
 if a29 > 512 then
  some (([]:List Int),8)
 else
  (fZ (dJ.s4 p1 a29) (0,[])).bind fun z34 =>
  dJ.j1 p0 z34
def dJ (p0:ax) (p1:az):Option ((List Int)×Int) :=
 if ((!(eH p0.Low)) || (!(eH p0.High)))=true then
  some (([]:List Int),2)
 else
  if ¬ ((fD p1.Kind 0 2)=true) then
   some (([]:List Int),15)
  else
   if ((((p1.Kind != 1)&&((p1.High != 0) || (p1.Step != 0))) || ((p1.Kind==2)&&(p1.Low != 0))) || ((p1.Kind != 2)&&(decide ((p1.List.length:Int) > 0))))=true then
    some (([]:List Int),3)
   else
    if ((p1.Kind==1)&&(p1.Step==0))=true then
     some (([]:List Int),11)
    else
     if (((!(eH p1.Low)) || (!(eH p1.High))) || (!(eH p1.Step)))=true then
      some (([]:List Int),2)
     else
      if p1.Kind=0 then
       dJ.j1 p0 [p1.Low]
      else
       if p1.Kind=1 then
        (wF (w (p1.High - p1.Low)) (kM p1.Step)).bind fun x28 =>
        if p1.Step < 0 then
         (wF (w (p1.Low - p1.High)) (kM p1.Step)).bind fun x30 =>
         dJ.j3 p0 p1 (mx 0 (w (x30+1)))
        else
         dJ.j3 p0 p1 (mx 0 (w (x28+1)))
       else
        if (p1.List.length:Int) > 512 then
         some (([]:List Int),8)
        else
         (oI p1.List).bind fun x37 =>
         dJ.j1 p0 x37
def kZ.s1 (p0:(List Int)) (s1:Int×Int×List Int):Option (Sum (Int×Int×List Int) (List Int)) :=
 if s1.2.1 < (p0.length:Int) then
  (at_ p0 s1.2.1).bind fun x3 =>
  (rem s1.1 x3).bind fun x4 =>
  (app s1.2.2 ([x4]:List Int)).bind fun x5 =>
  (at_ p0 s1.2.1).bind fun x6 =>
  (quo .i64 s1.1 x6).bind fun x7 =>
  some (.inl (x7,(w (s1.2.1+1)),x5))
 else
  some (.inr s1.2.2)
def kZ (p0:(List Int)) (p1:Int):Option (List Int) :=
 (fZ (kZ.s1 p0) (p1,0,[])).bind fun z8 =>
 some z8
def mX.s1 (p0:(List Int)) (p1:(List Int)) (s1:Int×Int):Option (Sum (Int×Int) Int) :=
 if s1.2≥0 then
  (at_ p0 s1.2).bind fun x3 =>
  (at_ p1 s1.2).bind fun x4 =>
  some (.inl ((w ((w (s1.1 * x3))+x4)),(w (s1.2 - 1))))
 else
  some (.inr s1.1)
def mX (p0:(List Int)) (p1:(List Int)):Option Int :=
 (fZ (mX.s1 p0 p1) (0,(w ((p0.length:Int) - 1)))).bind fun z5 =>
 some z5
def mD.s1 (p0:(List ax)) (p1:(List Int)) (s1:Int×List Int):Option (Sum (Int×List Int) (List Int)) :=
 if s1.1 < (p0.length:Int) then
  (at_ p1 s1.1).bind fun x3 =>
  (at_ p0 s1.1).bind fun x4 =>
  (app s1.2 ([(w (x3 - x4.Low))]:List Int)).bind fun x5 =>
  some (.inl ((w (s1.1+1)),x5))
 else
  some (.inr s1.2)
def mD (p0:(List ax)) (p1:(List Int)):Option Int :=
 (fZ (mD.s1 p0 p1) (0,[])).bind fun z6 =>
 (jS p0).bind fun x7 =>
 (mX x7 z6).bind fun x8 =>
 some x8
def rD.s1 (p0:(List Int)) (p1:Int) (s1:Bool×Int):Option (Sum (Bool×Int) Bool) :=
 if s1.2 < (p0.length:Int) then
  (at_ p0 s1.2).bind fun x3 =>
  some (.inl ((s1.1 || (x3==p1)),(w (s1.2+1))))
 else
  some (.inr s1.1)
def rD (p0:(List Int)) (p1:Int):Option Bool :=
 (fZ (rD.s1 p0 p1) (false,0)).bind fun z6 =>
 some z6
def eG.s1 (p0:(List ax)) (p1:(List az)) (s4:Int×List (List Int)×List Int×List Int):Option (Sum (Int×List (List Int)×List Int×List Int) (Sum (List (List Int)×List Int×List Int) (aA×Int))) :=
 if s4.1 < (p1.length:Int) then
  (at_ p0 s4.1).bind fun x6 =>
  (at_ p1 s4.1).bind fun x7 =>
  (dJ x6 x7).bind fun x8 =>
  if ¬ x8.2=0 then
   some (.inr (.inr ((aA.mk [] [] false),x8.2)))
  else
   (app s4.2.1 ([x8.1]:List (List Int))).bind fun x10 =>
   (app s4.2.2.1 ([(x8.1.length:Int)]:List Int)).bind fun x11 =>
   (at_ p1 s4.1).bind fun x12 =>
   if ¬ x12.Kind=0 then
    (app s4.2.2.2 ([(x8.1.length:Int)]:List Int)).bind fun x14 =>
    some (.inl ((w (s4.1+1)),x10,x11,x14))
   else
    some (.inl ((w (s4.1+1)),x10,x11,s4.2.2.2))
 else
  some (.inr (.inl (s4.2.1,s4.2.2.1,s4.2.2.2)))
def eG.s3 (v16:List (List Int)×List Int×List Int) (s22:Int×List Int):Option (Sum (Int×List Int) (List Int)) :=
 if s22.1 < (s22.2.length:Int) then
  (at_ v16.1 s22.1).bind fun x24 =>
  (at_ s22.2 s22.1).bind fun x25 =>
  (at_ x24 x25).bind fun x26 =>
  (at_ s22.2 s22.1).bind fun x27 =>
  some (.inl ((w (s22.1+1)),(s22.2.set s22.1.toNat x26)))
 else
  some (.inr s22.2)
def eG.s2 (p0:(List ax)) (v16:List (List Int)×List Int×List Int) (x17:Int) (s19:Int×Bool×List Int):Option (Sum (Int×Bool×List Int) (Bool×List Int)) :=
 if s19.1 < x17 then
  (kZ v16.2.1 s19.1).bind fun x21 =>
  (fZ (eG.s3 v16) (0,x21)).bind fun z28 =>
  (mD p0 z28).bind fun x29 =>
  if s19.2.1=true then
   (app s19.2.2 ([x29]:List Int)).bind fun x31 =>
   some (.inl ((w (s19.1+1)),true,x31))
  else
   (rD s19.2.2 x29).bind fun x32 =>
   (app s19.2.2 ([x29]:List Int)).bind fun x33 =>
   some (.inl ((w (s19.1+1)),x32,x33))
 else
  some (.inr (s19.2.1,s19.2.2))
def eG (p0:(List ax)) (p1:(List az)):Option (aA×Int) :=
 (gJ p0).bind fun x1 =>
 if ¬ x1=0 then
  some ((aA.mk [] [] false),x1)
 else
  if ¬ (p1.length:Int)=(p0.length:Int) then
   some ((aA.mk [] [] false),32)
  else
   (fZ (eG.s1 p0 p1) (0,[],[],[])).bind fun z15=>match z15 with
   | .inl v16 =>
    (jT v16.2.1).bind fun x17 =>
    if x17 > 512 then
     some ((aA.mk [] [] false),8)
    else
     (fZ (eG.s2 p0 v16 x17) (0,false,[])).bind fun z35 =>
     some ((aA.mk v16.2.2 z35.2 z35.1),0)
   | .inr r37=>some r37
def dC.j3 (s4:Int×List Int) (x6:ag) (a8:Bool×Bool×Bool×Bool×Bool×Bool) (a39:List Int):Option (Sum (Int×List Int) (Sum (List Int) Int)) :=
 if a8.2.2.2.2.2=true then
  (at_ a39 x6.B).bind fun x41 =>
  (at_ a39 x6.B).bind fun x42 =>
  some (.inl ((w (s4.1+1)),(a39.set x6.B.toNat (w (x41+1)))))
 else
  some (.inl ((w (s4.1+1)),a39))
def dC.j2 (s4:Int×List Int) (x6:ag) (a8:Bool×Bool×Bool×Bool×Bool×Bool):Option (Sum (Int×List Int) (Sum (List Int) Int)) :=
 if (((((((!a8.1)&&(x6.Value != 0)) || ((!a8.2.1)&&(x6.Var != 0))) || ((!a8.2.2.1)&&(decide ((x6.Subscripts.length:Int) > 0)))) || ((!a8.2.2.2.1)&&(decide ((x6.Forms.length:Int) > 0)))) || ((!a8.2.2.2.2.1)&&(x6.A != 0))) || ((!a8.2.2.2.2.2)&&(x6.B != 0)))=true then
  some (.inr (.inr 3))
 else
  if ((a8.2.2.2.2.1&&(!(fD x6.A 0 (w (s4.1 - 1))))) || (a8.2.2.2.2.2&&(!(fD x6.B 0 (w (s4.1 - 1))))))=true then
   some (.inr (.inr 3))
  else
   if a8.2.2.2.2.1=true then
    (at_ s4.2 x6.A).bind fun x40 =>
    (at_ s4.2 x6.A).bind fun x41 =>
    dC.j3 s4 x6 a8 (s4.2.set x6.A.toNat (w (x40+1)))
   else
    dC.j3 s4 x6 a8 s4.2
def dC.s1 (p0:(List ag)) (s4:Int×List Int):Option (Sum (Int×List Int) (Sum (List Int) Int)) :=
 if s4.1 < (p0.length:Int) then
  (at_ p0 s4.1).bind fun x6 =>
  if ¬ ((fD x6.Kind 0 9)=true) then
   some (.inr (.inr 15))
  else
   if x6.Kind=0 then
    dC.j2 s4 x6 (true,false,false,false,false,false)
   else
    if x6.Kind=1 then
     dC.j2 s4 x6 (false,true,true,false,false,false)
    else
     if x6.Kind=7 then
      dC.j2 s4 x6 (false,false,false,false,true,false)
     else
      if x6.Kind=8 then
       dC.j2 s4 x6 (false,true,false,false,false,false)
      else
       if x6.Kind=9 then
        dC.j2 s4 x6 (false,true,false,true,false,false)
       else
        dC.j2 s4 x6 (false,false,false,false,true,true)
 else
  some (.inr (.inl s4.2))
def dC.s4 (p0:(List ag)) (v44:List Int) (s45:Int):Option (Sum Int (Sum Unit Int)) :=
 if s45 < (p0.length:Int) then
  (at_ v44 s45).bind fun x47 =>
  if ¬ x47=(nD (decide (s45 < (w ((p0.length:Int) - 1))))) then
   some (.inr (.inr 3))
  else
   some (.inl (w (s45+1)))
 else
  some (.inr (.inl ()))
def dC (p0:(List ag)):Option Int :=
 if (p0.length:Int)=0 then
  some 17
 else
  if (p0.length:Int) > 40 then
   some 8
  else
   (Js (p0.length:Int) 0).bind fun x3 =>
   (fZ (dC.s1 p0) (0,x3)).bind fun z43=>match z43 with
   | .inl v44 =>
    (fZ (dC.s4 p0 v44) 0).bind fun z49=>match z49 with
    | .inl v50 =>
     some 0
    | .inr r51=>some r51
   | .inr r52=>some r52
def iT.s1 (p1:(List ag)) (s3:Int):Option (Sum Int (Sum Unit ((List (List Int))×Int))) :=
 if s3 < (p1.length:Int) then
  (at_ p1 s3).bind fun x5 =>
  if x5.Kind=8 then
   some (.inr (.inr (([]:List (List Int)),15)))
  else
   (at_ p1 s3).bind fun x7 =>
   if x7.Kind=9 then
    some (.inr (.inr (([]:List (List Int)),15)))
   else
    some (.inl (w (s3+1)))
 else
  some (.inr (.inl ()))
def iT.s2 (p0:(List ah)) (p1:(List ag)) (s11:Int×List (List Int)):Option (Sum (Int×List (List Int)) (Sum (List (List Int)) ((List (List Int))×Int))) :=
 if s11.1 < (p1.length:Int) then
  (at_ p1 s11.1).bind fun x13 =>
  if x13.Kind=0 then
   if ¬ ((lg x13.Value)=true) then
    some (.inr (.inr (([]:List (List Int)),2)))
   else
    (app s11.2 ([[]]:List (List Int))).bind fun x16 =>
    some (.inl ((w (s11.1+1)),x16))
  else
   if x13.Kind=1 then
    if ¬ ((fD x13.Var 0 (w ((p0.length:Int) - 1)))=true) then
     some (.inr (.inr (([]:List (List Int)),6)))
    else
     (at_ p0 x13.Var).bind fun x19 =>
     (eG x19.Bounds x13.Subscripts).bind fun x20 =>
     if ¬ x20.2=0 then
      some (.inr (.inr (([]:List (List Int)),x20.2)))
     else
      if (x20.1.Offsets.length:Int) > 60 then
       some (.inr (.inr (([]:List (List Int)),8)))
      else
       (app s11.2 ([x20.1.Extents]:List (List Int))).bind fun x23 =>
       some (.inl ((w (s11.1+1)),x23))
   else
    if x13.Kind=7 then
     (at_ s11.2 x13.A).bind fun x25 =>
     (app s11.2 ([x25]:List (List Int))).bind fun x26 =>
     some (.inl ((w (s11.1+1)),x26))
    else
     (at_ s11.2 x13.A).bind fun x27 =>
     (at_ s11.2 x13.B).bind fun x28 =>
     if ((decide ((x27.length:Int) > 0))&&(decide ((x28.length:Int) > 0)))=true then
      (pG x27 x28).bind fun x32 =>
      if ¬ (x32=true) then
       some (.inr (.inr (([]:List (List Int)),10)))
      else
       if (x27.length:Int)=0 then
        (app s11.2 ([x28]:List (List Int))).bind fun x35 =>
        some (.inl ((w (s11.1+1)),x35))
       else
        (app s11.2 ([x27]:List (List Int))).bind fun x36 =>
        some (.inl ((w (s11.1+1)),x36))
     else
      if (x27.length:Int)=0 then
       (app s11.2 ([x28]:List (List Int))).bind fun x38 =>
       some (.inl ((w (s11.1+1)),x38))
      else
       (app s11.2 ([x27]:List (List Int))).bind fun x39 =>
       some (.inl ((w (s11.1+1)),x39))
 else
  some (.inr (.inl s11.2))
def iT (p0:(List ah)) (p1:(List ag)):Option ((List (List Int))×Int) :=
 (dC p1).bind fun x1 =>
 if ¬ x1=0 then
  some (([]:List (List Int)),x1)
 else
  (fZ (iT.s1 p1) 0).bind fun z9=>match z9 with
  | .inl v10 =>
   (fZ (iT.s2 p0 p1) (0,[])).bind fun z40=>match z40 with
   | .inl v41 =>
    some (v41,0)
   | .inr r42=>some r42
  | .inr r43=>some r43
def uU (p0:(List ah)) (p1:(List ag)) (p2:(List Int)):Option Int :=
 (iT p0 p1).bind fun x1 =>
 if ¬ x1.2=0 then
  some x1.2
 else
  (at_ x1.1 (w ((x1.1.length:Int) - 1))).bind fun x3 =>
  if (x3.length:Int) > 0 then
   (pG x3 p2).bind fun x5 =>
   if ¬ (x5=true) then
    some 10
   else
    some 0
  else
   some 0
def lT.j1 (p0:(List ah)) (p1:aC) (x5:aA×Int) (a11:Unit):Option (aA×Int) :=
 if (p1.Else.length:Int) > 0 then
  if (p1.Mask.length:Int)=0 then
   some ((aA.mk [] [] false),3)
  else
   (uU p0 p1.Else x5.1.Extents).bind fun x14 =>
   if ¬ x14=0 then
    some ((aA.mk [] [] false),x14)
   else
    some (x5.1,0)
 else
  some (x5.1,0)
def lT (p0:(List ah)) (p1:aC):Option (aA×Int) :=
 (kE p0).bind fun x1 =>
 if ¬ x1=0 then
  some ((aA.mk [] [] false),x1)
 else
  if ¬ ((fD p1.Var 0 (w ((p0.length:Int) - 1)))=true) then
   some ((aA.mk [] [] false),6)
  else
   (at_ p0 p1.Var).bind fun x4 =>
   (eG x4.Bounds p1.Subscripts).bind fun x5 =>
   if ¬ x5.2=0 then
    some ((aA.mk [] [] false),x5.2)
   else
    if (x5.1.Offsets.length:Int) > 60 then
     some ((aA.mk [] [] false),8)
    else
     if x5.1.ManyOne=true then
      some ((aA.mk [] [] false),23)
     else
      (uU p0 p1.Value x5.1.Extents).bind fun x9 =>
      if ¬ x9=0 then
       some ((aA.mk [] [] false),x9)
      else
       if (p1.Mask.length:Int) > 0 then
        (uU p0 p1.Mask x5.1.Extents).bind fun x12 =>
        if ¬ x12=0 then
         some ((aA.mk [] [] false),x12)
        else
         lT.j1 p0 p1 x5 ()
       else
        lT.j1 p0 p1 x5 ()
def ug (p0:(List ah)) (p1:ag) (p2:Int):Option Int :=
 (at_ p0 p1.Var).bind fun x1 =>
 (eG x1.Bounds p1.Subscripts).bind fun x2 =>
 if (x2.1.Extents.length:Int)=0 then
  (at_ x2.1.Offsets 0).bind fun x4 =>
  some x4
 else
  (at_ x2.1.Offsets p2).bind fun x5 =>
  some x5
def CV (p0:Int) (p1:Int):Option Int :=
 (rem p0 p1).bind fun x1 =>
 (rem p0 p1).bind fun x2 =>
 some (w (x1+(w (p1 * (nD (decide (x2 < 0)))))))
def uT (p0:Int):Option Int :=
 (CV (w (p0+2147483648)) 4294967296).bind fun x1 =>
 some (w (x1 - 2147483648))
def rJ (p0:Int) (p1:Int) (p2:Int):Option Int :=
 if p0=2 then
  (uT (w (p1+p2))).bind fun x2 =>
  some x2
 else
  if p0=3 then
   (uT (w (p1 - p2))).bind fun x4 =>
   some x4
  else
   if p0=4 then
    (uT (w (p1 * p2))).bind fun x6 =>
    some x6
   else
    if p0=5 then
     some (nD (decide (p1 < p2)))
    else
     if p0=6 then
      some (nD (p1==p2))
     else
      some (nD (p1==0))
def lh.s1 (p0:(List ah)) (p1:(List ag)) (p2:Int) (s1:Int×List Int):Option (Sum (Int×List Int) (List Int)) :=
 if s1.1 < (p1.length:Int) then
  (at_ p1 s1.1).bind fun x3 =>
  if x3.Kind=0 then
   (app s1.2 ([x3.Value]:List Int)).bind fun x5 =>
   some (.inl ((w (s1.1+1)),x5))
  else
   if x3.Kind=1 then
    (at_ p0 x3.Var).bind fun x7 =>
    (ug p0 x3 p2).bind fun x8 =>
    (at_ x7.Elements x8).bind fun x9 =>
    (app s1.2 ([x9]:List Int)).bind fun x10 =>
    some (.inl ((w (s1.1+1)),x10))
   else
    if x3.Kind=7 then
     (at_ s1.2 x3.A).bind fun x12 =>
     (rJ x3.Kind x12 0).bind fun x13 =>
     (app s1.2 ([x13]:List Int)).bind fun x14 =>
     some (.inl ((w (s1.1+1)),x14))
    else
     (at_ s1.2 x3.A).bind fun x15 =>
     (at_ s1.2 x3.B).bind fun x16 =>
     (rJ x3.Kind x15 x16).bind fun x17 =>
     (app s1.2 ([x17]:List Int)).bind fun x18 =>
     some (.inl ((w (s1.1+1)),x18))
 else
  some (.inr s1.2)
def lh (p0:(List ah)) (p1:(List ag)) (p2:Int):Option Int :=
 (fZ (lh.s1 p0 p1 p2) (0,[])).bind fun z19 =>
 (at_ z19 (w ((z19.length:Int) - 1))).bind fun x20 =>
 some x20
def mF.s1 (p0:(List ah)) (p1:aC) (p2:Int) (s1:Int×List (List ag)):Option (Sum (Int×List (List ag)) (List (List ag))) :=
 if s1.1 < p2 then
  if (p1.Mask.length:Int) > 0 then
   (lh p0 p1.Mask s1.1).bind fun x4 =>
   if x4=0 then
    (app s1.2 ([p1.Else]:List (List ag))).bind fun x6 =>
    some (.inl ((w (s1.1+1)),x6))
   else
    (app s1.2 ([p1.Value]:List (List ag))).bind fun x7 =>
    some (.inl ((w (s1.1+1)),x7))
  else
   (app s1.2 ([p1.Value]:List (List ag))).bind fun x8 =>
   some (.inl ((w (s1.1+1)),x8))
 else
  some (.inr s1.2)
def mF (p0:(List ah)) (p1:aC) (p2:Int):Option (List (List ag)) :=
 (fZ (mF.s1 p0 p1 p2) (0,[])).bind fun z9 =>
 some z9
def nX.s1 (p0:(List ah)) (p1:(List ag)) (p2:Int) (p3:Int) (p4:Int) (s1:Int):Option (Sum Int (Sum Unit Bool)) :=
 if s1 < (p1.length:Int) then
  (at_ p1 s1).bind fun x3 =>
  if x3.Kind=1 then
   (at_ p1 s1).bind fun x5 =>
   if x5.Var=p3 then
    (at_ p1 s1).bind fun x7 =>
    (ug p0 x7 p2).bind fun x8 =>
    if x8=p4 then
     some (.inr (.inr true))
    else
     some (.inl (w (s1+1)))
   else
    some (.inl (w (s1+1)))
  else
   some (.inl (w (s1+1)))
 else
  some (.inr (.inl ()))
def nX (p0:(List ah)) (p1:(List ag)) (p2:Int) (p3:Int) (p4:Int):Option Bool :=
 (fZ (nX.s1 p0 p1 p2 p3 p4) 0).bind fun z10=>match z10 with
 | .inl v11 =>
  some false
 | .inr r12=>some r12
def ig.s2 (p0:(List ah)) (p1:aC) (x1:aA×Int) (x2:(List (List ag))) (s3:Int×List ai) (s5:Int×List ai):Option (Sum (Int×List ai) (List ai)) :=
 if s5.1 < (x2.length:Int) then
  if ¬ s3.1=s5.1 then
   (at_ x2 s3.1).bind fun x8 =>
   if (x8.length:Int) > 0 then
    (at_ x2 s5.1).bind fun x10 =>
    if (x10.length:Int) > 0 then
     (at_ x2 s5.1).bind fun x12 =>
     (at_ x1.1.Offsets s3.1).bind fun x13 =>
     (nX p0 x12 s5.1 p1.Var x13).bind fun x14 =>
     if x14=true then
      (app s5.2 ([(ai.mk s3.1 s5.1)]:List ai)).bind fun x16 =>
      some (.inl ((w (s5.1+1)),x16))
     else
      some (.inl ((w (s5.1+1)),s5.2))
    else
     some (.inl ((w (s5.1+1)),s5.2))
   else
    some (.inl ((w (s5.1+1)),s5.2))
  else
   some (.inl ((w (s5.1+1)),s5.2))
 else
  some (.inr s5.2)
def ig.s1 (p0:(List ah)) (p1:aC) (x1:aA×Int) (x2:(List (List ag))) (s3:Int×List ai):Option (Sum (Int×List ai) (List ai)) :=
 if s3.1 < (x2.length:Int) then
  (fZ (ig.s2 p0 p1 x1 x2 s3) (0,s3.2)).bind fun z17 =>
  some (.inl ((w (s3.1+1)),z17))
 else
  some (.inr s3.2)
def ig (p0:(List ah)) (p1:aC):Option (List ai) :=
 (lT p0 p1).bind fun x1 =>
 (mF p0 p1 (x1.1.Offsets.length:Int)).bind fun x2 =>
 (fZ (ig.s1 p0 p1 x1 x2) (0,[])).bind fun z19 =>
 some z19
def iJ.s1 (p0:(List ai)) (p1:(List ai)) (s2:Int):Option (Sum Int (Sum Unit Bool)) :=
 if s2 < (p0.length:Int) then
  (at_ p0 s2).bind fun x4 =>
  (at_ p1 s2).bind fun x5 =>
  if ¬ (((x4.Writer==x5.Writer)&&((x4.Reader==x5.Reader)&&true))=true) then
   some (.inr (.inr false))
  else
   some (.inl (w (s2+1)))
 else
  some (.inr (.inl ()))
def iJ (p0:(List ai)) (p1:(List ai)):Option Bool :=
 if ¬ (p0.length:Int)=(p1.length:Int) then
  some false
 else
  (fZ (iJ.s1 p0 p1) 0).bind fun z7=>match z7 with
  | .inl v8 =>
   some true
  | .inr r9=>some r9
def dQ.s3 (p0:(List ai)) (s1:List Int) (s3:Int×Int) (s6:Bool×Int):Option (Sum (Bool×Int) Bool) :=
 if ((decide (s6.2 < (p0.length:Int)))&&s6.1)=true then
  (at_ p0 s6.2).bind fun x10 =>
  if ¬ x10.Writer=s3.2 then
   some (.inl (true,(w (s6.2+1))))
  else
   (at_ p0 s6.2).bind fun x12 =>
   (rD s1 x12.Reader).bind fun x13 =>
   some (.inl (x13,(w (s6.2+1))))
 else
  some (.inr s6.1)
def dQ.s2 (p0:(List ai)) (s1:List Int) (s3:Int×Int):Option (Sum (Int×Int) Int) :=
 if s3.2≥0 then
  (rD s1 s3.2).bind fun x5 =>
  (fZ (dQ.s3 p0 s1 s3) ((!x5),0)).bind fun z14 =>
  if z14=true then
   some (.inl (s3.2,(w (s3.2 - 1))))
  else
   some (.inl (s3.1,(w (s3.2 - 1))))
 else
  some (.inr s3.1)
def dQ.s1 (p0:(List ai)) (p1:Int) (s1:List Int):Option (Sum (List Int) (Sum (List Int) ((List Int)×Bool))) :=
 if (s1.length:Int) < p1 then
  (fZ (dQ.s2 p0 s1) ((-1),(w (p1 - 1)))).bind fun z17 =>
  if z17 < 0 then
   some (.inr (.inr (([]:List Int),false)))
  else
   (app s1 ([z17]:List Int)).bind fun x19 =>
   some (.inl x19)
 else
  some (.inr (.inl s1))
def dQ (p0:(List ai)) (p1:Int):Option ((List Int)×Bool) :=
 (fZ (dQ.s1 p0 p1) []).bind fun z21=>match z21 with
 | .inl v22 =>
  some (v22,true)
 | .inr r23=>some r23
def mZ.s1 (p0:(List ai)) (p1:Int) (p2:Int) (s1:Int):Option (Sum Int (Sum Unit Bool)) :=
 if s1 < (p0.length:Int) then
  (at_ p0 s1).bind fun x3 =>
  if x3.Reader=p1 then
   (at_ p0 s1).bind fun x5 =>
   if x5.Writer=p2 then
    some (.inr (.inr true))
   else
    some (.inl (w (s1+1)))
  else
   some (.inl (w (s1+1)))
 else
  some (.inr (.inl ()))
def mZ (p0:(List ai)) (p1:Int) (p2:Int):Option Bool :=
 (fZ (mZ.s1 p0 p1 p2) 0).bind fun z7=>match z7 with
 | .inl v8 =>
  some false
 | .inr r9=>some r9
def dE.s3 (p0:(List ai)) (p1:Int) (p2:Int) (s2:Int×List Int) (s4:Int×List Int) (s6:Int×List Int):Option (Sum (Int×List Int) (List Int)) :=
 if s6.1 < p1 then
  (at_ s6.2 s4.1).bind fun x8 =>
  if x8=0 then
   (mZ p0 s4.1 s6.1).bind fun x10 =>
   if x10=true then
    if ((s2.1==1)&&(s6.1==p2))=true then
     (at_ s6.2 s4.1).bind fun x15 =>
     some (.inl ((w (s6.1+1)),(s6.2.set s4.1.toNat s2.1)))
    else
     if ((decide (s2.1 > 1))&&(decide (s6.1 > p2)))=true then
      (at_ s6.2 s6.1).bind fun x19 =>
      if x19=(w (s2.1 - 1)) then
       (at_ s6.2 s4.1).bind fun x21 =>
       some (.inl ((w (s6.1+1)),(s6.2.set s4.1.toNat s2.1)))
      else
       some (.inl ((w (s6.1+1)),s6.2))
     else
      some (.inl ((w (s6.1+1)),s6.2))
   else
    some (.inl ((w (s6.1+1)),s6.2))
  else
   some (.inr s6.2)
 else
  some (.inr s6.2)
def dE.s2 (p0:(List ai)) (p1:Int) (p2:Int) (s2:Int×List Int) (s4:Int×List Int):Option (Sum (Int×List Int) (List Int)) :=
 if s4.1 < p1 then
  (fZ (dE.s3 p0 p1 p2 s2 s4) (p2,s4.2)).bind fun z22 =>
  some (.inl ((w (s4.1+1)),z22))
 else
  some (.inr s4.2)
def dE.s1 (p0:(List ai)) (p1:Int) (p2:Int) (s2:Int×List Int):Option (Sum (Int×List Int) (List Int)) :=
 if s2.1≤p1 then
  (fZ (dE.s2 p0 p1 p2 s2) (p2,s2.2)).bind fun z24 =>
  some (.inl ((w (s2.1+1)),z24))
 else
  some (.inr s2.2)
def dE.s5 (p0:(List ai)) (p2:Int) (z26:List Int) (s29:List Int) (x32:Int) (s33:Int×Int):Option (Sum (Int×Int) Int) :=
 if s33.2 > p2 then
  (mZ p0 x32 s33.2).bind fun x35 =>
  if x35=true then
   (at_ z26 s33.2).bind fun x37 =>
   (at_ z26 p2).bind fun x38 =>
   if x37=(w (x38 - (s29.length:Int))) then
    some (.inl (s33.2,(w (s33.2 - 1))))
   else
    some (.inl (s33.1,(w (s33.2 - 1))))
  else
   some (.inl (s33.1,(w (s33.2 - 1))))
 else
  some (.inr s33.1)
def dE.s4 (p0:(List ai)) (p1:Int) (p2:Int) (z26:List Int) (s29:List Int):Option (Sum (List Int) (List Int)) :=
 (at_ z26 p2).bind fun x30 =>
 if (s29.length:Int) < x30 then
  (at_ s29 (w ((s29.length:Int) - 1))).bind fun x32 =>
  (fZ (dE.s5 p0 p2 z26 s29 x32) ((-1),(w (p1 - 1)))).bind fun z40 =>
  (app s29 ([z40]:List Int)).bind fun x41 =>
  some (.inl x41)
 else
  some (.inr s29)
def dE (p0:(List ai)) (p1:Int) (p2:Int):Option (List Int) :=
 (Js p1 0).bind fun x1 =>
 (fZ (dE.s1 p0 p1 p2) (1,x1)).bind fun z26 =>
 (at_ z26 p2).bind fun x27 =>
 if x27=0 then
  some ([]:List Int)
 else
  (fZ (dE.s4 p0 p1 p2 z26) [p2]).bind fun z43 =>
  some z43
def nV.s1 (p0:(List ai)) (p1:Int) (s1:(List Int)×Int):Option (Sum ((List Int)×Int) (List Int)) :=
 if s1.2 < p1 then
  (dE p0 p1 s1.2).bind fun x3 =>
  if ((decide ((x3.length:Int) > 0))&&(((s1.1.length:Int)==0) || (decide ((x3.length:Int) < (s1.1.length:Int)))))=true then
   some (.inl (x3,(w (s1.2+1))))
  else
   some (.inl (s1.1,(w (s1.2+1))))
 else
  some (.inr s1.1)
def nV (p0:(List ai)) (p1:Int):Option (List Int) :=
 (fZ (nV.s1 p0 p1) ([],0)).bind fun z9 =>
 some z9
def pq (p0:(List ah)) (p1:aC):Option Bool :=
 (yK).bind fun x1 =>
 if ¬ (x1=true) then
  some false
 else
  (qX p0).bind fun x3 =>
  if ¬ (x3=true) then
   some true
  else
   (wK p1).bind fun x5 =>
   if ¬ (x5=true) then
    some true
   else
    (jg p0).bind fun x7 =>
    (oP p1).bind fun x8 =>
    (nK x7 x8).bind fun x9 =>
    (jg p0).bind fun x10 =>
    (oP p1).bind fun x11 =>
    (bQ x10 x11).bind fun x12 =>
    (jg p0).bind fun x13 =>
    (oP p1).bind fun x14 =>
    (jR x13 x14).bind fun x15 =>
    (lT p0 p1).bind fun x16 =>
    if ¬ x16.2=0 then
     some ((((x9.2==x16.2)&&(x12.2==x16.2))&&(x15.2==x16.2))&&((w ((w ((x9.1.length:Int)+(x12.1.length:Int)))+(x15.1.length:Int)))==0))
    else
     (ig p0 p1).bind fun x24 =>
     if ¬ x9.2=0 then
      some false
     else
      (iJ x9.1 x24).bind fun x26 =>
      if ¬ (x26=true) then
       some false
      else
       (dQ x24 (x16.1.Offsets.length:Int)).bind fun x28 =>
       if ((x28.2&&((x12.2 != 0) || (x15.2 != 12))) || ((!x28.2)&&((x12.2 != 25) || (x15.2 != 0))))=true then
        some false
       else
        (pG x12.1 x28.1).bind fun x40 =>
        if ¬ (x40=true) then
         some false
        else
         (nV x24 (x16.1.Offsets.length:Int)).bind fun x42 =>
         (pG x15.1 x42).bind fun x43 =>
         some x43
end Go.Sh
