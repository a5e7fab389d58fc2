/- Functions of the program in plain form: printed by a program of this session. Not trusted: the walks show that the program does what they say. -/
import Derived.Test.YtbgaclfkpjnmgaaGreatKit5
set_option linter.all false
namespace Go.Sh
open Go.Lx
set_option linter.unusedVariables false
structure aj where
 Low:Int
 High:Int
 deriving DecidableEq
structure ag where
 Bounds:(List aj)
 Elements:(List Int)
 deriving DecidableEq
structure au where
 Kind:Int
 Low:Int
 High:Int
 Step:Int
 List:(List Int)
 deriving DecidableEq
structure aO where
 Coefs:(List Int)
 Const:Int
 deriving DecidableEq
structure ae where
 Kind:Int
 Value:Int
 Var:Int
 A:Int
 B:Int
 Subscripts:(List au)
 Forms:(List aO)
 deriving DecidableEq
structure ai where
 Var:Int
 Subscripts:(List au)
 Value:(List ae)
 Mask:(List ae)
 Else:(List ae)
 deriving DecidableEq
structure ay where
 Extents:(List Int)
 Offsets:(List Int)
 ManyOne:Bool
 deriving DecidableEq
structure bG where
 e:(List ae)
 sections:(List ay)
 shapes:(List (List Int))
 deriving DecidableEq
structure aF where
 store:(List ag)
 at_:Int
 cells:(List Int)
 value:(Option bG)
 mask:(Option bG)
 less:(Option bG)
 deriving DecidableEq
structure aG where
 Writer:Int
 Reader:Int
 deriving DecidableEq
structure aB where
 holds:Bool
 code:Int
 deriving DecidableEq
structure aA where
 holds:Bool
 code:Int
 deriving DecidableEq
structure yz where
 e0:Bool
 e1:Bool
 e2:Bool
 e3:Bool
 e4:Bool
 e5:Bool
 deriving DecidableEq
def lI (p0:Int) (p1:Int) (p2:Int):au :=
 (au.mk 1 p0 p1 p2 [])
def eG (p0:Int) (p1:Int) (p2:Int):(List ae) :=
 [(ae.mk 1 0 0 0 0 [(lI p0 p1 p2)] [])]
def wo (p0:(List ae)) (p1:(List ae)):Option ai :=
 (at_ p0 0).bind fun x1 =>
 some (ai.mk 0 x1.Subscripts p1 [] [])
def ja:(List ag) :=
 [(ag.mk [(aj.mk 1 4)] [1,2,3,4])]
def aI (p0:Int) (p1:Int) (p2:Int):Bool :=
 ((decide (p0≥p1))&&(decide (p0≤p2)))
def aJ (p0:Int):Bool :=
 (aI p0 (-2147483647) 2147483647)
def iL (p0:aj):Bool :=
 ((!(aJ p0.Low)) || (!(aJ p0.High)))
def aP.s1 (p0:(List aj)) (s1:Int):Option (Sum Int (Sum Unit Int)) :=
 if s1 < (p0.length:Int) then
  (at_ p0 s1).bind fun x3 =>
  if (iL x3)=true then
   some (.inr (.inr s1))
  else
   some (.inl (w (s1+1)))
 else
  some (.inr (.inl ()))
def aP (p0:(List aj)):Option Int :=
 (dO (aP.s1 p0) 0).bind fun z5=>match z5 with
 | .inl v6 =>
  some (-1)
 | .inr r7=>some r7
def bU (p0:(List aj)):Option Bool :=
 (aP p0).bind fun x1 =>
 some (decide (x1≥0))
def aH (p0:aj):Int :=
 (mx 0 (w ((w (p0.High - p0.Low))+1)))
def jq (p0:aj):Bool :=
 (decide ((aH p0) > 512))
def aQ.s1 (p0:(List aj)) (s1:Int):Option (Sum Int (Sum Unit Int)) :=
 if s1 < (p0.length:Int) then
  (at_ p0 s1).bind fun x3 =>
  if (jq x3)=true then
   some (.inr (.inr s1))
  else
   some (.inl (w (s1+1)))
 else
  some (.inr (.inl ()))
def aQ (p0:(List aj)):Option Int :=
 (dO (aQ.s1 p0) 0).bind fun z5=>match z5 with
 | .inl v6 =>
  some (-1)
 | .inr r7=>some r7
def bT (p0:(List aj)):Option Bool :=
 (aQ p0).bind fun x1 =>
 some (decide (x1≥0))
def fJ.s1 (p0:(List aj)) (s1:Int×List Int):Option (Sum (Int×List Int) (List Int)) :=
 if s1.1 < (p0.length:Int) then
  (at_ p0 s1.1).bind fun x3 =>
  (app s1.2 ([(aH x3)]:List Int)).bind fun x4 =>
  some (.inl ((w (s1.1+1)),x4))
 else
  some (.inr s1.2)
def fJ (p0:(List aj)):Option (List Int) :=
 (dO (fJ.s1 p0) (0,[])).bind fun z5 =>
 some z5
def slices_Index_int.s1 (p0:(List Int)) (p1:Int) (s1:Int):Option (Sum Int (Sum Unit Int)) :=
 if s1 < (p0.length:Int) then
  (at_ p0 s1).bind fun x3 =>
  if p1=x3 then
   some (.inr (.inr s1))
  else
   some (.inl (w (s1+1)))
 else
  some (.inr (.inl ()))
def slices_Index_int (p0:(List Int)) (p1:Int):Option Int :=
 (dO (slices_Index_int.s1 p0 p1) 0).bind fun z5=>match z5 with
 | .inl v6 =>
  some (-1)
 | .inr r7=>some r7
def slices_Contains_int (p0:(List Int)) (p1:Int):Option Bool :=
 (slices_Index_int p0 p1).bind fun x1 =>
 some (decide (x1≥0))
def fK.s1 (p0:(List Int)) (s1:Int×Int):Option (Sum (Int×Int) Int) :=
 if s1.2 < (p0.length:Int) then
  (at_ p0 s1.2).bind fun x3 =>
  some (.inl ((mn (w (s1.1 * (mn x3 513))) 513),(w (s1.2+1))))
 else
  some (.inr s1.1)
def fK (p0:(List Int)):Option Int :=
 (dO (fK.s1 p0) (1,0)).bind fun z4 =>
 (slices_Contains_int p0 0).bind fun x5 =>
 if x5=true then
  some 0
 else
  some z4
def oU (p0:(List aj)):Option Int :=
 (fJ p0).bind fun x1 =>
 (fK x1).bind fun x2 =>
 some x2
def dF.s1 (p0:(List aA)) (s1:Int):Option (Sum Int (Sum Unit Int)) :=
 if s1 < (p0.length:Int) then
  (at_ p0 s1).bind fun x3 =>
  if ¬ (x3.holds=true) then
   some (.inr (.inr x3.code))
  else
   some (.inl (w (s1+1)))
 else
  some (.inr (.inl ()))
def dF (p0:(List aA)):Option Int :=
 (dO (dF.s1 p0) 0).bind fun z5=>match z5 with
 | .inl v6 =>
  some 0
 | .inr r7=>some r7
def jF (p0:(List aj)):Option Int :=
 if (p0.length:Int) > 7 then
  some 32
 else
  (bU p0).bind fun x2 =>
  if x2=true then
   some 2
  else
   (bT p0).bind fun x4 =>
   if ¬ (x4=true) then
    (oU p0).bind fun x6 =>
    (dF [(aA.mk (decide (x6≤512)) 8)]).bind fun x7 =>
    some x7
   else
    (dF [(aA.mk false 8)]).bind fun x8 =>
    some x8
def bK (p0:Int):Bool :=
 (aI p0 (-2147483648) 2147483647)
def jS (p0:Int) (p1:Int):Option Int :=
 (dF [(aA.mk (bK p1) 2)]).bind fun x1 =>
 some x1
def aV.s1 (p0:(List Int)) (s1:Int):Option (Sum Int (Sum Unit (Int×Int))) :=
 if s1 < (p0.length:Int) then
  (at_ p0 s1).bind fun x3 =>
  (jS s1 x3).bind fun x4 =>
  if ¬ x4=0 then
   some (.inr (.inr (s1,x4)))
  else
   some (.inl (w (s1+1)))
 else
  some (.inr (.inl ()))
def aV (p0:(List Int)):Option (Int×Int) :=
 (dO (aV.s1 p0) 0).bind fun z6=>match z6 with
 | .inl v7 =>
  some (0,0)
 | .inr r8=>some r8
def kE (p0:ag):Option (Int×Int) :=
 (jF p0.Bounds).bind fun x1 =>
 if ¬ x1=0 then
  some (0,x1)
 else
  (oU p0.Bounds).bind fun x3 =>
  if ¬ (p0.Elements.length:Int)=x3 then
   some (0,10)
  else
   (aV p0.Elements).bind fun x5 =>
   some (x5.1,x5.2)
def lX (p0:Int) (p1:ag):Option Int :=
 (kE p1).bind fun x1 =>
 some x1.2
def aS.s1 (p0:(List ag)) (s1:Int):Option (Sum Int (Sum Unit (Int×Int))) :=
 if s1 < (p0.length:Int) then
  (at_ p0 s1).bind fun x3 =>
  (lX s1 x3).bind fun x4 =>
  if ¬ x4=0 then
   some (.inr (.inr (s1,x4)))
  else
   some (.inl (w (s1+1)))
 else
  some (.inr (.inl ()))
def aS (p0:(List ag)):Option (Int×Int) :=
 (dO (aS.s1 p0) 0).bind fun z6=>match z6 with
 | .inl v7 =>
  some (0,0)
 | .inr r8=>some r8
def mF (p0:(List ag)):Option Int :=
 if (p0.length:Int) > 6 then
  some 8
 else
  (aS p0).bind fun x2 =>
  some x2.2
def aT (p0:Int) (p1:Int) (p2:Int):Bool :=
 ((decide (p0≥p1))&&(decide (p0≤p2)))
def jv (p0:au):Option Int :=
 if ¬ ((aI p0.Kind 0 2)=true) then
  some 15
 else
  if ¬ (p0.Kind=1) then
   if (aJ p0.Low)=true then
    if (aJ p0.High)=true then
     (dF [(aA.mk ((((p0.Kind != 2) || (p0.Low==0))&&((p0.Kind==1) || ((p0.High==0)&&(p0.Step==0))))&&((p0.Kind==2) || ((p0.List.length:Int)==0))) 3),(aA.mk true 11),(aA.mk (aJ p0.Step) 2)]).bind fun x17 =>
     some x17
    else
     (dF [(aA.mk ((((p0.Kind != 2) || (p0.Low==0))&&((p0.Kind==1) || ((p0.High==0)&&(p0.Step==0))))&&((p0.Kind==2) || ((p0.List.length:Int)==0))) 3),(aA.mk true 11),(aA.mk false 2)]).bind fun x18 =>
     some x18
   else
    (dF [(aA.mk ((((p0.Kind != 2) || (p0.Low==0))&&((p0.Kind==1) || ((p0.High==0)&&(p0.Step==0))))&&((p0.Kind==2) || ((p0.List.length:Int)==0))) 3),(aA.mk true 11),(aA.mk false 2)]).bind fun x19 =>
    some x19
  else
   if (aJ p0.Low)=true then
    if (aJ p0.High)=true then
     (dF [(aA.mk ((((p0.Kind != 2) || (p0.Low==0))&&((p0.Kind==1) || ((p0.High==0)&&(p0.Step==0))))&&((p0.Kind==2) || ((p0.List.length:Int)==0))) 3),(aA.mk (p0.Step != 0) 11),(aA.mk (aJ p0.Step) 2)]).bind fun x22 =>
     some x22
    else
     (dF [(aA.mk ((((p0.Kind != 2) || (p0.Low==0))&&((p0.Kind==1) || ((p0.High==0)&&(p0.Step==0))))&&((p0.Kind==2) || ((p0.List.length:Int)==0))) 3),(aA.mk (p0.Step != 0) 11),(aA.mk false 2)]).bind fun x23 =>
     some x23
   else
    (dF [(aA.mk ((((p0.Kind != 2) || (p0.Low==0))&&((p0.Kind==1) || ((p0.High==0)&&(p0.Step==0))))&&((p0.Kind==2) || ((p0.List.length:Int)==0))) 3),(aA.mk (p0.Step != 0) 11),(aA.mk false 2)]).bind fun x24 =>
    some x24
def pM (p0:au):Option Int :=
 if p0.Step > 0 then
  (quo .i64 (w ((w (p0.High - p0.Low))+p0.Step)) p0.Step).bind fun x2 =>
  some (mx 0 x2)
 else
  (quo .i64 (w ((w (p0.Low - p0.High)) - p0.Step)) (w (0 - p0.Step))).bind fun x3 =>
  some (mx 0 x3)
def slices_Clone_int (p0:(List Int)):Option (List Int) :=
 (app ([]:List Int) p0).bind fun x1 =>
 some x1
def jX (p0:Int) (p1:aj):Bool :=
 (!(aI p0 p1.Low p1.High))
def aX.s1 (p0:(List Int)) (p1_0:aj) (s1:Int):Option (Sum Int (Sum Unit Int)) :=
 if s1 < (p0.length:Int) then
  (at_ p0 s1).bind fun x3 =>
  if (jX x3 p1_0)=true then
   some (.inr (.inr s1))
  else
   some (.inl (w (s1+1)))
 else
  some (.inr (.inl ()))
def aX (p0:(List Int)) (p1_0:aj):Option Int :=
 (dO (aX.s1 p0 p1_0) 0).bind fun z5=>match z5 with
 | .inl v6 =>
  some (-1)
 | .inr r7=>some r7
def dH (p0:(List Int)) (p1_0:aj):Option Bool :=
 (aX p0 p1_0).bind fun x1 =>
 some (decide (x1≥0))
def dC.j1 (p0:aj) (a3:(List Int)):Option ((List Int)×Int) :=
 (dH a3 p0).bind fun x4 =>
 if x4=true then
  some (([]:List Int),33)
 else
  some (a3,0)
def dC.s2 (p1:au) (x5:Int) (s7:Int×List Int):Option (Sum (Int×List Int) (List Int)) :=
 if s7.1 < x5 then
  (app s7.2 ([(w (p1.Low+(w (s7.1 * p1.Step))))]:List Int)).bind fun x9 =>
  some (.inl ((w (s7.1+1)),x9))
 else
  some (.inr s7.2)
def dC (p0:aj) (p1:au):Option ((List Int)×Int) :=
 (jv p1).bind fun x1 =>
 if ¬ x1=0 then
  some (([]:List Int),x1)
 else
  if p1.Kind=0 then
   dC.j1 p0 [p1.Low]
  else
   if p1.Kind=1 then
    (pM p1).bind fun x5 =>
    if x5 > 512 then
     some (([]:List Int),8)
    else
     (dO (dC.s2 p1 x5) (0,[])).bind fun z10 =>
     dC.j1 p0 z10
   else
    if (p1.List.length:Int) > 512 then
     some (([]:List Int),8)
    else
     (slices_Clone_int p1.List).bind fun x13 =>
     dC.j1 p0 x13
def gp.s1 (p0:(List Int)) (s1:Int×Int×List Int):Option (Sum (Int×Int×List Int) (List Int)) :=
 if s1.2.1 < (p0.length:Int) then
  (at_ p0 s1.2.1).bind fun x3 =>
  (app s1.2.2 ([s1.1]:List Int)).bind fun x4 =>
  some (.inl ((w (s1.1 * x3)),(w (s1.2.1+1)),x4))
 else
  some (.inr s1.2.2)
def gp (p0:(List Int)):Option (List Int) :=
 (dO (gp.s1 p0) (1,0,[])).bind fun z5 =>
 some z5
def iq.s1 (p0:(List Int)) (s1:Int×Int×List Int):Option (Sum (Int×Int×List Int) (List Int)) :=
 if s1.2.1 < (p0.length:Int) then
  (at_ p0 s1.2.1).bind fun x3 =>
  (rem s1.1 x3).bind fun x4 =>
  (app s1.2.2 ([x4]:List Int)).bind fun x5 =>
  (quo .i64 s1.1 x3).bind fun x6 =>
  some (.inl (x6,(w (s1.2.1+1)),x5))
 else
  some (.inr s1.2.2)
def iq (p0:(List Int)) (p1:Int):Option (List Int) :=
 (dO (iq.s1 p0) (p1,0,[])).bind fun z7 =>
 some z7
def bP.s1 (p0:(List aj)) (p1:(List au)) (s2:Int×List Int×List (List Int)×List Int):Option (Sum (Int×List Int×List (List Int)×List Int) (Sum (List Int×List (List Int)×List Int) (ay×Int))) :=
 if s2.1 < (p1.length:Int) then
  (at_ p1 s2.1).bind fun x4 =>
  (at_ p0 s2.1).bind fun x5 =>
  (dC x5 x4).bind fun x6 =>
  if ¬ x6.2=0 then
   some (.inr (.inr ((ay.mk [] [] false),x6.2)))
  else
   (app s2.2.2.1 ([x6.1]:List (List Int))).bind fun x8 =>
   (app s2.2.2.2 ([(x6.1.length:Int)]:List Int)).bind fun x9 =>
   if ¬ x4.Kind=0 then
    (app s2.2.1 ([(x6.1.length:Int)]:List Int)).bind fun x11 =>
    some (.inl ((w (s2.1+1)),x11,x8,x9))
   else
    some (.inl ((w (s2.1+1)),s2.2.1,x8,x9))
 else
  some (.inr (.inl (s2.2.1,s2.2.2.1,s2.2.2.2)))
def bP.s3 (p0:(List aj)) (v13:List Int×List (List Int)×List Int) (x17:(List Int)) (x20:(List Int)) (s21:Int×Int):Option (Sum (Int×Int) Int) :=
 if s21.2 < (x20.length:Int) then
  (at_ x20 s21.2).bind fun x23 =>
  (at_ x17 s21.2).bind fun x24 =>
  (at_ v13.2.1 s21.2).bind fun x25 =>
  (at_ x25 x23).bind fun x26 =>
  (at_ p0 s21.2).bind fun x27 =>
  some (.inl ((w (s21.1+(w (x24 * (w (x26 - x27.Low)))))),(w (s21.2+1))))
 else
  some (.inr s21.1)
def bP.s2 (p0:(List aj)) (v13:List Int×List (List Int)×List Int) (x14:Int) (x17:(List Int)) (s18:Int×Bool×List Int×List (Int×Bool)):Option (Sum (Int×Bool×List Int×List (Int×Bool)) (Bool×List Int)) :=
 if s18.1 < x14 then
  (iq v13.2.2 s18.1).bind fun x20 =>
  (dO (bP.s3 p0 v13 x17 x20) (0,0)).bind fun z28 =>
  (app s18.2.2.1 ([z28]:List Int)).bind fun x31 =>
  some (.inl ((w (s18.1+1)),(s18.2.1 || ((Jp s18.2.2.2 z28).getD false)),x31,(QW s18.2.2.2 z28 true)))
 else
  some (.inr (s18.2.1,s18.2.2.1))
def bP (p0:(List aj)) (p1:(List au)):Option (ay×Int) :=
 if ¬ (p1.length:Int)=(p0.length:Int) then
  some ((ay.mk [] [] false),32)
 else
  (dO (bP.s1 p0 p1) (0,[],[],[])).bind fun z12=>match z12 with
  | .inl v13 =>
   (fK v13.2.2).bind fun x14 =>
   if x14 > 512 then
    some ((ay.mk [] [] false),8)
   else
    (fJ p0).bind fun x16 =>
    (gp x16).bind fun x17 =>
    (dO (bP.s2 p0 v13 x14 x17) (0,false,[],[])).bind fun z33 =>
    some ((ay.mk v13.1 z33.2 z33.1),0)
  | .inr r35=>some r35
def kN (p0:(List aj)) (p1:(List au)):Option (ay×Int) :=
 (jF p0).bind fun x1 =>
 if ¬ x1=0 then
  some ((ay.mk [] [] false),x1)
 else
  (bP p0 p1).bind fun x3 =>
  some (x3.1,x3.2)
def dw.s1 (p0:(List aB)) (s1:Int):Option (Sum Int (Sum Unit Int)) :=
 if s1 < (p0.length:Int) then
  (at_ p0 s1).bind fun x3 =>
  if ¬ (x3.holds=true) then
   some (.inr (.inr x3.code))
  else
   some (.inl (w (s1+1)))
 else
  some (.inr (.inl ()))
def dw (p0:(List aB)):Option Int :=
 (dO (dw.s1 p0) 0).bind fun z5=>match z5 with
 | .inl v6 =>
  some 0
 | .inr r7=>some r7
def dU.s1 (p0:(List Int)) (s1:Int):Option (Sum Int (Sum Unit Int)) :=
 if s1 < (p0.length:Int) then
  (at_ p0 s1).bind fun x3 =>
  if ¬ x3=0 then
   some (.inr (.inr x3))
  else
   some (.inl (w (s1+1)))
 else
  some (.inr (.inl ()))
def dU (p0:(List Int)):Option Int :=
 (dO (dU.s1 p0) 0).bind fun z5=>match z5 with
 | .inl v6 =>
  some 0
 | .inr r7=>some r7
def kw (p0:(List ag)) (p1:Int) (p2:(List au)):Option (ay×Int) :=
 if ¬ ((aT p1 0 (w ((p0.length:Int) - 1)))=true) then
  some ((ay.mk [] [] false),6)
 else
  (at_ p0 p1).bind fun x2 =>
  (kN x2.Bounds p2).bind fun x3 =>
  (dw [(aB.mk (decide ((x3.1.Offsets.length:Int)≤60)) 8)]).bind fun x4 =>
  (dU [x3.2,x4]).bind fun x5 =>
  some (x3.1,x5)
def lF (p0:ae):Bool :=
 ((p0.Kind==8) || (p0.Kind==9))
def aC.s1 (p0:(List ae)) (s1:Int):Option (Sum Int (Sum Unit Int)) :=
 if s1 < (p0.length:Int) then
  (at_ p0 s1).bind fun x3 =>
  if (lF x3)=true then
   some (.inr (.inr s1))
  else
   some (.inl (w (s1+1)))
 else
  some (.inr (.inl ()))
def aC (p0:(List ae)):Option Int :=
 (dO (aC.s1 p0) 0).bind fun z5=>match z5 with
 | .inl v6 =>
  some (-1)
 | .inr r7=>some r7
def bz (p0:(List ae)):Option Bool :=
 (aC p0).bind fun x1 =>
 some (decide (x1≥0))
def aU (p0:Int):Bool :=
 ((decide (p0≥2))&&(decide (p0≤6)))
def cO (p0:ae):(List Int) :=
 if (aU p0.Kind)=true then
  [p0.A,p0.B]
 else
  if p0.Kind=7 then
   [p0.A]
  else
   ([]:List Int)
def fB.j1 (p0:ae) (a1:Bool):Option Bool :=
 some (((((((p0.Kind==0) || (p0.Value==0))&&(a1 || (p0.Var==0)))&&((aU p0.Kind) || (p0.B==0)))&&(((aU p0.Kind) || (p0.Kind==7)) || (p0.A==0)))&&((p0.Kind==1) || ((p0.Subscripts.length:Int)==0)))&&((p0.Kind==9) || ((p0.Forms.length:Int)==0)))
def fB (p0:ae):Option Bool :=
 if p0.Kind=1 then
  fB.j1 p0 true
 else
  if p0.Kind=8 then
   fB.j1 p0 true
  else
   fB.j1 p0 (p0.Kind==9)
def eH.s1 (p0:Int) (p1:ae) (s2:Int×List Int):Option (Sum (Int×List Int) (Sum (List Int) (Int×List Int))) :=
 if s2.1 < ((cO p1).length:Int) then
  (at_ (cO p1) s2.1).bind fun x4 =>
  if ¬ ((aT x4 0 (w (p0 - 1)))=true) then
   some (.inr (.inr (3,s2.2)))
  else
   (at_ s2.2 x4).bind fun x6 =>
   (at_ s2.2 x4).bind fun x7 =>
   some (.inl ((w (s2.1+1)),(s2.2.set x4.toNat (w (x6+1)))))
 else
  some (.inr (.inl s2.2))
def eH (p0:Int) (p1:ae) (b1:(List Int)):Option (Int×List Int) :=
 if ¬ ((aT p1.Kind 0 9)=true) then
  some (15,b1)
 else
  (dO (eH.s1 p0 p1) (0,b1)).bind fun z8=>match z8 with
  | .inl v9 =>
   (fB p1).bind fun x10 =>
   (dw [(aB.mk x10 3)]).bind fun x11 =>
   some (x11,v9)
  | .inr r12=>some r12
def aK.s1 (p0:(List ae)) (s1:Int×List Int):Option (Sum (Int×List Int) (Sum (List Int) (Int×Int×List Int))) :=
 if s1.1 < (p0.length:Int) then
  (at_ p0 s1.1).bind fun x3 =>
  (eH s1.1 x3 s1.2).bind fun x4 =>
  if ¬ x4.1=0 then
   some (.inr (.inr (s1.1,x4.1,x4.2)))
  else
   some (.inl ((w (s1.1+1)),x4.2))
 else
  some (.inr (.inl s1.2))
def aK (p0:(List ae)) (b1:(List Int)):Option (Int×Int×List Int) :=
 (dO (aK.s1 p0) (0,b1)).bind fun z6=>match z6 with
 | .inl v7 =>
  some (0,0,v7)
 | .inr r8=>some r8
def mP (p0:Int) (p1:Int) (p2:Int):Option Int :=
 (dw [(aB.mk (((p0==p2)&&(p1==0)) || ((p0 != p2)&&(p1==1))) 3)]).bind fun x7 =>
 some x7
def aY.s1 (p0:(List Int)) (p1_0:Int) (s1:Int):Option (Sum Int (Sum Unit (Int×Int))) :=
 if s1 < (p0.length:Int) then
  (at_ p0 s1).bind fun x3 =>
  (mP s1 x3 p1_0).bind fun x4 =>
  if ¬ x4=0 then
   some (.inr (.inr (s1,x4)))
  else
   some (.inl (w (s1+1)))
 else
  some (.inr (.inl ()))
def aY (p0:(List Int)) (p1_0:Int):Option (Int×Int) :=
 (dO (aY.s1 p0 p1_0) 0).bind fun z6=>match z6 with
 | .inl v7 =>
  some (0,0)
 | .inr r8=>some r8
def oG (p0:(List ae)):Option Int :=
 (dw [(aB.mk (decide ((p0.length:Int) > 0)) 17),(aB.mk (decide ((p0.length:Int)≤40)) 8)]).bind fun x1 =>
 if ¬ x1=0 then
  some x1
 else
  (EJ (p0.length:Int) 0).bind fun x3 =>
  (aK p0 x3).bind fun x4 =>
  if ¬ x4.2.1=0 then
   some x4.2.1
  else
   (aY x4.2.2 (w ((p0.length:Int) - 1))).bind fun x6 =>
   some x6.2
def slices_Equal_int.s1 (p0:(List Int)) (p1:(List Int)) (s2:Int):Option (Sum Int (Sum Unit Bool)) :=
 if s2 < (p0.length:Int) then
  (at_ p0 s2).bind fun x4 =>
  (at_ p1 s2).bind fun x5 =>
  if ¬ x4=x5 then
   some (.inr (.inr false))
  else
   some (.inl (w (s2+1)))
 else
  some (.inr (.inl ()))
def slices_Equal_int (p0:(List Int)) (p1:(List Int)):Option Bool :=
 if ¬ (p0.length:Int)=(p1.length:Int) then
  some false
 else
  (dO (slices_Equal_int.s1 p0 p1) 0).bind fun z7=>match z7 with
  | .inl v8 =>
   some true
  | .inr r9=>some r9
def rf (p0:(List Int)) (p1:(List Int)):Option ((List Int)×Bool) :=
 if (p0.length:Int)=0 then
  some (p1,true)
 else
  if (p1.length:Int)=0 then
   some (p0,true)
  else
   (slices_Equal_int p0 p1).bind fun x3 =>
   some (p0,x3)
def kz (p0:Int) (p1:ae) (p2:(List ag)) (pb1_0:(List ae)) (b2:(List ay)) (b3:(List (List Int))):Option (Int×List ay×List (List Int)) :=
 if p1.Kind=0 then
  (dw [(aB.mk (aT p1.Value (-2147483648) 2147483647) 2)]).bind fun x2 =>
  some (x2,b2,b3)
 else
  if p1.Kind=1 then
   (kw p2 p1.Var p1.Subscripts).bind fun x4 =>
   (at_ b2 p0).bind fun x5 =>
   (at_ b3 p0).bind fun x6 =>
   some (x4.2,(b2.set p0.toNat x4.1),(b3.set p0.toNat x4.1.Extents))
  else
   if p1.Kind=7 then
    (at_ b3 p1.A).bind fun x8 =>
    (at_ b3 p0).bind fun x9 =>
    some (0,b2,(b3.set p0.toNat x8))
   else
    (at_ b3 p1.A).bind fun x10 =>
    (at_ b3 p1.B).bind fun x11 =>
    (rf x10 x11).bind fun x12 =>
    (at_ b3 p0).bind fun x13 =>
    (dw [(aB.mk x12.2 10)]).bind fun x14 =>
    some (x14,b2,(b3.set p0.toNat x12.1))
def aN.s1 (p0:(List ae)) (p1_0:(List ag)) (pb1_0:(List ae)) (s1:Int×List ay×List (List Int)):Option (Sum (Int×List ay×List (List Int)) (Sum (List ay×List (List Int)) (Int×Int×List ay×List (List Int)))) :=
 if s1.1 < (p0.length:Int) then
  (at_ p0 s1.1).bind fun x3 =>
  (kz s1.1 x3 p1_0 pb1_0 s1.2.1 s1.2.2).bind fun x4 =>
  if ¬ x4.1=0 then
   some (.inr (.inr (s1.1,x4.1,x4.2.1,x4.2.2)))
  else
   some (.inl ((w (s1.1+1)),x4.2.1,x4.2.2))
 else
  some (.inr (.inl (s1.2.1,s1.2.2)))
def aN (p0:(List ae)) (p1_0:(List ag)) (pb1_0:(List ae)) (b2:(List ay)) (b3:(List (List Int))):Option (Int×Int×List ay×List (List Int)) :=
 (dO (aN.s1 p0 p1_0 pb1_0) (0,b2,b3)).bind fun z6=>match z6 with
 | .inl v7 =>
  some (0,0,v7.1,v7.2)
 | .inr r8=>some r8
def pK (p0:(List ag)) (p1:(List ae)):Option ((Option bG)×Int) :=
 (bz p1).bind fun x1 =>
 (oG p1).bind fun x2 =>
 (dw [(aB.mk (!x1) 15)]).bind fun x3 =>
 (dU [x2,x3]).bind fun x4 =>
 if ¬ x4=0 then
  some (none,x4)
 else
  (EJ (p1.length:Int) (ay.mk [] [] false)).bind fun x6 =>
  (EJ (p1.length:Int) []).bind fun x7 =>
  (aN p1 p0 p1 x6 x7).bind fun x8 =>
  some ((some (bG.mk p1 x8.2.2.1 x8.2.2.2)),x8.2.1)
def kT (p0:(Option bG)):Option (List Int) :=
 (p0).bind fun x1 =>
 (at_ x1.shapes (w ((x1.shapes.length:Int) - 1))).bind fun x2 =>
 some x2
def kG (p0:(List ag)) (p1:(List ae)) (p2:(List Int)):Option ((Option bG)×Int) :=
 (pK p0 p1).bind fun x1 =>
 if ¬ x1.2=0 then
  some (none,x1.2)
 else
  (kT x1.1).bind fun x3 =>
  if (x3.length:Int)=0 then
   (dw [(aB.mk true 10)]).bind fun x5 =>
   some (x1.1,x5)
  else
   (slices_Equal_int x3 p2).bind fun x6 =>
   (dw [(aB.mk x6 10)]).bind fun x7 =>
   some (x1.1,x7)
def iw.j1 (p0:(List ag)) (p1:ai) (x3:ay×Int) (x7:(Option bG)×Int) (a9:(Option bG)):Option ((Option aF)×Int) :=
 if (p1.Else.length:Int) > 0 then
  if (a9).isNone=true then
   some (none,3)
  else
   (kG p0 p1.Else x3.1.Extents).bind fun x12 =>
   if ¬ x12.2=0 then
    some (none,x12.2)
   else
    some ((some (aF.mk p0 p1.Var x3.1.Offsets x7.1 a9 x12.1)),0)
 else
  some ((some (aF.mk p0 p1.Var x3.1.Offsets x7.1 a9 none)),0)
def iw (p0:(List ag)) (p1:ai):Option ((Option aF)×Int) :=
 (mF p0).bind fun x1 =>
 if ¬ x1=0 then
  some (none,x1)
 else
  (kw p0 p1.Var p1.Subscripts).bind fun x3 =>
  (dw [(aB.mk (!x3.1.ManyOne) 23)]).bind fun x4 =>
  (dU [x3.2,x4]).bind fun x5 =>
  if ¬ x5=0 then
   some (none,x5)
  else
   (kG p0 p1.Value x3.1.Extents).bind fun x7 =>
   if ¬ x7.2=0 then
    some (none,x7.2)
   else
    if (p1.Mask.length:Int) > 0 then
     (kG p0 p1.Mask x3.1.Extents).bind fun x10 =>
     if ¬ x10.2=0 then
      some (none,x10.2)
     else
      iw.j1 p0 p1 x3 x7 x10.1
    else
     iw.j1 p0 p1 x3 x7 none
def iH (p0:(List aj)):Option (List aj) :=
 (app ([]:List aj) p0).bind fun x1 =>
 some x1
def iD.s1 (p0:(List ag)) (s1:Int×List ag):Option (Sum (Int×List ag) (List ag)) :=
 if s1.1 < (p0.length:Int) then
  (at_ p0 s1.1).bind fun x3 =>
  (iH x3.Bounds).bind fun x4 =>
  (slices_Clone_int x3.Elements).bind fun x5 =>
  (app s1.2 [(ag.mk x4 x5)]).bind fun x6 =>
  some (.inl ((w (s1.1+1)),x6))
 else
  some (.inr s1.2)
def iD (p0:(List ag)):Option (List ag) :=
 (dO (iD.s1 p0) (0,[])).bind fun z7 =>
 some z7
def lM (p0:ay) (p1:Int):Option Int :=
 if (p0.Extents.length:Int)=0 then
  (at_ p0.Offsets 0).bind fun x2 =>
  some x2
 else
  (at_ p0.Offsets p1).bind fun x3 =>
  some x3
def jP (p0:Bool):Int :=
 if p0=true then
  1
 else
  0
def jf (p0:Int) (p1:Int) (p2:Int):Int :=
 if p0=2 then
  (IntKind.i32.wrap (p1+p2))
 else
  if p0=3 then
   (IntKind.i32.wrap (p1 - p2))
  else
   if p0=4 then
    (IntKind.i32.wrap (p1 * p2))
   else
    if p0=5 then
     (jP (decide (p1 < p2)))
    else
     if p0=6 then
      (jP (p1==p2))
     else
      (jP (p1==0))
def dS.s1 (p1:(List ag)) (p2:Int) (x1:bG) (s3:Int×List Int):Option (Sum (Int×List Int) (List Int)) :=
 if s3.1 < (x1.e.length:Int) then
  (at_ x1.e s3.1).bind fun x5 =>
  if x5.Kind=0 then
   (at_ s3.2 s3.1).bind fun x7 =>
   some (.inl ((w (s3.1+1)),(s3.2.set s3.1.toNat (IntKind.i32.wrap x5.Value))))
  else
   if x5.Kind=1 then
    (at_ p1 x5.Var).bind fun x9 =>
    (at_ x1.sections s3.1).bind fun x10 =>
    (lM x10 p2).bind fun x11 =>
    (at_ x9.Elements x11).bind fun x12 =>
    (at_ s3.2 s3.1).bind fun x13 =>
    some (.inl ((w (s3.1+1)),(s3.2.set s3.1.toNat (IntKind.i32.wrap x12))))
   else
    (at_ s3.2 x5.A).bind fun x14 =>
    (at_ s3.2 x5.B).bind fun x15 =>
    (at_ s3.2 s3.1).bind fun x16 =>
    some (.inl ((w (s3.1+1)),(s3.2.set s3.1.toNat (jf x5.Kind x14 x15))))
 else
  some (.inr s3.2)
def dS (p0:(Option bG)) (p1:(List ag)) (p2:Int):Option Int :=
 (p0).bind fun x1 =>
 (EJ (x1.e.length:Int) 0).bind fun x2 =>
 (dO (dS.s1 p1 p2 x1) (0,x2)).bind fun z17 =>
 (at_ z17 (w ((z17.length:Int) - 1))).bind fun x18 =>
 some (w x18)
def dX (p0:(Option aF)) (p1:Int):Option (Option bG) :=
 (p0).bind fun x1 =>
 if (x1.mask).isNone=true then
  some x1.value
 else
  (dS x1.mask x1.store p1).bind fun x3 =>
  if ¬ x3=0 then
   some x1.value
  else
   some x1.less
def dZ.s1 (p0:(List ag)) (x1:(Option aF)×Int) (x4:aF) (s5:Int×List ag):Option (Sum (Int×List ag) (List ag)) :=
 if s5.1 < (x4.cells.length:Int) then
  (at_ x4.cells s5.1).bind fun x7 =>
  (dX x1.1 s5.1).bind fun x8 =>
  if (x8).isSome=true then
   (at_ s5.2 x4.at_).bind fun x10 =>
   (dS x8 p0 s5.1).bind fun x11 =>
   (at_ x10.Elements x7).bind fun x12 =>
   some (.inl ((w (s5.1+1)),(s5.2.set x4.at_.toNat ({ x10 with Elements:=(x10.Elements.set x7.toNat x11) }:ag))))
  else
   some (.inl ((w (s5.1+1)),s5.2))
 else
  some (.inr s5.2)
def dZ (p0:(List ag)) (p1:ai):Option ((List ag)×Int) :=
 (iw p0 p1).bind fun x1 =>
 if ¬ x1.2=0 then
  some (([]:List ag),x1.2)
 else
  (iD p0).bind fun x3 =>
  (x1.1).bind fun x4 =>
  (dO (dZ.s1 p0 x1 x4) (0,x3)).bind fun z13 =>
  some (z13,0)
def iR (p0_0:List Int):Option (List Int):=BV p0_0
def kC.s1 (x4:(List Int)) (s5:Bool×Int):Option (Sum (Bool×Int) Bool) :=
 if s5.2 < (x4.length:Int) then
  (at_ x4 s5.2).bind fun x7 =>
  some (.inl ((s5.1&&(x7==s5.2)),(w (s5.2+1))))
 else
  some (.inr s5.1)
def kC (p0:(List ag)) (p1:ai) (p2:(List Int)):Option ((Option aF)×Int) :=
 (iw p0 p1).bind fun x1 =>
 if ¬ x1.2=0 then
  none
 else
  (x1.1).bind fun x3 =>
  (iR p2).bind fun x4 =>
  (dO (kC.s1 x4) (((p2.length:Int)==(x3.cells.length:Int)),0)).bind fun z10 =>
  (dw [(aB.mk z10 3)]).bind fun x11 =>
  some (x1.1,x11)
def lV.s1 (p2:(List Int)) (x1:(Option aF)×Int) (s4:Int×List ag):Option (Sum (Int×List ag) (List ag)) :=
 if s4.1 < (p2.length:Int) then
  (at_ p2 s4.1).bind fun x6 =>
  (dX x1.1 x6).bind fun x7 =>
  if (x7).isSome=true then
   (x1.1).bind fun x9 =>
   (at_ s4.2 x9.at_).bind fun x10 =>
   (at_ x9.cells x6).bind fun x11 =>
   (dS x7 s4.2 x6).bind fun x12 =>
   (at_ x10.Elements x11).bind fun x13 =>
   some (.inl ((w (s4.1+1)),(s4.2.set x9.at_.toNat ({ x10 with Elements:=(x10.Elements.set x11.toNat x12) }:ag))))
  else
   none
 else
  some (.inr s4.2)
def lV (p0:(List ag)) (p1:ai) (p2:(List Int)):Option ((List ag)×Int) :=
 (kC p0 p1 p2).bind fun x1 =>
 if ¬ x1.2=0 then
  none
 else
  (iD p0).bind fun x3 =>
  (dO (lV.s1 p2 x1) (0,x3)).bind fun z14 =>
  some (z14,0)
def fZ.s1 (p0:(Option aF)) (p1:Int) (p2:Int) (x3:bG) (s4:Int):Option (Sum Int (Sum Unit Bool)) :=
 if s4 < (x3.e.length:Int) then
  (at_ x3.e s4).bind fun x6 =>
  if x6.Kind=1 then
   (p0).bind fun x8 =>
   if x6.Var=x8.at_ then
    (at_ x3.sections s4).bind fun x10 =>
    (lM x10 p1).bind fun x11 =>
    if x11=p2 then
     some (.inr (.inr true))
    else
     some (.inl (w (s4+1)))
   else
    none
  else
   none
 else
  some (.inr (.inl ()))
def fZ (p0:(Option aF)) (p1:Int) (p2:Int):Option Bool :=
 (dX p0 p1).bind fun x1 =>
 if (x1).isNone=true then
  none
 else
  (x1).bind fun x3 =>
  (dO (fZ.s1 p0 p1 p2 x3) 0).bind fun z13=>match z13 with
  | .inl v14 =>
   some false
  | .inr r15=>some r15
def cZ.s2 (p0:(Option aF)) (x1:aF) (s2:Int×List aG) (x4:Int) (s7:Int×List aG):Option (Sum (Int×List aG) (List aG)) :=
 if s7.1 < (x1.cells.length:Int) then
  if ¬ s7.1=s2.1 then
   (fZ p0 s7.1 x4).bind fun x10 =>
   if x10=true then
    (app s7.2 ([(aG.mk s2.1 s7.1)]:List aG)).bind fun x12 =>
    some (.inl ((w (s7.1+1)),x12))
   else
    some (.inl ((w (s7.1+1)),s7.2))
  else
   some (.inl ((w (s7.1+1)),s7.2))
 else
  some (.inr s7.2)
def cZ.s1 (p0:(Option aF)) (x1:aF) (s2:Int×List aG):Option (Sum (Int×List aG) (List aG)) :=
 if s2.1 < (x1.cells.length:Int) then
  (at_ x1.cells s2.1).bind fun x4 =>
  (dX p0 s2.1).bind fun x5 =>
  if (x5).isNone=true then
   none
  else
   (dO (cZ.s2 p0 x1 s2 x4) (0,s2.2)).bind fun z13 =>
   some (.inl ((w (s2.1+1)),z13))
 else
  some (.inr s2.2)
def cZ (p0:(Option aF)):Option (List aG) :=
 (p0).bind fun x1 =>
 (dO (cZ.s1 p0 x1) (0,[])).bind fun z15 =>
 some z15
def oO (p0:(List ag)) (p1:ai):Option ((List aG)×Int) :=
 (iw p0 p1).bind fun x1 =>
 if ¬ x1.2=0 then
  none
 else
  (cZ x1.1).bind fun x3 =>
  some (x3,0)
def fA.s1 (x3:(List aG)) (s4:Int×List (List Int)):Option (Sum (Int×List (List Int)) (List (List Int))) :=
 if s4.1 < (x3.length:Int) then
  (at_ x3 s4.1).bind fun x6 =>
  (at_ s4.2 x6.Reader).bind fun x7 =>
  (app x7 ([x6.Writer]:List Int)).bind fun x8 =>
  some (.inl ((w (s4.1+1)),(s4.2.set x6.Reader.toNat x8)))
 else
  some (.inr s4.2)
def fA (p0:(Option aF)):Option (List (List Int)) :=
 (p0).bind fun x1 =>
 (EJ (x1.cells.length:Int) ([]:List Int)).bind fun x2 =>
 (cZ p0).bind fun x3 =>
 (dO (fA.s1 x3) (0,x2)).bind fun z9 =>
 some z9
def dA.s2 (x7:(List Int)) (s8:Int×List Int):Option (Sum (Int×List Int) (List Int)) :=
 if s8.1 < (x7.length:Int) then
  (at_ x7 s8.1).bind fun x10 =>
  (at_ s8.2 x10).bind fun x11 =>
  (at_ s8.2 x10).bind fun x12 =>
  some (.inl ((w (s8.1+1)),(s8.2.set x10.toNat (w (x11+1)))))
 else
  some (.inr s8.2)
def dA.s1 (x3:(List (List Int))) (s5:Int×List Int):Option (Sum (Int×List Int) (List Int)) :=
 if s5.1 < (x3.length:Int) then
  (at_ x3 s5.1).bind fun x7 =>
  (dO (dA.s2 x7) (0,s5.2)).bind fun z13 =>
  some (.inl ((w (s5.1+1)),z13))
 else
  some (.inr s5.2)
def dA.s4 (x22:(List Int)) (s23:Int×List Int):Option (Sum (Int×List Int) (List Int)) :=
 if s23.1 < (x22.length:Int) then
  (at_ x22 s23.1).bind fun x25 =>
  (at_ s23.2 x25).bind fun x26 =>
  (at_ s23.2 x25).bind fun x27 =>
  some (.inl ((w (s23.1+1)),(s23.2.set x25.toNat (w (x26 - 1)))))
 else
  some (.inr s23.2)
def dA.s3 (x3:(List (List Int))) (s16:Int×List Int×List Int):Option (Sum (Int×List Int×List Int) (List Int)) :=
 if s16.1 < (x3.length:Int) then
  (slices_Index_int s16.2.1 0).bind fun x18 =>
  if x18 < 0 then
   none
  else
   (app s16.2.2 ([x18]:List Int)).bind fun x20 =>
   (at_ s16.2.1 x18).bind fun x21 =>
   (at_ x3 x18).bind fun x22 =>
   (dO (dA.s4 x22) (0,(s16.2.1.set x18.toNat (-1)))).bind fun z28 =>
   some (.inl ((w (s16.1+1)),z28,x20))
 else
  some (.inr s16.2.2)
def dA (p0:(List ag)) (p1:ai):Option ((List Int)×Int) :=
 (iw p0 p1).bind fun x1 =>
 if ¬ x1.2=0 then
  none
 else
  (fA x1.1).bind fun x3 =>
  (EJ (x3.length:Int) 0).bind fun x4 =>
  (dO (dA.s1 x3) (0,x4)).bind fun z15 =>
  (dO (dA.s3 x3) (0,z15,[])).bind fun z30 =>
  some (z30,0)
def fU.j3 (x4:(List Int)) (s7:Int×List Bool×List (List Int)) (x9:Int) (a12:Bool):Option (Sum (Int×List Bool×List (List Int)) (Sum (List Bool×List (List Int)) (List Int))) :=
 if a12=true then
  (at_ s7.2.1 x9).bind fun x14 =>
  (slices_Clone_int x4).bind fun x15 =>
  (app x15 ([x9]:List Int)).bind fun x16 =>
  (app s7.2.2 ([x16]:List (List Int))).bind fun x17 =>
  some (.inl ((w (s7.1+1)),(s7.2.1.set x9.toNat true),x17))
 else
  some (.inl ((w (s7.1+1)),s7.2.1,s7.2.2))
def fU.s2 (p1:Int) (x4:(List Int)) (x6:(List Int)) (s7:Int×List Bool×List (List Int)):Option (Sum (Int×List Bool×List (List Int)) (Sum (List Bool×List (List Int)) (List Int))) :=
 if s7.1 < (x6.length:Int) then
  (at_ x6 s7.1).bind fun x9 =>
  if x9=p1 then
   (neL x4).bind fun x11 =>
   some (.inr (.inr x11))
  else
   if x9 > p1 then
    (at_ s7.2.1 x9).bind fun x13 =>
    fU.j3 x4 s7 x9 (!x13)
   else
    fU.j3 x4 s7 x9 false
 else
  some (.inr (.inl (s7.2.1,s7.2.2)))
def fU.s1 (p0:(List (List Int))) (p1:Int) (s2:List Bool×List (List Int)):Option (Sum (List Bool×List (List Int)) (Sum Unit (List Int))) :=
 if (s2.2.length:Int) > 0 then
  (at_ s2.2 0).bind fun x4 =>
  (at_ x4 (w ((x4.length:Int) - 1))).bind fun x5 =>
  (at_ p0 x5).bind fun x6 =>
  (dO (fU.s2 p1 x4 x6) (0,s2.1,s2.2)).bind fun z18=>match z18 with
  | .inl v19 =>
   (cut v19.2 1 (v19.2.length:Int)).bind fun x20 =>
   some (.inl (v19.1,x20))
  | .inr r21=>some (.inr (.inr r21))
 else
  some (.inr (.inl ()))
def fU (p0:(List (List Int))) (p1:Int):Option (List Int) :=
 (EJ (p0.length:Int) false).bind fun x1 =>
 (dO (fU.s1 p0 p1) (x1,[[p1]])).bind fun z22=>match z22 with
 | .inl v23 =>
  some []
 | .inr r24=>some r24
def lY.s1 (x3:(List (List Int))) (s4:(List Int)×Int):Option (Sum ((List Int)×Int) (List Int)) :=
 if s4.2 < (x3.length:Int) then
  (fU x3 s4.2).bind fun x6 =>
  if ((!(x6.isEmpty))&&((s4.1.isEmpty) || (decide ((x6.length:Int) < (s4.1.length:Int)))))=true then
   some (.inl (x6,(w (s4.2+1))))
  else
   some (.inl (s4.1,(w (s4.2+1))))
 else
  some (.inr s4.1)
def lY (p0:(List ag)) (p1:ai):Option ((List Int)×Int) :=
 (iw p0 p1).bind fun x1 =>
 if ¬ x1.2=0 then
  none
 else
  (fA x1.1).bind fun x3 =>
  (dO (lY.s1 x3) (([]:List Int),0)).bind fun z12 =>
  (dw [(aB.mk (!(z12.isEmpty)) 12)]).bind fun x13 =>
  some (z12,x13)
def bW.F (self83:(List Int)→(List Int)→Option Bool) (p0:(List Int)) (p1:(List Int)):Option Bool :=
 if (((p0.length:Int)==0) || ((p1.length:Int)==0))=true then
  some (decide ((p0.length:Int) < (p1.length:Int)))
 else
  (at_ p0 0).bind fun x4 =>
  (at_ p1 0).bind fun x5 =>
  if x4 < x5 then
   some true
  else
   (at_ p0 0).bind fun x7 =>
   (at_ p1 0).bind fun x8 =>
   if x7=x8 then
    (cut p0 1 (p0.length:Int)).bind fun x10 =>
    (cut p1 1 (p1.length:Int)).bind fun x11 =>
    (self83 x10 x11).bind fun x12 =>
    some x12
   else
    some false
def bW.N:Nat→(List Int)→(List Int)→Option Bool
 | 0=>fun _ _=>none
 | n+1=>bW.F (bW.N n)
def bW (p0:(List Int)) (p1:(List Int)):Option Bool:=lim fun n=>bW.N n p0 p1
def lG (p0:(List Int)) (p1:(List Int)):Option Bool :=
 if (p0.length:Int)=(p1.length:Int) then
  (bW p0 p1).bind fun x2 =>
  if ¬ (x2=true) then
   (bW p1 p0).bind fun x4 =>
   some (!x4)
  else
   some false
 else
  some false
def tC:Option Bool :=
 (wo (eG 2 4 1) (eG 1 3 1)).bind fun x1 =>
 (wo (eG 1 4 1) (eG 4 1 (-1))).bind fun x2 =>
 (dZ ja x1).bind fun x3 =>
 (lV ja x1 [0,1,2]).bind fun x4 =>
 (oO ja x1).bind fun x5 =>
 (dA ja x1).bind fun x6 =>
 (lY ja x2).bind fun x7 =>
 if ((((x3.2 != 0) || (x4.2 != 0)) || ((x3.1.length:Int) != 1)) || ((x4.1.length:Int) != 1))=true then
  none
 else
  (at_ x3.1 0).bind fun x15 =>
  (lG x15.Elements [1,1,2,3]).bind fun x16 =>
  if x16=true then
   (at_ x4.1 0).bind fun x18 =>
   (lG x18.Elements [1,1,1,1]).bind fun x19 =>
   if ((x19&&(x5.2==0))&&((x5.1.length:Int)==2))=true then
    (at_ x5.1 1).bind fun x25 =>
    if (((x25.Writer==1)&&((x25.Reader==2)&&true))&&(x6.2==0))=true then
     (lG x6.1 [2,1,0]).bind fun x29 =>
     if (x29&&(x7.2==0))=true then
      (lG x7.1 [0,3]).bind fun x33 =>
      some x33
     else
      none
    else
     none
   else
    none
  else
   none
def lN.s1 (p0:(List ag)) (s2:Int):Option (Sum Int (Sum Unit Bool)) :=
 if s2 < (p0.length:Int) then
  (at_ p0 s2).bind fun x4 =>
  if (x4.Bounds.length:Int) > 9 then
   some (.inr (.inr false))
  else
   (at_ p0 s2).bind fun x6 =>
   if (x6.Elements.length:Int) > 40 then
    some (.inr (.inr false))
   else
    some (.inl (w (s2+1)))
 else
  some (.inr (.inl ()))
def lN (p0:(List ag)):Option Bool :=
 if (p0.length:Int) > 8 then
  some false
 else
  (dO (lN.s1 p0) 0).bind fun z8=>match z8 with
  | .inl v9 =>
   some true
  | .inr r10=>some r10
def iW.s1 (p0:(List au)) (s2:Int):Option (Sum Int (Sum Unit Bool)) :=
 if s2 < (p0.length:Int) then
  (at_ p0 s2).bind fun x4 =>
  if (x4.List.length:Int) > 20 then
   some (.inr (.inr false))
  else
   some (.inl (w (s2+1)))
 else
  some (.inr (.inl ()))
def iW (p0:(List au)):Option Bool :=
 if (p0.length:Int) > 9 then
  some false
 else
  (dO (iW.s1 p0) 0).bind fun z6=>match z6 with
  | .inl v7 =>
   some true
  | .inr r8=>some r8
def jm.s1 (p0:(List aO)) (s2:Int):Option (Sum Int (Sum Unit Bool)) :=
 if s2 < (p0.length:Int) then
  (at_ p0 s2).bind fun x4 =>
  if (x4.Coefs.length:Int) > 9 then
   some (.inr (.inr false))
  else
   some (.inl (w (s2+1)))
 else
  some (.inr (.inl ()))
def jm (p0:(List aO)):Option Bool :=
 if (p0.length:Int) > 9 then
  some false
 else
  (dO (jm.s1 p0) 0).bind fun z6=>match z6 with
  | .inl v7 =>
   some true
  | .inr r8=>some r8
def gU.s1 (p0:(List ae)) (s6:Int):Option (Sum Int (Sum Unit Bool)) :=
 if s6 < (p0.length:Int) then
  (at_ p0 s6).bind fun x8 =>
  (iW x8.Subscripts).bind fun x9 =>
  if ¬ (x9=true) then
   some (.inr (.inr false))
  else
   (at_ p0 s6).bind fun x11 =>
   (jm x11.Forms).bind fun x12 =>
   if ¬ (x12=true) then
    some (.inr (.inr false))
   else
    some (.inl (w (s6+1)))
 else
  some (.inr (.inl ()))
def gU (p0:(List ae)):Option Bool :=
 if (((decide ((p0.length:Int) > 20))&&(decide ((p0.length:Int)≤40))) || (decide ((p0.length:Int) > 42)))=true then
  some false
 else
  (dO (gU.s1 p0) 0).bind fun z14=>match z14 with
  | .inl v15 =>
   some true
  | .inr r16=>some r16
def qL (p0:ai):Option Bool :=
 (iW p0.Subscripts).bind fun x1 =>
 if x1=true then
  (gU p0.Value).bind fun x3 =>
  if x3=true then
   (gU p0.Mask).bind fun x5 =>
   if x5=true then
    (gU p0.Else).bind fun x7 =>
    some x7
   else
    some false
  else
   some false
 else
  some false
def bV (p0:Int) (p1:Int) (p2:Int):Bool :=
 (!((decide (p0 < p1)) || (decide (p0 > p2))))
def bJ (p0:Int):Bool :=
 (bV p0 (-2147483647) 2147483647)
def fO.s1 (p0:(List aj)) (s1:Int×List Int):Option (Sum (Int×List Int) (List Int)) :=
 if s1.1 < (p0.length:Int) then
  (at_ p0 s1.1).bind fun x3 =>
  (at_ p0 s1.1).bind fun x4 =>
  (app s1.2 ([(mx 0 (w ((w (x3.High - x4.Low))+1)))]:List Int)).bind fun x5 =>
  some (.inl ((w (s1.1+1)),x5))
 else
  some (.inr s1.2)
def fO (p0:(List aj)):Option (List Int) :=
 (dO (fO.s1 p0) (0,[])).bind fun z6 =>
 some z6
def fP.s1 (p0:(List Int)) (s1:Int×Int):Option (Sum (Int×Int) (Sum Int Int)) :=
 if s1.2 < (p0.length:Int) then
  (at_ p0 s1.2).bind fun x3 =>
  if x3=0 then
   some (.inr (.inr 0))
  else
   (at_ p0 s1.2).bind fun x5 =>
   some (.inl ((mn (w (s1.1 * (mn x5 513))) 513),(w (s1.2+1))))
 else
  some (.inr (.inl s1.1))
def fP (p0:(List Int)):Option Int :=
 (dO (fP.s1 p0) (1,0)).bind fun z6=>match z6 with
 | .inl v7 =>
  some v7
 | .inr r8=>some r8
def dm.s1 (p0:(List aj)) (s2:Int):Option (Sum Int (Sum Unit Int)) :=
 if s2 < (p0.length:Int) then
  (at_ p0 s2).bind fun x4 =>
  if ¬ ((bJ x4.Low)=true) then
   some (.inr (.inr 2))
  else
   (at_ p0 s2).bind fun x6 =>
   if ¬ ((bJ x6.High)=true) then
    some (.inr (.inr 2))
   else
    some (.inl (w (s2+1)))
 else
  some (.inr (.inl ()))
def dm.s2 (x10:(List Int)) (s11:Int):Option (Sum Int (Sum Unit Int)) :=
 if s11 < (x10.length:Int) then
  (at_ x10 s11).bind fun x13 =>
  if x13 > 512 then
   some (.inr (.inr 8))
  else
   some (.inl (w (s11+1)))
 else
  some (.inr (.inl ()))
def dm (p0:(List aj)):Option Int :=
 if (p0.length:Int) > 7 then
  some 32
 else
  (dO (dm.s1 p0) 0).bind fun z8=>match z8 with
  | .inl v9 =>
   (fO p0).bind fun x10 =>
   (dO (dm.s2 x10) 0).bind fun z15=>match z15 with
   | .inl v16 =>
    (fP x10).bind fun x17 =>
    if x17 > 512 then
     some 8
    else
     some 0
   | .inr r19=>some r19
  | .inr r20=>some r20
def gZ (p0:Int):Bool :=
 (bV p0 (-2147483648) 2147483647)
def jA.s1 (p0:ag) (s6:Int):Option (Sum Int (Sum Unit (Int×Int))) :=
 if s6 < (p0.Elements.length:Int) then
  (at_ p0.Elements s6).bind fun x8 =>
  if ¬ ((gZ x8)=true) then
   some (.inr (.inr (s6,2)))
  else
   some (.inl (w (s6+1)))
 else
  some (.inr (.inl ()))
def jA (p0:ag):Option (Int×Int) :=
 (dm p0.Bounds).bind fun x1 =>
 if ¬ x1=0 then
  some (0,x1)
 else
  (fO p0.Bounds).bind fun x3 =>
  (fP x3).bind fun x4 =>
  if ¬ (p0.Elements.length:Int)=x4 then
   some (0,10)
  else
   (dO (jA.s1 p0) 0).bind fun z10=>match z10 with
   | .inl v11 =>
    some (0,0)
   | .inr r12=>some r12
def vJ (p0:ag):Option Int :=
 (jA p0).bind fun x1 =>
 some x1.2
def gm.s1 (p0:(List ag)) (s2:Int):Option (Sum Int (Sum Unit Int)) :=
 if s2 < (p0.length:Int) then
  (at_ p0 s2).bind fun x4 =>
  (vJ x4).bind fun x5 =>
  if ¬ x5=0 then
   some (.inr (.inr x5))
  else
   some (.inl (w (s2+1)))
 else
  some (.inr (.inl ()))
def gm (p0:(List ag)):Option Int :=
 if (p0.length:Int) > 6 then
  some 8
 else
  (dO (gm.s1 p0) 0).bind fun z7=>match z7 with
  | .inl v8 =>
   some 0
  | .inr r9=>some r9
def gG (p0:Int):Int :=
 if p0 < 0 then
  (w (0 - p0))
 else
  p0
def qc (p0:Bool):Int :=
 if p0=true then
  1
 else
  0
def qw (p0:Int) (p1:Int):Option Int :=
 (quo .i64 p0 p1).bind fun x1 =>
 (rem p0 p1).bind fun x2 =>
 some (w (x1 - (qc (decide (x2 < 0)))))
def jI (p0:(List Int)):Option (List Int) :=
 (EJ (p0.length:Int) 0).bind fun x1 =>
 some (copied x1 p0)
def bn.s2 (p0:aj) (a26:(List Int)) (s27:Int):Option (Sum Int (Sum Unit ((List Int)×Int))) :=
 if s27 < (a26.length:Int) then
  (at_ a26 s27).bind fun x29 =>
  if ¬ ((bV x29 p0.Low p0.High)=true) then
   some (.inr (.inr (([]:List Int),33)))
  else
   some (.inl (w (s27+1)))
 else
  some (.inr (.inl ()))
def bn.j1 (p0:aj) (a26:(List Int)):Option ((List Int)×Int) :=
 (dO (bn.s2 p0 a26) 0).bind fun z31=>match z31 with
 | .inl v32 =>
  some (a26,0)
 | .inr r33=>some r33
def bn.s4 (p1:au) (a29:Int) (s31:Int×List Int):Option (Sum (Int×List Int) (List Int)) :=
 if s31.1 < a29 then
  (app s31.2 ([(w (p1.Low+(w (s31.1 * p1.Step))))]:List Int)).bind fun x33 =>
  some (.inl ((w (s31.1+1)),x33))
 else
  some (.inr s31.2)
def bn.j3 (p0:aj) (p1:au) (a29:Int):Option ((List Int)×Int) :=
 if a29 > 512 then
  some (([]:List Int),8)
 else
  (dO (bn.s4 p1 a29) (0,[])).bind fun z34 =>
  bn.j1 p0 z34
def bn (p0:aj) (p1:au):Option ((List Int)×Int) :=
 if ((!(bJ p0.Low)) || (!(bJ p0.High)))=true then
  some (([]:List Int),2)
 else
  if ¬ ((bV p1.Kind 0 2)=true) then
   some (([]:List Int),15)
  else
   if ((((p1.Kind != 1)&&((p1.High != 0) || (p1.Step != 0))) || ((p1.Kind==2)&&(p1.Low != 0))) || ((p1.Kind != 2)&&(decide ((p1.List.length:Int) > 0))))=true then
    some (([]:List Int),3)
   else
    if ((p1.Kind==1)&&(p1.Step==0))=true then
     some (([]:List Int),11)
    else
     if (((!(bJ p1.Low)) || (!(bJ p1.High))) || (!(bJ p1.Step)))=true then
      some (([]:List Int),2)
     else
      if p1.Kind=0 then
       bn.j1 p0 [p1.Low]
      else
       if p1.Kind=1 then
        (qw (w (p1.High - p1.Low)) (gG p1.Step)).bind fun x28 =>
        if p1.Step < 0 then
         (qw (w (p1.Low - p1.High)) (gG p1.Step)).bind fun x30 =>
         bn.j3 p0 p1 (mx 0 (w (x30+1)))
        else
         bn.j3 p0 p1 (mx 0 (w (x28+1)))
       else
        if (p1.List.length:Int) > 512 then
         some (([]:List Int),8)
        else
         (jI p1.List).bind fun x37 =>
         bn.j1 p0 x37
def ik.s1 (p0:(List Int)) (s1:Int×Int×List Int):Option (Sum (Int×Int×List Int) (List Int)) :=
 if s1.2.1 < (p0.length:Int) then
  (at_ p0 s1.2.1).bind fun x3 =>
  (rem s1.1 x3).bind fun x4 =>
  (app s1.2.2 ([x4]:List Int)).bind fun x5 =>
  (at_ p0 s1.2.1).bind fun x6 =>
  (quo .i64 s1.1 x6).bind fun x7 =>
  some (.inl (x7,(w (s1.2.1+1)),x5))
 else
  some (.inr s1.2.2)
def ik (p0:(List Int)) (p1:Int):Option (List Int) :=
 (dO (ik.s1 p0) (p1,0,[])).bind fun z8 =>
 some z8
def jc.s1 (p0:(List Int)) (p1:(List Int)) (s1:Int×Int):Option (Sum (Int×Int) Int) :=
 if s1.2≥0 then
  (at_ p0 s1.2).bind fun x3 =>
  (at_ p1 s1.2).bind fun x4 =>
  some (.inl ((w ((w (s1.1 * x3))+x4)),(w (s1.2 - 1))))
 else
  some (.inr s1.1)
def jc (p0:(List Int)) (p1:(List Int)):Option Int :=
 (dO (jc.s1 p0 p1) (0,(w ((p0.length:Int) - 1)))).bind fun z5 =>
 some z5
def iV.s1 (p0:(List aj)) (p1:(List Int)) (s1:Int×List Int):Option (Sum (Int×List Int) (List Int)) :=
 if s1.1 < (p0.length:Int) then
  (at_ p1 s1.1).bind fun x3 =>
  (at_ p0 s1.1).bind fun x4 =>
  (app s1.2 ([(w (x3 - x4.Low))]:List Int)).bind fun x5 =>
  some (.inl ((w (s1.1+1)),x5))
 else
  some (.inr s1.2)
def iV (p0:(List aj)) (p1:(List Int)):Option Int :=
 (dO (iV.s1 p0 p1) (0,[])).bind fun z6 =>
 (fO p0).bind fun x7 =>
 (jc x7 z6).bind fun x8 =>
 some x8
def mV.s1 (p0:(List Int)) (p1:Int) (s1:Bool×Int):Option (Sum (Bool×Int) Bool) :=
 if s1.2 < (p0.length:Int) then
  (at_ p0 s1.2).bind fun x3 =>
  some (.inl ((s1.1 || (x3==p1)),(w (s1.2+1))))
 else
  some (.inr s1.1)
def mV (p0:(List Int)) (p1:Int):Option Bool :=
 (dO (mV.s1 p0 p1) (false,0)).bind fun z6 =>
 some z6
def bM.s1 (p0:(List aj)) (p1:(List au)) (s4:Int×List (List Int)×List Int×List Int):Option (Sum (Int×List (List Int)×List Int×List Int) (Sum (List (List Int)×List Int×List Int) (ay×Int))) :=
 if s4.1 < (p1.length:Int) then
  (at_ p0 s4.1).bind fun x6 =>
  (at_ p1 s4.1).bind fun x7 =>
  (bn x6 x7).bind fun x8 =>
  if ¬ x8.2=0 then
   some (.inr (.inr ((ay.mk [] [] false),x8.2)))
  else
   (app s4.2.1 ([x8.1]:List (List Int))).bind fun x10 =>
   (app s4.2.2.1 ([(x8.1.length:Int)]:List Int)).bind fun x11 =>
   (at_ p1 s4.1).bind fun x12 =>
   if ¬ x12.Kind=0 then
    (app s4.2.2.2 ([(x8.1.length:Int)]:List Int)).bind fun x14 =>
    some (.inl ((w (s4.1+1)),x10,x11,x14))
   else
    some (.inl ((w (s4.1+1)),x10,x11,s4.2.2.2))
 else
  some (.inr (.inl (s4.2.1,s4.2.2.1,s4.2.2.2)))
def bM.s3 (v16:List (List Int)×List Int×List Int) (s22:Int×List Int):Option (Sum (Int×List Int) (List Int)) :=
 if s22.1 < (s22.2.length:Int) then
  (at_ v16.1 s22.1).bind fun x24 =>
  (at_ s22.2 s22.1).bind fun x25 =>
  (at_ x24 x25).bind fun x26 =>
  (at_ s22.2 s22.1).bind fun x27 =>
  some (.inl ((w (s22.1+1)),(s22.2.set s22.1.toNat x26)))
 else
  some (.inr s22.2)
def bM.s2 (p0:(List aj)) (v16:List (List Int)×List Int×List Int) (x17:Int) (s19:Int×Bool×List Int):Option (Sum (Int×Bool×List Int) (Bool×List Int)) :=
 if s19.1 < x17 then
  (ik v16.2.1 s19.1).bind fun x21 =>
  (dO (bM.s3 v16) (0,x21)).bind fun z28 =>
  (iV p0 z28).bind fun x29 =>
  if s19.2.1=true then
   (app s19.2.2 ([x29]:List Int)).bind fun x31 =>
   some (.inl ((w (s19.1+1)),true,x31))
  else
   (mV s19.2.2 x29).bind fun x32 =>
   (app s19.2.2 ([x29]:List Int)).bind fun x33 =>
   some (.inl ((w (s19.1+1)),x32,x33))
 else
  some (.inr (s19.2.1,s19.2.2))
def bM (p0:(List aj)) (p1:(List au)):Option (ay×Int) :=
 (dm p0).bind fun x1 =>
 if ¬ x1=0 then
  some ((ay.mk [] [] false),x1)
 else
  if ¬ (p1.length:Int)=(p0.length:Int) then
   some ((ay.mk [] [] false),32)
  else
   (dO (bM.s1 p0 p1) (0,[],[],[])).bind fun z15=>match z15 with
   | .inl v16 =>
    (fP v16.2.1).bind fun x17 =>
    if x17 > 512 then
     some ((ay.mk [] [] false),8)
    else
     (dO (bM.s2 p0 v16 x17) (0,false,[])).bind fun z35 =>
     some ((ay.mk v16.2.2 z35.2 z35.1),0)
   | .inr r37=>some r37
def aZ.j3 (s4:Int×List Int) (x6:ae) (a8:Bool×Bool×Bool×Bool×Bool×Bool) (a39:List Int):Option (Sum (Int×List Int) (Sum (List Int) Int)) :=
 if a8.2.2.2.2.2=true then
  (at_ a39 x6.B).bind fun x41 =>
  (at_ a39 x6.B).bind fun x42 =>
  some (.inl ((w (s4.1+1)),(a39.set x6.B.toNat (w (x41+1)))))
 else
  some (.inl ((w (s4.1+1)),a39))
def aZ.j2 (s4:Int×List Int) (x6:ae) (a8:Bool×Bool×Bool×Bool×Bool×Bool):Option (Sum (Int×List Int) (Sum (List Int) Int)) :=
 if (((((((!a8.1)&&(x6.Value != 0)) || ((!a8.2.1)&&(x6.Var != 0))) || ((!a8.2.2.1)&&(decide ((x6.Subscripts.length:Int) > 0)))) || ((!a8.2.2.2.1)&&(decide ((x6.Forms.length:Int) > 0)))) || ((!a8.2.2.2.2.1)&&(x6.A != 0))) || ((!a8.2.2.2.2.2)&&(x6.B != 0)))=true then
  some (.inr (.inr 3))
 else
  if ((a8.2.2.2.2.1&&(!(bV x6.A 0 (w (s4.1 - 1))))) || (a8.2.2.2.2.2&&(!(bV x6.B 0 (w (s4.1 - 1))))))=true then
   some (.inr (.inr 3))
  else
   if a8.2.2.2.2.1=true then
    (at_ s4.2 x6.A).bind fun x40 =>
    (at_ s4.2 x6.A).bind fun x41 =>
    aZ.j3 s4 x6 a8 (s4.2.set x6.A.toNat (w (x40+1)))
   else
    aZ.j3 s4 x6 a8 s4.2
def aZ.s1 (p0:(List ae)) (s4:Int×List Int):Option (Sum (Int×List Int) (Sum (List Int) Int)) :=
 if s4.1 < (p0.length:Int) then
  (at_ p0 s4.1).bind fun x6 =>
  if ¬ ((bV x6.Kind 0 9)=true) then
   some (.inr (.inr 15))
  else
   if x6.Kind=0 then
    aZ.j2 s4 x6 (true,false,false,false,false,false)
   else
    if x6.Kind=1 then
     aZ.j2 s4 x6 (false,true,true,false,false,false)
    else
     if x6.Kind=7 then
      aZ.j2 s4 x6 (false,false,false,false,true,false)
     else
      if x6.Kind=8 then
       aZ.j2 s4 x6 (false,true,false,false,false,false)
      else
       if x6.Kind=9 then
        aZ.j2 s4 x6 (false,true,false,true,false,false)
       else
        aZ.j2 s4 x6 (false,false,false,false,true,true)
 else
  some (.inr (.inl s4.2))
def aZ.s4 (p0:(List ae)) (v44:List Int) (s45:Int):Option (Sum Int (Sum Unit Int)) :=
 if s45 < (p0.length:Int) then
  (at_ v44 s45).bind fun x47 =>
  if ¬ x47=(qc (decide (s45 < (w ((p0.length:Int) - 1))))) then
   some (.inr (.inr 3))
  else
   some (.inl (w (s45+1)))
 else
  some (.inr (.inl ()))
def aZ (p0:(List ae)):Option Int :=
 if (p0.length:Int)=0 then
  some 17
 else
  if (p0.length:Int) > 40 then
   some 8
  else
   (EJ (p0.length:Int) 0).bind fun x3 =>
   (dO (aZ.s1 p0) (0,x3)).bind fun z43=>match z43 with
   | .inl v44 =>
    (dO (aZ.s4 p0 v44) 0).bind fun z49=>match z49 with
    | .inl v50 =>
     some 0
    | .inr r51=>some r51
   | .inr r52=>some r52
def dW.s1 (p1:(List ae)) (s3:Int):Option (Sum Int (Sum Unit ((List (List Int))×Int))) :=
 if s3 < (p1.length:Int) then
  (at_ p1 s3).bind fun x5 =>
  if x5.Kind=8 then
   some (.inr (.inr (([]:List (List Int)),15)))
  else
   (at_ p1 s3).bind fun x7 =>
   if x7.Kind=9 then
    some (.inr (.inr (([]:List (List Int)),15)))
   else
    some (.inl (w (s3+1)))
 else
  some (.inr (.inl ()))
def dW.s2 (p0:(List ag)) (p1:(List ae)) (s11:Int×List (List Int)):Option (Sum (Int×List (List Int)) (Sum (List (List Int)) ((List (List Int))×Int))) :=
 if s11.1 < (p1.length:Int) then
  (at_ p1 s11.1).bind fun x13 =>
  if x13.Kind=0 then
   if ¬ ((gZ x13.Value)=true) then
    some (.inr (.inr (([]:List (List Int)),2)))
   else
    (app s11.2 ([[]]:List (List Int))).bind fun x16 =>
    some (.inl ((w (s11.1+1)),x16))
  else
   if x13.Kind=1 then
    if ¬ ((bV x13.Var 0 (w ((p0.length:Int) - 1)))=true) then
     some (.inr (.inr (([]:List (List Int)),6)))
    else
     (at_ p0 x13.Var).bind fun x19 =>
     (bM x19.Bounds x13.Subscripts).bind fun x20 =>
     if ¬ x20.2=0 then
      some (.inr (.inr (([]:List (List Int)),x20.2)))
     else
      if (x20.1.Offsets.length:Int) > 60 then
       some (.inr (.inr (([]:List (List Int)),8)))
      else
       (app s11.2 ([x20.1.Extents]:List (List Int))).bind fun x23 =>
       some (.inl ((w (s11.1+1)),x23))
   else
    if x13.Kind=7 then
     (at_ s11.2 x13.A).bind fun x25 =>
     (app s11.2 ([x25]:List (List Int))).bind fun x26 =>
     some (.inl ((w (s11.1+1)),x26))
    else
     (at_ s11.2 x13.A).bind fun x27 =>
     (at_ s11.2 x13.B).bind fun x28 =>
     if ((decide ((x27.length:Int) > 0))&&(decide ((x28.length:Int) > 0)))=true then
      (lG x27 x28).bind fun x32 =>
      if ¬ (x32=true) then
       some (.inr (.inr (([]:List (List Int)),10)))
      else
       if (x27.length:Int)=0 then
        (app s11.2 ([x28]:List (List Int))).bind fun x35 =>
        some (.inl ((w (s11.1+1)),x35))
       else
        (app s11.2 ([x27]:List (List Int))).bind fun x36 =>
        some (.inl ((w (s11.1+1)),x36))
     else
      if (x27.length:Int)=0 then
       (app s11.2 ([x28]:List (List Int))).bind fun x38 =>
       some (.inl ((w (s11.1+1)),x38))
      else
       (app s11.2 ([x27]:List (List Int))).bind fun x39 =>
       some (.inl ((w (s11.1+1)),x39))
 else
  some (.inr (.inl s11.2))
def dW (p0:(List ag)) (p1:(List ae)):Option ((List (List Int))×Int) :=
 (aZ p1).bind fun x1 =>
 if ¬ x1=0 then
  some (([]:List (List Int)),x1)
 else
  (dO (dW.s1 p1) 0).bind fun z9=>match z9 with
  | .inl v10 =>
   (dO (dW.s2 p0 p1) (0,[])).bind fun z40=>match z40 with
   | .inl v41 =>
    some (v41,0)
   | .inr r42=>some r42
  | .inr r43=>some r43
def oM (p0:(List ag)) (p1:(List ae)) (p2:(List Int)):Option Int :=
 (dW p0 p1).bind fun x1 =>
 if ¬ x1.2=0 then
  some x1.2
 else
  (at_ x1.1 (w ((x1.1.length:Int) - 1))).bind fun x3 =>
  if (x3.length:Int) > 0 then
   (lG x3 p2).bind fun x5 =>
   if ¬ (x5=true) then
    some 10
   else
    some 0
  else
   some 0
def iK.j1 (p0:(List ag)) (p1:ai) (x5:ay×Int) (a11:Unit):Option (ay×Int) :=
 if (p1.Else.length:Int) > 0 then
  if (p1.Mask.length:Int)=0 then
   some ((ay.mk [] [] false),3)
  else
   (oM p0 p1.Else x5.1.Extents).bind fun x14 =>
   if ¬ x14=0 then
    some ((ay.mk [] [] false),x14)
   else
    some (x5.1,0)
 else
  some (x5.1,0)
def iK (p0:(List ag)) (p1:ai):Option (ay×Int) :=
 (gm p0).bind fun x1 =>
 if ¬ x1=0 then
  some ((ay.mk [] [] false),x1)
 else
  if ¬ ((bV p1.Var 0 (w ((p0.length:Int) - 1)))=true) then
   some ((ay.mk [] [] false),6)
  else
   (at_ p0 p1.Var).bind fun x4 =>
   (bM x4.Bounds p1.Subscripts).bind fun x5 =>
   if ¬ x5.2=0 then
    some ((ay.mk [] [] false),x5.2)
   else
    if (x5.1.Offsets.length:Int) > 60 then
     some ((ay.mk [] [] false),8)
    else
     if x5.1.ManyOne=true then
      some ((ay.mk [] [] false),23)
     else
      (oM p0 p1.Value x5.1.Extents).bind fun x9 =>
      if ¬ x9=0 then
       some ((ay.mk [] [] false),x9)
      else
       if (p1.Mask.length:Int) > 0 then
        (oM p0 p1.Mask x5.1.Extents).bind fun x12 =>
        if ¬ x12=0 then
         some ((ay.mk [] [] false),x12)
        else
         iK.j1 p0 p1 x5 ()
       else
        iK.j1 p0 p1 x5 ()
def kS (p0:(List aj)):Option (List aj) :=
 (app ([]:List aj) p0).bind fun x1 =>
 some x1
def sJ (p0:ag):Option ag :=
 (kS p0.Bounds).bind fun x1 =>
 (jI p0.Elements).bind fun x2 =>
 some (ag.mk x1 x2)
def dV.s1 (p0:(List ag)) (s1:Int×List ag):Option (Sum (Int×List ag) (List ag)) :=
 if s1.1 < (p0.length:Int) then
  (at_ p0 s1.1).bind fun x3 =>
  (sJ x3).bind fun x4 =>
  (app s1.2 ([x4]:List ag)).bind fun x5 =>
  some (.inl ((w (s1.1+1)),x5))
 else
  some (.inr s1.2)
def dV (p0:(List ag)):Option (List ag) :=
 (dO (dV.s1 p0) (0,[])).bind fun z6 =>
 some z6
def dB.s1 (p0:(List au)) (s1:Int×List au):Option (Sum (Int×List au) (List au)) :=
 if s1.1 < (p0.length:Int) then
  (at_ p0 s1.1).bind fun x3 =>
  (jI x3.List).bind fun x4 =>
  (app s1.2 ([(au.mk x3.Kind x3.Low x3.High x3.Step x4)]:List au)).bind fun x5 =>
  some (.inl ((w (s1.1+1)),x5))
 else
  some (.inr s1.2)
def dB (p0:(List au)):Option (List au) :=
 (dO (dB.s1 p0) (0,[])).bind fun z6 =>
 some z6
def fF.s1 (p0:(List aO)) (s1:Int×List aO):Option (Sum (Int×List aO) (List aO)) :=
 if s1.1 < (p0.length:Int) then
  (at_ p0 s1.1).bind fun x3 =>
  (jI x3.Coefs).bind fun x4 =>
  (at_ p0 s1.1).bind fun x5 =>
  (app s1.2 ([(aO.mk x4 x5.Const)]:List aO)).bind fun x6 =>
  some (.inl ((w (s1.1+1)),x6))
 else
  some (.inr s1.2)
def fF (p0:(List aO)):Option (List aO) :=
 (dO (fF.s1 p0) (0,[])).bind fun z7 =>
 some z7
def eY.s1 (p0:(List ae)) (s1:Int×List ae):Option (Sum (Int×List ae) (List ae)) :=
 if s1.1 < (p0.length:Int) then
  (at_ p0 s1.1).bind fun x3 =>
  (dB x3.Subscripts).bind fun x4 =>
  (fF x3.Forms).bind fun x5 =>
  (app s1.2 ([(ae.mk x3.Kind x3.Value x3.Var x3.A x3.B x4 x5)]:List ae)).bind fun x6 =>
  some (.inl ((w (s1.1+1)),x6))
 else
  some (.inr s1.2)
def eY (p0:(List ae)):Option (List ae) :=
 (dO (eY.s1 p0) (0,[])).bind fun z7 =>
 some z7
def jk (p0:ai):Option ai :=
 (dB p0.Subscripts).bind fun x1 =>
 (eY p0.Value).bind fun x2 =>
 (eY p0.Mask).bind fun x3 =>
 (eY p0.Else).bind fun x4 =>
 some (ai.mk p0.Var x1 x2 x3 x4)
def jY.s1 (p0:ag) (p1:ag) (s4:Int):Option (Sum Int (Sum Unit Bool)) :=
 if s4 < (p0.Bounds.length:Int) then
  (at_ p0.Bounds s4).bind fun x6 =>
  (at_ p1.Bounds s4).bind fun x7 =>
  if ¬ (((x6.Low==x7.Low)&&((x6.High==x7.High)&&true))=true) then
   some (.inr (.inr false))
  else
   some (.inl (w (s4+1)))
 else
  some (.inr (.inl ()))
def jY (p0:ag) (p1:ag):Option Bool :=
 if ¬ (p0.Bounds.length:Int)=(p1.Bounds.length:Int) then
  some false
 else
  (lG p0.Elements p1.Elements).bind fun x2 =>
  if ¬ (x2=true) then
   some false
  else
   (dO (jY.s1 p0 p1) 0).bind fun z9=>match z9 with
   | .inl v10 =>
    some true
   | .inr r11=>some r11
def eX.s1 (p0:(List ag)) (p1:(List ag)) (s2:Int):Option (Sum Int (Sum Unit Bool)) :=
 if s2 < (p0.length:Int) then
  (at_ p0 s2).bind fun x4 =>
  (at_ p1 s2).bind fun x5 =>
  (jY x4 x5).bind fun x6 =>
  if ¬ (x6=true) then
   some (.inr (.inr false))
  else
   some (.inl (w (s2+1)))
 else
  some (.inr (.inl ()))
def eX (p0:(List ag)) (p1:(List ag)):Option Bool :=
 if ¬ (p0.length:Int)=(p1.length:Int) then
  some false
 else
  (dO (eX.s1 p0 p1) 0).bind fun z8=>match z8 with
  | .inl v9 =>
   some true
  | .inr r10=>some r10
def bC.s2 (p0:(List ag)) (p1:ai) (x9:ay×Int) (x13:(List ag)×Int) (s24:Int) (s26:Int):Option (Sum Int (Sum Unit Bool)) :=
 (at_ p0 s24).bind fun x27 =>
 if s26 < (x27.Elements.length:Int) then
  if ¬ s24=p1.Var then
   (at_ x13.1 s24).bind fun x30 =>
   if s26≥(x30.Elements.length:Int) then
    some (.inr (.inr false))
   else
    (at_ x13.1 s24).bind fun x32 =>
    (at_ x32.Elements s26).bind fun x33 =>
    (at_ p0 s24).bind fun x34 =>
    (at_ x34.Elements s26).bind fun x35 =>
    if ¬ x33=x35 then
     some (.inr (.inr false))
    else
     some (.inl (w (s26+1)))
  else
   (mV x9.1.Offsets s26).bind fun x37 =>
   if ¬ (x37=true) then
    (at_ x13.1 s24).bind fun x39 =>
    if s26≥(x39.Elements.length:Int) then
     some (.inr (.inr false))
    else
     (at_ x13.1 s24).bind fun x41 =>
     (at_ x41.Elements s26).bind fun x42 =>
     (at_ p0 s24).bind fun x43 =>
     (at_ x43.Elements s26).bind fun x44 =>
     if ¬ x42=x44 then
      some (.inr (.inr false))
     else
      some (.inl (w (s26+1)))
   else
    some (.inl (w (s26+1)))
 else
  some (.inr (.inl ()))
def bC.s1 (p0:(List ag)) (p1:ai) (x9:ay×Int) (x13:(List ag)×Int) (s24:Int):Option (Sum Int (Sum Unit Bool)) :=
 if s24 < (p0.length:Int) then
  (dO (bC.s2 p0 p1 x9 x13 s24) 0).bind fun z46=>match z46 with
  | .inl v47 =>
   some (.inl (w (s24+1)))
  | .inr r48=>some (.inr (.inr r48))
 else
  some (.inr (.inl ()))
def bC (p0:(List ag)) (p1:ai) (p2:(List ae)):Option Bool :=
 (tC).bind fun x1 =>
 if ¬ (x1=true) then
  some false
 else
  (lN p0).bind fun x3 =>
  if ¬ (x3=true) then
   some true
  else
   (qL p1).bind fun x5 =>
   if ¬ (x5=true) then
    some true
   else
    (gU p2).bind fun x7 =>
    if ¬ (x7=true) then
     some true
    else
     (iK p0 (ai.mk p1.Var p1.Subscripts p1.Value [] [])).bind fun x9 =>
     if ¬ x9.2=0 then
      some true
     else
      (dV p0).bind fun x11 =>
      (jk (ai.mk p1.Var p1.Subscripts p1.Value [] [])).bind fun x12 =>
      (dZ x11 x12).bind fun x13 =>
      (dV p0).bind fun x14 =>
      (jk (ai.mk p1.Var p1.Subscripts p1.Value [(ae.mk 0 1 0 0 0 [] [])] [])).bind fun x15 =>
      (dZ x14 x15).bind fun x16 =>
      if ((x13.2 != 0) || (x16.2 != 0))=true then
       some false
      else
       (eX x13.1 x16.1).bind fun x20 =>
       if ((!x20) || ((x13.1.length:Int) != (p0.length:Int)))=true then
        some false
       else
        (dO (bC.s1 p0 p1 x9 x13) 0).bind fun z49=>match z49 with
        | .inl v50 =>
         (iK p0 (ai.mk p1.Var p1.Subscripts p2 [] [])).bind fun x51 =>
         if ¬ x51.2=0 then
          some true
         else
          (dV p0).bind fun x53 =>
          (jk (ai.mk p1.Var p1.Subscripts p1.Value [(ae.mk 0 0 0 0 0 [] [])] p2)).bind fun x54 =>
          (dZ x53 x54).bind fun x55 =>
          (dV p0).bind fun x56 =>
          (jk (ai.mk p1.Var p1.Subscripts p2 [] [])).bind fun x57 =>
          (dZ x56 x57).bind fun x58 =>
          if ((x55.2==0)&&(x58.2==0))=true then
           (eX x55.1 x58.1).bind fun x62 =>
           some x62
          else
           some false
        | .inr r63=>some r63
end Go.Sh
