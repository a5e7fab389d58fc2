/- Functions of the program in plain form: printed by a program of this session. Not trusted: the walks show that the program does what they say. -/
import Derived.Test.YtbgaclfkpjnmgaaGreatKit5
set_option linter.all false
namespace Go.Sh
open Go.Lx
set_option linter.unusedVariables false
structure ai where
 Low:Int
 High:Int
 deriving DecidableEq
structure ag where
 Bounds:(List ai)
 Elements:(List Int)
 deriving DecidableEq
structure aj where
 Kind:Int
 Low:Int
 High:Int
 Step:Int
 List:(List Int)
 deriving DecidableEq
structure aN where
 Coefs:(List Int)
 Const:Int
 deriving DecidableEq
structure ae where
 Kind:Int
 Value:Int
 Var:Int
 A:Int
 B:Int
 Subscripts:(List aj)
 Forms:(List aN)
 deriving DecidableEq
structure ay where
 Extents:(List Int)
 Offsets:(List Int)
 ManyOne:Bool
 deriving DecidableEq
structure bI where
 e:(List ae)
 sections:(List ay)
 shapes:(List (List Int))
 deriving DecidableEq
structure aZ where
 Var:Int
 Subscripts:(List aj)
 Value:(List ae)
 Mask:(List ae)
 Else:(List ae)
 deriving DecidableEq
structure aG where
 store:(List ag)
 at_:Int
 cells:(List Int)
 value:(Option bI)
 mask:(Option bI)
 less:(Option bI)
 deriving DecidableEq
structure aF where
 Writer:Int
 Reader:Int
 deriving DecidableEq
structure aA where
 holds:Bool
 code:Int
 deriving DecidableEq
structure az where
 holds:Bool
 code:Int
 deriving DecidableEq
structure yu where
 e0:Bool
 e1:Bool
 e2:Bool
 e3:Bool
 e4:Bool
 e5:Bool
 deriving DecidableEq
def lI (p0:Int) (p1:Int) (p2:Int):aj :=
 (aj.mk 1 p0 p1 p2 [])
def dZ (p0:Int) (p1:Int) (p2:Int):(List ae) :=
 [(ae.mk 1 0 0 0 0 [(lI p0 p1 p2)] [])]
def vH (p0:(List ae)) (p1:(List ae)):Option aZ :=
 (at_ p0 0).bind fun x1 =>
 some (aZ.mk 0 x1.Subscripts p1 [] [])
def iP:(List ag) :=
 [(ag.mk [(ai.mk 1 4)] [1,2,3,4])]
def aJ (p0:Int) (p1:Int) (p2:Int):Bool :=
 ((decide (p0≥p1))&&(decide (p0≤p2)))
def aI (p0:Int):Bool :=
 (aJ p0 (-2147483647) 2147483647)
def iD (p0:ai):Bool :=
 ((!(aI p0.Low)) || (!(aI p0.High)))
def aP.s1 (p0:(List ai)) (s1:Int):Option (Sum Int (Sum Unit Int)) :=
 if s1 < (p0.length:Int) then
  (at_ p0 s1).bind fun x3 =>
  if (iD x3)=true then
   some (.inr (.inr s1))
  else
   some (.inl (w (s1+1)))
 else
  some (.inr (.inl ()))
def aP (p0:(List ai)):Option Int :=
 (dG (aP.s1 p0) 0).bind fun z5=>match z5 with
 | .inl v6 =>
  some (-1)
 | .inr r7=>some r7
def bP (p0:(List ai)):Option Bool :=
 (aP p0).bind fun x1 =>
 some (decide (x1≥0))
def aC (p0:ai):Int :=
 (mx 0 (w ((w (p0.High - p0.Low))+1)))
def jm (p0:ai):Bool :=
 (decide ((aC p0) > 512))
def aO.s1 (p0:(List ai)) (s1:Int):Option (Sum Int (Sum Unit Int)) :=
 if s1 < (p0.length:Int) then
  (at_ p0 s1).bind fun x3 =>
  if (jm x3)=true then
   some (.inr (.inr s1))
  else
   some (.inl (w (s1+1)))
 else
  some (.inr (.inl ()))
def aO (p0:(List ai)):Option Int :=
 (dG (aO.s1 p0) 0).bind fun z5=>match z5 with
 | .inl v6 =>
  some (-1)
 | .inr r7=>some r7
def bQ (p0:(List ai)):Option Bool :=
 (aO p0).bind fun x1 =>
 some (decide (x1≥0))
def fC.s1 (p0:(List ai)) (s1:Int×List Int):Option (Sum (Int×List Int) (List Int)) :=
 if s1.1 < (p0.length:Int) then
  (at_ p0 s1.1).bind fun x3 =>
  (app s1.2 ([(aC x3)]:List Int)).bind fun x4 =>
  some (.inl ((w (s1.1+1)),x4))
 else
  some (.inr s1.2)
def fC (p0:(List ai)):Option (List Int) :=
 (dG (fC.s1 p0) (0,[])).bind fun z5 =>
 some z5
def slices_Index_int.s1 (p0:(List Int)) (p1:Int) (s1:Int):Option (Sum Int (Sum Unit Int)) :=
 if s1 < (p0.length:Int) then
  (at_ p0 s1).bind fun x3 =>
  if p1=x3 then
   some (.inr (.inr s1))
  else
   some (.inl (w (s1+1)))
 else
  some (.inr (.inl ()))
def slices_Index_int (p0:(List Int)) (p1:Int):Option Int :=
 (dG (slices_Index_int.s1 p0 p1) 0).bind fun z5=>match z5 with
 | .inl v6 =>
  some (-1)
 | .inr r7=>some r7
def slices_Contains_int (p0:(List Int)) (p1:Int):Option Bool :=
 (slices_Index_int p0 p1).bind fun x1 =>
 some (decide (x1≥0))
def fE.s1 (p0:(List Int)) (s1:Int×Int):Option (Sum (Int×Int) Int) :=
 if s1.2 < (p0.length:Int) then
  (at_ p0 s1.2).bind fun x3 =>
  some (.inl ((mn (w (s1.1 * (mn x3 513))) 513),(w (s1.2+1))))
 else
  some (.inr s1.1)
def fE (p0:(List Int)):Option Int :=
 (dG (fE.s1 p0) (1,0)).bind fun z4 =>
 (slices_Contains_int p0 0).bind fun x5 =>
 if x5=true then
  some 0
 else
  some z4
def oU (p0:(List ai)):Option Int :=
 (fC p0).bind fun x1 =>
 (fE x1).bind fun x2 =>
 some x2
def dF.s1 (p0:(List az)) (s1:Int):Option (Sum Int (Sum Unit Int)) :=
 if s1 < (p0.length:Int) then
  (at_ p0 s1).bind fun x3 =>
  if ¬ (x3.holds=true) then
   some (.inr (.inr x3.code))
  else
   some (.inl (w (s1+1)))
 else
  some (.inr (.inl ()))
def dF (p0:(List az)):Option Int :=
 (dG (dF.s1 p0) 0).bind fun z5=>match z5 with
 | .inl v6 =>
  some 0
 | .inr r7=>some r7
def jA (p0:(List ai)):Option Int :=
 if (p0.length:Int) > 7 then
  some 32
 else
  (bP p0).bind fun x2 =>
  if x2=true then
   some 2
  else
   (bQ p0).bind fun x4 =>
   if ¬ (x4=true) then
    (oU p0).bind fun x6 =>
    (dF [(az.mk (decide (x6≤512)) 8)]).bind fun x7 =>
    some x7
   else
    (dF [(az.mk false 8)]).bind fun x8 =>
    some x8
def bK (p0:Int):Bool :=
 (aJ p0 (-2147483648) 2147483647)
def jM (p0:Int) (p1:Int):Option Int :=
 (dF [(az.mk (bK p1) 2)]).bind fun x1 =>
 some x1
def aT.s1 (p0:(List Int)) (s1:Int):Option (Sum Int (Sum Unit (Int×Int))) :=
 if s1 < (p0.length:Int) then
  (at_ p0 s1).bind fun x3 =>
  (jM s1 x3).bind fun x4 =>
  if ¬ x4=0 then
   some (.inr (.inr (s1,x4)))
  else
   some (.inl (w (s1+1)))
 else
  some (.inr (.inl ()))
def aT (p0:(List Int)):Option (Int×Int) :=
 (dG (aT.s1 p0) 0).bind fun z6=>match z6 with
 | .inl v7 =>
  some (0,0)
 | .inr r8=>some r8
def jR (p0:ag):Option (Int×Int) :=
 (jA p0.Bounds).bind fun x1 =>
 if ¬ x1=0 then
  some (0,x1)
 else
  (oU p0.Bounds).bind fun x3 =>
  if ¬ (p0.Elements.length:Int)=x3 then
   some (0,10)
  else
   (aT p0.Elements).bind fun x5 =>
   some (x5.1,x5.2)
def lV (p0:Int) (p1:ag):Option Int :=
 (jR p1).bind fun x1 =>
 some x1.2
def aQ.s1 (p0:(List ag)) (s1:Int):Option (Sum Int (Sum Unit (Int×Int))) :=
 if s1 < (p0.length:Int) then
  (at_ p0 s1).bind fun x3 =>
  (lV s1 x3).bind fun x4 =>
  if ¬ x4=0 then
   some (.inr (.inr (s1,x4)))
  else
   some (.inl (w (s1+1)))
 else
  some (.inr (.inl ()))
def aQ (p0:(List ag)):Option (Int×Int) :=
 (dG (aQ.s1 p0) 0).bind fun z6=>match z6 with
 | .inl v7 =>
  some (0,0)
 | .inr r8=>some r8
def jJ (p0:(List ag)):Option Int :=
 if (p0.length:Int) > 6 then
  some 8
 else
  (aQ p0).bind fun x2 =>
  some x2.2
def aU (p0:Int) (p1:Int) (p2:Int):Bool :=
 ((decide (p0≥p1))&&(decide (p0≤p2)))
def jf (p0:aj):Option Int :=
 if ¬ ((aJ p0.Kind 0 2)=true) then
  some 15
 else
  if ¬ (p0.Kind=1) then
   if (aI p0.Low)=true then
    if (aI p0.High)=true then
     (dF [(az.mk ((((p0.Kind != 2) || (p0.Low==0))&&((p0.Kind==1) || ((p0.High==0)&&(p0.Step==0))))&&((p0.Kind==2) || ((p0.List.length:Int)==0))) 3),(az.mk true 11),(az.mk (aI p0.Step) 2)]).bind fun x17 =>
     some x17
    else
     (dF [(az.mk ((((p0.Kind != 2) || (p0.Low==0))&&((p0.Kind==1) || ((p0.High==0)&&(p0.Step==0))))&&((p0.Kind==2) || ((p0.List.length:Int)==0))) 3),(az.mk true 11),(az.mk false 2)]).bind fun x18 =>
     some x18
   else
    (dF [(az.mk ((((p0.Kind != 2) || (p0.Low==0))&&((p0.Kind==1) || ((p0.High==0)&&(p0.Step==0))))&&((p0.Kind==2) || ((p0.List.length:Int)==0))) 3),(az.mk true 11),(az.mk false 2)]).bind fun x19 =>
    some x19
  else
   if (aI p0.Low)=true then
    if (aI p0.High)=true then
     (dF [(az.mk ((((p0.Kind != 2) || (p0.Low==0))&&((p0.Kind==1) || ((p0.High==0)&&(p0.Step==0))))&&((p0.Kind==2) || ((p0.List.length:Int)==0))) 3),(az.mk (p0.Step != 0) 11),(az.mk (aI p0.Step) 2)]).bind fun x22 =>
     some x22
    else
     (dF [(az.mk ((((p0.Kind != 2) || (p0.Low==0))&&((p0.Kind==1) || ((p0.High==0)&&(p0.Step==0))))&&((p0.Kind==2) || ((p0.List.length:Int)==0))) 3),(az.mk (p0.Step != 0) 11),(az.mk false 2)]).bind fun x23 =>
     some x23
   else
    (dF [(az.mk ((((p0.Kind != 2) || (p0.Low==0))&&((p0.Kind==1) || ((p0.High==0)&&(p0.Step==0))))&&((p0.Kind==2) || ((p0.List.length:Int)==0))) 3),(az.mk (p0.Step != 0) 11),(az.mk false 2)]).bind fun x24 =>
    some x24
def pI (p0:aj):Option Int :=
 if p0.Step > 0 then
  (quo .i64 (w ((w (p0.High - p0.Low))+p0.Step)) p0.Step).bind fun x2 =>
  some (mx 0 x2)
 else
  (quo .i64 (w ((w (p0.Low - p0.High)) - p0.Step)) (w (0 - p0.Step))).bind fun x3 =>
  some (mx 0 x3)
def slices_Clone_int (p0:(List Int)):Option (List Int) :=
 (app ([]:List Int) p0).bind fun x1 =>
 some x1
def jS (p0:Int) (p1:ai):Bool :=
 (!(aJ p0 p1.Low p1.High))
def aV.s1 (p0:(List Int)) (p1_0:ai) (s1:Int):Option (Sum Int (Sum Unit Int)) :=
 if s1 < (p0.length:Int) then
  (at_ p0 s1).bind fun x3 =>
  if (jS x3 p1_0)=true then
   some (.inr (.inr s1))
  else
   some (.inl (w (s1+1)))
 else
  some (.inr (.inl ()))
def aV (p0:(List Int)) (p1_0:ai):Option Int :=
 (dG (aV.s1 p0 p1_0) 0).bind fun z5=>match z5 with
 | .inl v6 =>
  some (-1)
 | .inr r7=>some r7
def dH (p0:(List Int)) (p1_0:ai):Option Bool :=
 (aV p0 p1_0).bind fun x1 =>
 some (decide (x1≥0))
def dA.j1 (p0:ai) (a3:(List Int)):Option ((List Int)×Int) :=
 (dH a3 p0).bind fun x4 =>
 if x4=true then
  some (([]:List Int),33)
 else
  some (a3,0)
def dA.s2 (p1:aj) (x5:Int) (s7:Int×List Int):Option (Sum (Int×List Int) (List Int)) :=
 if s7.1 < x5 then
  (app s7.2 ([(w (p1.Low+(w (s7.1 * p1.Step))))]:List Int)).bind fun x9 =>
  some (.inl ((w (s7.1+1)),x9))
 else
  some (.inr s7.2)
def dA (p0:ai) (p1:aj):Option ((List Int)×Int) :=
 (jf p1).bind fun x1 =>
 if ¬ x1=0 then
  some (([]:List Int),x1)
 else
  if p1.Kind=0 then
   dA.j1 p0 [p1.Low]
  else
   if p1.Kind=1 then
    (pI p1).bind fun x5 =>
    if x5 > 512 then
     some (([]:List Int),8)
    else
     (dG (dA.s2 p1 x5) (0,[])).bind fun z10 =>
     dA.j1 p0 z10
   else
    if (p1.List.length:Int) > 512 then
     some (([]:List Int),8)
    else
     (slices_Clone_int p1.List).bind fun x13 =>
     dA.j1 p0 x13
def fU.s1 (p0:(List Int)) (s1:Int×Int×List Int):Option (Sum (Int×Int×List Int) (List Int)) :=
 if s1.2.1 < (p0.length:Int) then
  (at_ p0 s1.2.1).bind fun x3 =>
  (app s1.2.2 ([s1.1]:List Int)).bind fun x4 =>
  some (.inl ((w (s1.1 * x3)),(w (s1.2.1+1)),x4))
 else
  some (.inr s1.2.2)
def fU (p0:(List Int)):Option (List Int) :=
 (dG (fU.s1 p0) (1,0,[])).bind fun z5 =>
 some z5
def gJ.s1 (p0:(List Int)) (s1:Int×Int×List Int):Option (Sum (Int×Int×List Int) (List Int)) :=
 if s1.2.1 < (p0.length:Int) then
  (at_ p0 s1.2.1).bind fun x3 =>
  (rem s1.1 x3).bind fun x4 =>
  (app s1.2.2 ([x4]:List Int)).bind fun x5 =>
  (quo .i64 s1.1 x3).bind fun x6 =>
  some (.inl (x6,(w (s1.2.1+1)),x5))
 else
  some (.inr s1.2.2)
def gJ (p0:(List Int)) (p1:Int):Option (List Int) :=
 (dG (gJ.s1 p0) (p1,0,[])).bind fun z7 =>
 some z7
def bM.s1 (p0:(List ai)) (p1:(List aj)) (s2:Int×List Int×List (List Int)×List Int):Option (Sum (Int×List Int×List (List Int)×List Int) (Sum (List Int×List (List Int)×List Int) (ay×Int))) :=
 if s2.1 < (p1.length:Int) then
  (at_ p1 s2.1).bind fun x4 =>
  (at_ p0 s2.1).bind fun x5 =>
  (dA x5 x4).bind fun x6 =>
  if ¬ x6.2=0 then
   some (.inr (.inr ((ay.mk [] [] false),x6.2)))
  else
   (app s2.2.2.1 ([x6.1]:List (List Int))).bind fun x8 =>
   (app s2.2.2.2 ([(x6.1.length:Int)]:List Int)).bind fun x9 =>
   if ¬ x4.Kind=0 then
    (app s2.2.1 ([(x6.1.length:Int)]:List Int)).bind fun x11 =>
    some (.inl ((w (s2.1+1)),x11,x8,x9))
   else
    some (.inl ((w (s2.1+1)),s2.2.1,x8,x9))
 else
  some (.inr (.inl (s2.2.1,s2.2.2.1,s2.2.2.2)))
def bM.s3 (p0:(List ai)) (v13:List Int×List (List Int)×List Int) (x17:(List Int)) (x20:(List Int)) (s21:Int×Int):Option (Sum (Int×Int) Int) :=
 if s21.2 < (x20.length:Int) then
  (at_ x20 s21.2).bind fun x23 =>
  (at_ x17 s21.2).bind fun x24 =>
  (at_ v13.2.1 s21.2).bind fun x25 =>
  (at_ x25 x23).bind fun x26 =>
  (at_ p0 s21.2).bind fun x27 =>
  some (.inl ((w (s21.1+(w (x24 * (w (x26 - x27.Low)))))),(w (s21.2+1))))
 else
  some (.inr s21.1)
def bM.s2 (p0:(List ai)) (v13:List Int×List (List Int)×List Int) (x14:Int) (x17:(List Int)) (s18:Int×Bool×List Int×List (Int×Bool)):Option (Sum (Int×Bool×List Int×List (Int×Bool)) (Bool×List Int)) :=
 if s18.1 < x14 then
  (gJ v13.2.2 s18.1).bind fun x20 =>
  (dG (bM.s3 p0 v13 x17 x20) (0,0)).bind fun z28 =>
  (app s18.2.2.1 ([z28]:List Int)).bind fun x31 =>
  some (.inl ((w (s18.1+1)),(s18.2.1 || ((Jh s18.2.2.2 z28).getD false)),x31,(QZ s18.2.2.2 z28 true)))
 else
  some (.inr (s18.2.1,s18.2.2.1))
def bM (p0:(List ai)) (p1:(List aj)):Option (ay×Int) :=
 if ¬ (p1.length:Int)=(p0.length:Int) then
  some ((ay.mk [] [] false),32)
 else
  (dG (bM.s1 p0 p1) (0,[],[],[])).bind fun z12=>match z12 with
  | .inl v13 =>
   (fE v13.2.2).bind fun x14 =>
   if x14 > 512 then
    some ((ay.mk [] [] false),8)
   else
    (fC p0).bind fun x16 =>
    (fU x16).bind fun x17 =>
    (dG (bM.s2 p0 v13 x14 x17) (0,false,[],[])).bind fun z33 =>
    some ((ay.mk v13.1 z33.2 z33.1),0)
  | .inr r35=>some r35
def kM (p0:(List ai)) (p1:(List aj)):Option (ay×Int) :=
 (jA p0).bind fun x1 =>
 if ¬ x1=0 then
  some ((ay.mk [] [] false),x1)
 else
  (bM p0 p1).bind fun x3 =>
  some (x3.1,x3.2)
def dB.s1 (p0:(List aA)) (s1:Int):Option (Sum Int (Sum Unit Int)) :=
 if s1 < (p0.length:Int) then
  (at_ p0 s1).bind fun x3 =>
  if ¬ (x3.holds=true) then
   some (.inr (.inr x3.code))
  else
   some (.inl (w (s1+1)))
 else
  some (.inr (.inl ()))
def dB (p0:(List aA)):Option Int :=
 (dG (dB.s1 p0) 0).bind fun z5=>match z5 with
 | .inl v6 =>
  some 0
 | .inr r7=>some r7
def dS.s1 (p0:(List Int)) (s1:Int):Option (Sum Int (Sum Unit Int)) :=
 if s1 < (p0.length:Int) then
  (at_ p0 s1).bind fun x3 =>
  if ¬ x3=0 then
   some (.inr (.inr x3))
  else
   some (.inl (w (s1+1)))
 else
  some (.inr (.inl ()))
def dS (p0:(List Int)):Option Int :=
 (dG (dS.s1 p0) 0).bind fun z5=>match z5 with
 | .inl v6 =>
  some 0
 | .inr r7=>some r7
def jW (p0:(List ag)) (p1:Int) (p2:(List aj)):Option (ay×Int) :=
 if ¬ ((aU p1 0 (w ((p0.length:Int) - 1)))=true) then
  some ((ay.mk [] [] false),6)
 else
  (at_ p0 p1).bind fun x2 =>
  (kM x2.Bounds p2).bind fun x3 =>
  (dB [(aA.mk (decide ((x3.1.Offsets.length:Int)≤60)) 8)]).bind fun x4 =>
  (dS [x3.2,x4]).bind fun x5 =>
  some (x3.1,x5)
def lw (p0:ae):Bool :=
 ((p0.Kind==8) || (p0.Kind==9))
def aB.s1 (p0:(List ae)) (s1:Int):Option (Sum Int (Sum Unit Int)) :=
 if s1 < (p0.length:Int) then
  (at_ p0 s1).bind fun x3 =>
  if (lw x3)=true then
   some (.inr (.inr s1))
  else
   some (.inl (w (s1+1)))
 else
  some (.inr (.inl ()))
def aB (p0:(List ae)):Option Int :=
 (dG (aB.s1 p0) 0).bind fun z5=>match z5 with
 | .inl v6 =>
  some (-1)
 | .inr r7=>some r7
def bz (p0:(List ae)):Option Bool :=
 (aB p0).bind fun x1 =>
 some (decide (x1≥0))
def aS (p0:Int):Bool :=
 ((decide (p0≥2))&&(decide (p0≤6)))
def bY (p0:ae):(List Int) :=
 if (aS p0.Kind)=true then
  [p0.A,p0.B]
 else
  if p0.Kind=7 then
   [p0.A]
  else
   ([]:List Int)
def eX.j1 (p0:ae) (a1:Bool):Option Bool :=
 some (((((((p0.Kind==0) || (p0.Value==0))&&(a1 || (p0.Var==0)))&&((aS p0.Kind) || (p0.B==0)))&&(((aS p0.Kind) || (p0.Kind==7)) || (p0.A==0)))&&((p0.Kind==1) || ((p0.Subscripts.length:Int)==0)))&&((p0.Kind==9) || ((p0.Forms.length:Int)==0)))
def eX (p0:ae):Option Bool :=
 if p0.Kind=1 then
  eX.j1 p0 true
 else
  if p0.Kind=8 then
   eX.j1 p0 true
  else
   eX.j1 p0 (p0.Kind==9)
def eu.s1 (p0:Int) (p1:ae) (s2:Int×List Int):Option (Sum (Int×List Int) (Sum (List Int) (Int×List Int))) :=
 if s2.1 < ((bY p1).length:Int) then
  (at_ (bY p1) s2.1).bind fun x4 =>
  if ¬ ((aU x4 0 (w (p0 - 1)))=true) then
   some (.inr (.inr (3,s2.2)))
  else
   (at_ s2.2 x4).bind fun x6 =>
   (at_ s2.2 x4).bind fun x7 =>
   some (.inl ((w (s2.1+1)),(s2.2.set x4.toNat (w (x6+1)))))
 else
  some (.inr (.inl s2.2))
def eu (p0:Int) (p1:ae) (b1:(List Int)):Option (Int×List Int) :=
 if ¬ ((aU p1.Kind 0 9)=true) then
  some (15,b1)
 else
  (dG (eu.s1 p0 p1) (0,b1)).bind fun z8=>match z8 with
  | .inl v9 =>
   (eX p1).bind fun x10 =>
   (dB [(aA.mk x10 3)]).bind fun x11 =>
   some (x11,v9)
  | .inr r12=>some r12
def aH.s1 (p0:(List ae)) (s1:Int×List Int):Option (Sum (Int×List Int) (Sum (List Int) (Int×Int×List Int))) :=
 if s1.1 < (p0.length:Int) then
  (at_ p0 s1.1).bind fun x3 =>
  (eu s1.1 x3 s1.2).bind fun x4 =>
  if ¬ x4.1=0 then
   some (.inr (.inr (s1.1,x4.1,x4.2)))
  else
   some (.inl ((w (s1.1+1)),x4.2))
 else
  some (.inr (.inl s1.2))
def aH (p0:(List ae)) (b1:(List Int)):Option (Int×Int×List Int) :=
 (dG (aH.s1 p0) (0,b1)).bind fun z6=>match z6 with
 | .inl v7 =>
  some (0,0,v7)
 | .inr r8=>some r8
def mP (p0:Int) (p1:Int) (p2:Int):Option Int :=
 (dB [(aA.mk (((p0==p2)&&(p1==0)) || ((p0 != p2)&&(p1==1))) 3)]).bind fun x7 =>
 some x7
def aW.s1 (p0:(List Int)) (p1_0:Int) (s1:Int):Option (Sum Int (Sum Unit (Int×Int))) :=
 if s1 < (p0.length:Int) then
  (at_ p0 s1).bind fun x3 =>
  (mP s1 x3 p1_0).bind fun x4 =>
  if ¬ x4=0 then
   some (.inr (.inr (s1,x4)))
  else
   some (.inl (w (s1+1)))
 else
  some (.inr (.inl ()))
def aW (p0:(List Int)) (p1_0:Int):Option (Int×Int) :=
 (dG (aW.s1 p0 p1_0) 0).bind fun z6=>match z6 with
 | .inl v7 =>
  some (0,0)
 | .inr r8=>some r8
def nZ (p0:(List ae)):Option Int :=
 (dB [(aA.mk (decide ((p0.length:Int) > 0)) 17),(aA.mk (decide ((p0.length:Int)≤40)) 8)]).bind fun x1 =>
 if ¬ x1=0 then
  some x1
 else
  (Et (p0.length:Int) 0).bind fun x3 =>
  (aH p0 x3).bind fun x4 =>
  if ¬ x4.2.1=0 then
   some x4.2.1
  else
   (aW x4.2.2 (w ((p0.length:Int) - 1))).bind fun x6 =>
   some x6.2
def slices_Equal_int.s1 (p0:(List Int)) (p1:(List Int)) (s2:Int):Option (Sum Int (Sum Unit Bool)) :=
 if s2 < (p0.length:Int) then
  (at_ p0 s2).bind fun x4 =>
  (at_ p1 s2).bind fun x5 =>
  if ¬ x4=x5 then
   some (.inr (.inr false))
  else
   some (.inl (w (s2+1)))
 else
  some (.inr (.inl ()))
def slices_Equal_int (p0:(List Int)) (p1:(List Int)):Option Bool :=
 if ¬ (p0.length:Int)=(p1.length:Int) then
  some false
 else
  (dG (slices_Equal_int.s1 p0 p1) 0).bind fun z7=>match z7 with
  | .inl v8 =>
   some true
  | .inr r9=>some r9
def qM (p0:(List Int)) (p1:(List Int)):Option ((List Int)×Bool) :=
 if (p0.length:Int)=0 then
  some (p1,true)
 else
  if (p1.length:Int)=0 then
   some (p0,true)
  else
   (slices_Equal_int p0 p1).bind fun x3 =>
   some (p0,x3)
def ku (p0:Int) (p1:ae) (p2:(List ag)) (pb1_0:(List ae)) (b2:(List ay)) (b3:(List (List Int))):Option (Int×List ay×List (List Int)) :=
 if p1.Kind=0 then
  (dB [(aA.mk (aU p1.Value (-2147483648) 2147483647) 2)]).bind fun x2 =>
  some (x2,b2,b3)
 else
  if p1.Kind=1 then
   (jW p2 p1.Var p1.Subscripts).bind fun x4 =>
   (at_ b2 p0).bind fun x5 =>
   (at_ b3 p0).bind fun x6 =>
   some (x4.2,(b2.set p0.toNat x4.1),(b3.set p0.toNat x4.1.Extents))
  else
   if p1.Kind=7 then
    (at_ b3 p1.A).bind fun x8 =>
    (at_ b3 p0).bind fun x9 =>
    some (0,b2,(b3.set p0.toNat x8))
   else
    (at_ b3 p1.A).bind fun x10 =>
    (at_ b3 p1.B).bind fun x11 =>
    (qM x10 x11).bind fun x12 =>
    (at_ b3 p0).bind fun x13 =>
    (dB [(aA.mk x12.2 10)]).bind fun x14 =>
    some (x14,b2,(b3.set p0.toNat x12.1))
def aK.s1 (p0:(List ae)) (p1_0:(List ag)) (pb1_0:(List ae)) (s1:Int×List ay×List (List Int)):Option (Sum (Int×List ay×List (List Int)) (Sum (List ay×List (List Int)) (Int×Int×List ay×List (List Int)))) :=
 if s1.1 < (p0.length:Int) then
  (at_ p0 s1.1).bind fun x3 =>
  (ku s1.1 x3 p1_0 pb1_0 s1.2.1 s1.2.2).bind fun x4 =>
  if ¬ x4.1=0 then
   some (.inr (.inr (s1.1,x4.1,x4.2.1,x4.2.2)))
  else
   some (.inl ((w (s1.1+1)),x4.2.1,x4.2.2))
 else
  some (.inr (.inl (s1.2.1,s1.2.2)))
def aK (p0:(List ae)) (p1_0:(List ag)) (pb1_0:(List ae)) (b2:(List ay)) (b3:(List (List Int))):Option (Int×Int×List ay×List (List Int)) :=
 (dG (aK.s1 p0 p1_0 pb1_0) (0,b2,b3)).bind fun z6=>match z6 with
 | .inl v7 =>
  some (0,0,v7.1,v7.2)
 | .inr r8=>some r8
def lG (p0:(List ag)) (p1:(List ae)):Option ((Option bI)×Int) :=
 (bz p1).bind fun x1 =>
 (nZ p1).bind fun x2 =>
 (dB [(aA.mk (!x1) 15)]).bind fun x3 =>
 (dS [x2,x3]).bind fun x4 =>
 if ¬ x4=0 then
  some (none,x4)
 else
  (Et (p1.length:Int) (ay.mk [] [] false)).bind fun x6 =>
  (Et (p1.length:Int) []).bind fun x7 =>
  (aK p1 p0 p1 x6 x7).bind fun x8 =>
  some ((some (bI.mk p1 x8.2.2.1 x8.2.2.2)),x8.2.1)
def ig (p0:(Option bI)):Option (List Int) :=
 (p0).bind fun x1 =>
 (at_ x1.shapes (w ((x1.shapes.length:Int) - 1))).bind fun x2 =>
 some x2
def sS (p0:(List ag)) (p1:(List ae)) (p2:(List Int)):Option ((Option bI)×Int) :=
 (lG p0 p1).bind fun x1 =>
 if ¬ x1.2=0 then
  none
 else
  (ig x1.1).bind fun x3 =>
  if (x3.length:Int)=0 then
   none
  else
   (slices_Equal_int x3 p2).bind fun x5 =>
   (dB [(aA.mk x5 10)]).bind fun x6 =>
   some (x1.1,x6)
def oV (p0:(List ag)) (p1:aZ):Option ((Option aG)×Int) :=
 (jJ p0).bind fun x1 =>
 if ¬ x1=0 then
  none
 else
  (jW p0 p1.Var p1.Subscripts).bind fun x3 =>
  (dB [(aA.mk (!x3.1.ManyOne) 23)]).bind fun x4 =>
  (dS [x3.2,x4]).bind fun x5 =>
  if ¬ x5=0 then
   none
  else
   (sS p0 p1.Value x3.1.Extents).bind fun x7 =>
   if ¬ x7.2=0 then
    none
   else
    if (p1.Mask.length:Int) > 0 then
     none
    else
     if (p1.Else.length:Int) > 0 then
      none
     else
      some ((some (aG.mk p0 p1.Var x3.1.Offsets x7.1 none none)),0)
def kY (p0:(List ai)):Option (List ai) :=
 (app ([]:List ai) p0).bind fun x1 =>
 some x1
def lD.s1 (p0:(List ag)) (s1:Int×List ag):Option (Sum (Int×List ag) (List ag)) :=
 if s1.1 < (p0.length:Int) then
  (at_ p0 s1.1).bind fun x3 =>
  (kY x3.Bounds).bind fun x4 =>
  (slices_Clone_int x3.Elements).bind fun x5 =>
  (app s1.2 [(ag.mk x4 x5)]).bind fun x6 =>
  some (.inl ((w (s1.1+1)),x6))
 else
  some (.inr s1.2)
def lD (p0:(List ag)):Option (List ag) :=
 (dG (lD.s1 p0) (0,[])).bind fun z7 =>
 some z7
def fH (p0:(Option aG)) (p1:Int):Option (Option bI) :=
 (p0).bind fun x1 =>
 if (x1.mask).isNone=true then
  some x1.value
 else
  none
def lK (p0:ay) (p1:Int):Option Int :=
 if (p0.Extents.length:Int)=0 then
  (at_ p0.Offsets 0).bind fun x2 =>
  some x2
 else
  (at_ p0.Offsets p1).bind fun x3 =>
  some x3
def ji (p0:Bool):Int :=
 if p0=true then
  1
 else
  0
def iF (p0:Int) (p1:Int) (p2:Int):Int :=
 if p0=2 then
  (IntKind.i32.wrap (p1+p2))
 else
  if p0=3 then
   (IntKind.i32.wrap (p1 - p2))
  else
   if p0=4 then
    (IntKind.i32.wrap (p1 * p2))
   else
    if p0=5 then
     (ji (decide (p1 < p2)))
    else
     if p0=6 then
      (ji (p1==p2))
     else
      (ji (p1==0))
def dR.s1 (p1:(List ag)) (p2:Int) (x1:bI) (s3:Int×List Int):Option (Sum (Int×List Int) (List Int)) :=
 if s3.1 < (x1.e.length:Int) then
  (at_ x1.e s3.1).bind fun x5 =>
  if x5.Kind=0 then
   (at_ s3.2 s3.1).bind fun x7 =>
   some (.inl ((w (s3.1+1)),(s3.2.set s3.1.toNat (IntKind.i32.wrap x5.Value))))
  else
   if x5.Kind=1 then
    (at_ p1 x5.Var).bind fun x9 =>
    (at_ x1.sections s3.1).bind fun x10 =>
    (lK x10 p2).bind fun x11 =>
    (at_ x9.Elements x11).bind fun x12 =>
    (at_ s3.2 s3.1).bind fun x13 =>
    some (.inl ((w (s3.1+1)),(s3.2.set s3.1.toNat (IntKind.i32.wrap x12))))
   else
    (at_ s3.2 x5.A).bind fun x14 =>
    (at_ s3.2 x5.B).bind fun x15 =>
    (at_ s3.2 s3.1).bind fun x16 =>
    some (.inl ((w (s3.1+1)),(s3.2.set s3.1.toNat (iF x5.Kind x14 x15))))
 else
  some (.inr s3.2)
def dR (p0:(Option bI)) (p1:(List ag)) (p2:Int):Option Int :=
 (p0).bind fun x1 =>
 (Et (x1.e.length:Int) 0).bind fun x2 =>
 (dG (dR.s1 p1 p2 x1) (0,x2)).bind fun z17 =>
 (at_ z17 (w ((z17.length:Int) - 1))).bind fun x18 =>
 some (w x18)
def kW.s1 (p0:(List ag)) (x1:(Option aG)×Int) (x4:aG) (s5:Int×List ag):Option (Sum (Int×List ag) (List ag)) :=
 if s5.1 < (x4.cells.length:Int) then
  (at_ x4.cells s5.1).bind fun x7 =>
  (fH x1.1 s5.1).bind fun x8 =>
  if (x8).isSome=true then
   (at_ s5.2 x4.at_).bind fun x10 =>
   (dR x8 p0 s5.1).bind fun x11 =>
   (at_ x10.Elements x7).bind fun x12 =>
   some (.inl ((w (s5.1+1)),(s5.2.set x4.at_.toNat ({ x10 with Elements:=(x10.Elements.set x7.toNat x11) }:ag))))
  else
   none
 else
  some (.inr s5.2)
def kW (p0:(List ag)) (p1:aZ):Option ((List ag)×Int) :=
 (oV p0 p1).bind fun x1 =>
 if ¬ x1.2=0 then
  none
 else
  (lD p0).bind fun x3 =>
  (x1.1).bind fun x4 =>
  (dG (kW.s1 p0 x1 x4) (0,x3)).bind fun z13 =>
  some (z13,0)
def iJ (p0_0:List Int):Option (List Int):=BM p0_0
def jV.s1 (x4:(List Int)) (s5:Bool×Int):Option (Sum (Bool×Int) Bool) :=
 if s5.2 < (x4.length:Int) then
  (at_ x4 s5.2).bind fun x7 =>
  some (.inl ((s5.1&&(x7==s5.2)),(w (s5.2+1))))
 else
  some (.inr s5.1)
def jV (p0:(List ag)) (p1:aZ) (p2:(List Int)):Option ((Option aG)×Int) :=
 (oV p0 p1).bind fun x1 =>
 if ¬ x1.2=0 then
  none
 else
  (x1.1).bind fun x3 =>
  (iJ p2).bind fun x4 =>
  (dG (jV.s1 x4) (((p2.length:Int)==(x3.cells.length:Int)),0)).bind fun z10 =>
  (dB [(aA.mk z10 3)]).bind fun x11 =>
  some (x1.1,x11)
def lX.s1 (p2:(List Int)) (x1:(Option aG)×Int) (s4:Int×List ag):Option (Sum (Int×List ag) (List ag)) :=
 if s4.1 < (p2.length:Int) then
  (at_ p2 s4.1).bind fun x6 =>
  (fH x1.1 x6).bind fun x7 =>
  if (x7).isSome=true then
   (x1.1).bind fun x9 =>
   (at_ s4.2 x9.at_).bind fun x10 =>
   (at_ x9.cells x6).bind fun x11 =>
   (dR x7 s4.2 x6).bind fun x12 =>
   (at_ x10.Elements x11).bind fun x13 =>
   some (.inl ((w (s4.1+1)),(s4.2.set x9.at_.toNat ({ x10 with Elements:=(x10.Elements.set x11.toNat x12) }:ag))))
  else
   none
 else
  some (.inr s4.2)
def lX (p0:(List ag)) (p1:aZ) (p2:(List Int)):Option ((List ag)×Int) :=
 (jV p0 p1 p2).bind fun x1 =>
 if ¬ x1.2=0 then
  none
 else
  (lD p0).bind fun x3 =>
  (dG (lX.s1 p2 x1) (0,x3)).bind fun z14 =>
  some (z14,0)
def fP.s1 (p0:(Option aG)) (p1:Int) (p2:Int) (x3:bI) (s4:Int):Option (Sum Int (Sum Unit Bool)) :=
 if s4 < (x3.e.length:Int) then
  (at_ x3.e s4).bind fun x6 =>
  if x6.Kind=1 then
   (p0).bind fun x8 =>
   if x6.Var=x8.at_ then
    (at_ x3.sections s4).bind fun x10 =>
    (lK x10 p1).bind fun x11 =>
    if x11=p2 then
     some (.inr (.inr true))
    else
     some (.inl (w (s4+1)))
   else
    none
  else
   none
 else
  some (.inr (.inl ()))
def fP (p0:(Option aG)) (p1:Int) (p2:Int):Option Bool :=
 (fH p0 p1).bind fun x1 =>
 if (x1).isNone=true then
  none
 else
  (x1).bind fun x3 =>
  (dG (fP.s1 p0 p1 p2 x3) 0).bind fun z13=>match z13 with
  | .inl v14 =>
   some false
  | .inr r15=>some r15
def bZ.s2 (p0:(Option aG)) (x1:aG) (s2:Int×List aF) (x4:Int) (s7:Int×List aF):Option (Sum (Int×List aF) (List aF)) :=
 if s7.1 < (x1.cells.length:Int) then
  if ¬ s7.1=s2.1 then
   (fP p0 s7.1 x4).bind fun x10 =>
   if x10=true then
    (app s7.2 ([(aF.mk s2.1 s7.1)]:List aF)).bind fun x12 =>
    some (.inl ((w (s7.1+1)),x12))
   else
    some (.inl ((w (s7.1+1)),s7.2))
  else
   some (.inl ((w (s7.1+1)),s7.2))
 else
  some (.inr s7.2)
def bZ.s1 (p0:(Option aG)) (x1:aG) (s2:Int×List aF):Option (Sum (Int×List aF) (List aF)) :=
 if s2.1 < (x1.cells.length:Int) then
  (at_ x1.cells s2.1).bind fun x4 =>
  (fH p0 s2.1).bind fun x5 =>
  if (x5).isNone=true then
   none
  else
   (dG (bZ.s2 p0 x1 s2 x4) (0,s2.2)).bind fun z13 =>
   some (.inl ((w (s2.1+1)),z13))
 else
  some (.inr s2.2)
def bZ (p0:(Option aG)):Option (List aF) :=
 (p0).bind fun x1 =>
 (dG (bZ.s1 p0 x1) (0,[])).bind fun z15 =>
 some z15
def oM (p0:(List ag)) (p1:aZ):Option ((List aF)×Int) :=
 (oV p0 p1).bind fun x1 =>
 if ¬ x1.2=0 then
  none
 else
  (bZ x1.1).bind fun x3 =>
  some (x3,0)
def eQ.s1 (x3:(List aF)) (s4:Int×List (List Int)):Option (Sum (Int×List (List Int)) (List (List Int))) :=
 if s4.1 < (x3.length:Int) then
  (at_ x3 s4.1).bind fun x6 =>
  (at_ s4.2 x6.Reader).bind fun x7 =>
  (app x7 ([x6.Writer]:List Int)).bind fun x8 =>
  some (.inl ((w (s4.1+1)),(s4.2.set x6.Reader.toNat x8)))
 else
  some (.inr s4.2)
def eQ (p0:(Option aG)):Option (List (List Int)) :=
 (p0).bind fun x1 =>
 (Et (x1.cells.length:Int) ([]:List Int)).bind fun x2 =>
 (bZ p0).bind fun x3 =>
 (dG (eQ.s1 x3) (0,x2)).bind fun z9 =>
 some z9
def dm.s2 (x7:(List Int)) (s8:Int×List Int):Option (Sum (Int×List Int) (List Int)) :=
 if s8.1 < (x7.length:Int) then
  (at_ x7 s8.1).bind fun x10 =>
  (at_ s8.2 x10).bind fun x11 =>
  (at_ s8.2 x10).bind fun x12 =>
  some (.inl ((w (s8.1+1)),(s8.2.set x10.toNat (w (x11+1)))))
 else
  some (.inr s8.2)
def dm.s1 (x3:(List (List Int))) (s5:Int×List Int):Option (Sum (Int×List Int) (List Int)) :=
 if s5.1 < (x3.length:Int) then
  (at_ x3 s5.1).bind fun x7 =>
  (dG (dm.s2 x7) (0,s5.2)).bind fun z13 =>
  some (.inl ((w (s5.1+1)),z13))
 else
  some (.inr s5.2)
def dm.s4 (x22:(List Int)) (s23:Int×List Int):Option (Sum (Int×List Int) (List Int)) :=
 if s23.1 < (x22.length:Int) then
  (at_ x22 s23.1).bind fun x25 =>
  (at_ s23.2 x25).bind fun x26 =>
  (at_ s23.2 x25).bind fun x27 =>
  some (.inl ((w (s23.1+1)),(s23.2.set x25.toNat (w (x26 - 1)))))
 else
  some (.inr s23.2)
def dm.s3 (x3:(List (List Int))) (s16:Int×List Int×List Int):Option (Sum (Int×List Int×List Int) (List Int)) :=
 if s16.1 < (x3.length:Int) then
  (slices_Index_int s16.2.1 0).bind fun x18 =>
  if x18 < 0 then
   none
  else
   (app s16.2.2 ([x18]:List Int)).bind fun x20 =>
   (at_ s16.2.1 x18).bind fun x21 =>
   (at_ x3 x18).bind fun x22 =>
   (dG (dm.s4 x22) (0,(s16.2.1.set x18.toNat (-1)))).bind fun z28 =>
   some (.inl ((w (s16.1+1)),z28,x20))
 else
  some (.inr s16.2.2)
def dm (p0:(List ag)) (p1:aZ):Option ((List Int)×Int) :=
 (oV p0 p1).bind fun x1 =>
 if ¬ x1.2=0 then
  none
 else
  (eQ x1.1).bind fun x3 =>
  (Et (x3.length:Int) 0).bind fun x4 =>
  (dG (dm.s1 x3) (0,x4)).bind fun z15 =>
  (dG (dm.s3 x3) (0,z15,[])).bind fun z30 =>
  some (z30,0)
def fM.j3 (x4:(List Int)) (s7:Int×List Bool×List (List Int)) (x9:Int) (a12:Bool):Option (Sum (Int×List Bool×List (List Int)) (Sum (List Bool×List (List Int)) (List Int))) :=
 if a12=true then
  (at_ s7.2.1 x9).bind fun x14 =>
  (slices_Clone_int x4).bind fun x15 =>
  (app x15 ([x9]:List Int)).bind fun x16 =>
  (app s7.2.2 ([x16]:List (List Int))).bind fun x17 =>
  some (.inl ((w (s7.1+1)),(s7.2.1.set x9.toNat true),x17))
 else
  some (.inl ((w (s7.1+1)),s7.2.1,s7.2.2))
def fM.s2 (p1:Int) (x4:(List Int)) (x6:(List Int)) (s7:Int×List Bool×List (List Int)):Option (Sum (Int×List Bool×List (List Int)) (Sum (List Bool×List (List Int)) (List Int))) :=
 if s7.1 < (x6.length:Int) then
  (at_ x6 s7.1).bind fun x9 =>
  if x9=p1 then
   (neL x4).bind fun x11 =>
   some (.inr (.inr x11))
  else
   if x9 > p1 then
    (at_ s7.2.1 x9).bind fun x13 =>
    fM.j3 x4 s7 x9 (!x13)
   else
    fM.j3 x4 s7 x9 false
 else
  some (.inr (.inl (s7.2.1,s7.2.2)))
def fM.s1 (p0:(List (List Int))) (p1:Int) (s2:List Bool×List (List Int)):Option (Sum (List Bool×List (List Int)) (Sum Unit (List Int))) :=
 if (s2.2.length:Int) > 0 then
  (at_ s2.2 0).bind fun x4 =>
  (at_ x4 (w ((x4.length:Int) - 1))).bind fun x5 =>
  (at_ p0 x5).bind fun x6 =>
  (dG (fM.s2 p1 x4 x6) (0,s2.1,s2.2)).bind fun z18=>match z18 with
  | .inl v19 =>
   (cut v19.2 1 (v19.2.length:Int)).bind fun x20 =>
   some (.inl (v19.1,x20))
  | .inr r21=>some (.inr (.inr r21))
 else
  some (.inr (.inl ()))
def fM (p0:(List (List Int))) (p1:Int):Option (List Int) :=
 (Et (p0.length:Int) false).bind fun x1 =>
 (dG (fM.s1 p0 p1) (x1,[[p1]])).bind fun z22=>match z22 with
 | .inl v23 =>
  some []
 | .inr r24=>some r24
def lT.s1 (x3:(List (List Int))) (s4:(List Int)×Int):Option (Sum ((List Int)×Int) (List Int)) :=
 if s4.2 < (x3.length:Int) then
  (fM x3 s4.2).bind fun x6 =>
  if ((!(x6.isEmpty))&&((s4.1.isEmpty) || (decide ((x6.length:Int) < (s4.1.length:Int)))))=true then
   some (.inl (x6,(w (s4.2+1))))
  else
   some (.inl (s4.1,(w (s4.2+1))))
 else
  some (.inr s4.1)
def lT (p0:(List ag)) (p1:aZ):Option ((List Int)×Int) :=
 (oV p0 p1).bind fun x1 =>
 if ¬ x1.2=0 then
  none
 else
  (eQ x1.1).bind fun x3 =>
  (dG (lT.s1 x3) (([]:List Int),0)).bind fun z12 =>
  (dB [(aA.mk (!(z12.isEmpty)) 12)]).bind fun x13 =>
  some (z12,x13)
def bT.F (self83:(List Int)→(List Int)→Option Bool) (p0:(List Int)) (p1:(List Int)):Option Bool :=
 if (((p0.length:Int)==0) || ((p1.length:Int)==0))=true then
  some (decide ((p0.length:Int) < (p1.length:Int)))
 else
  (at_ p0 0).bind fun x4 =>
  (at_ p1 0).bind fun x5 =>
  if x4 < x5 then
   some true
  else
   (at_ p0 0).bind fun x7 =>
   (at_ p1 0).bind fun x8 =>
   if x7=x8 then
    (cut p0 1 (p0.length:Int)).bind fun x10 =>
    (cut p1 1 (p1.length:Int)).bind fun x11 =>
    (self83 x10 x11).bind fun x12 =>
    some x12
   else
    some false
def bT.N:Nat→(List Int)→(List Int)→Option Bool
 | 0=>fun _ _=>none
 | n+1=>bT.F (bT.N n)
def bT (p0:(List Int)) (p1:(List Int)):Option Bool:=lim fun n=>bT.N n p0 p1
def kU (p0:(List Int)) (p1:(List Int)):Option Bool :=
 if (p0.length:Int)=(p1.length:Int) then
  (bT p0 p1).bind fun x2 =>
  if ¬ (x2=true) then
   (bT p1 p0).bind fun x4 =>
   some (!x4)
  else
   some false
 else
  some false
def sZ:Option Bool :=
 (vH (dZ 2 4 1) (dZ 1 3 1)).bind fun x1 =>
 (vH (dZ 1 4 1) (dZ 4 1 (-1))).bind fun x2 =>
 (kW iP x1).bind fun x3 =>
 (lX iP x1 [0,1,2]).bind fun x4 =>
 (oM iP x1).bind fun x5 =>
 (dm iP x1).bind fun x6 =>
 (lT iP x2).bind fun x7 =>
 if ((((x3.2 != 0) || (x4.2 != 0)) || ((x3.1.length:Int) != 1)) || ((x4.1.length:Int) != 1))=true then
  none
 else
  (at_ x3.1 0).bind fun x15 =>
  (kU x15.Elements [1,1,2,3]).bind fun x16 =>
  if x16=true then
   (at_ x4.1 0).bind fun x18 =>
   (kU x18.Elements [1,1,1,1]).bind fun x19 =>
   if ((x19&&(x5.2==0))&&((x5.1.length:Int)==2))=true then
    (at_ x5.1 1).bind fun x25 =>
    if (((x25.Writer==1)&&((x25.Reader==2)&&true))&&(x6.2==0))=true then
     (kU x6.1 [2,1,0]).bind fun x29 =>
     if (x29&&(x7.2==0))=true then
      (kU x7.1 [0,3]).bind fun x33 =>
      some x33
     else
      none
    else
     none
   else
    none
  else
   none
def lJ.s1 (p0:(List ag)) (s2:Int):Option (Sum Int (Sum Unit Bool)) :=
 if s2 < (p0.length:Int) then
  (at_ p0 s2).bind fun x4 =>
  if (x4.Bounds.length:Int) > 9 then
   some (.inr (.inr false))
  else
   (at_ p0 s2).bind fun x6 =>
   if (x6.Elements.length:Int) > 40 then
    some (.inr (.inr false))
   else
    some (.inl (w (s2+1)))
 else
  some (.inr (.inl ()))
def lJ (p0:(List ag)):Option Bool :=
 if (p0.length:Int) > 8 then
  some false
 else
  (dG (lJ.s1 p0) 0).bind fun z8=>match z8 with
  | .inl v9 =>
   some true
  | .inr r10=>some r10
def jh.s1 (p0:(List aj)) (s2:Int):Option (Sum Int (Sum Unit Bool)) :=
 if s2 < (p0.length:Int) then
  (at_ p0 s2).bind fun x4 =>
  if (x4.List.length:Int) > 20 then
   some (.inr (.inr false))
  else
   some (.inl (w (s2+1)))
 else
  some (.inr (.inl ()))
def jh (p0:(List aj)):Option Bool :=
 if (p0.length:Int) > 9 then
  some false
 else
  (dG (jh.s1 p0) 0).bind fun z6=>match z6 with
  | .inl v7 =>
   some true
  | .inr r8=>some r8
def je.s1 (p0:(List aN)) (s2:Int):Option (Sum Int (Sum Unit Bool)) :=
 if s2 < (p0.length:Int) then
  (at_ p0 s2).bind fun x4 =>
  if (x4.Coefs.length:Int) > 9 then
   some (.inr (.inr false))
  else
   some (.inl (w (s2+1)))
 else
  some (.inr (.inl ()))
def je (p0:(List aN)):Option Bool :=
 if (p0.length:Int) > 9 then
  some false
 else
  (dG (je.s1 p0) 0).bind fun z6=>match z6 with
  | .inl v7 =>
   some true
  | .inr r8=>some r8
def jg.s1 (p0:(List ae)) (s6:Int):Option (Sum Int (Sum Unit Bool)) :=
 if s6 < (p0.length:Int) then
  (at_ p0 s6).bind fun x8 =>
  (jh x8.Subscripts).bind fun x9 =>
  if ¬ (x9=true) then
   some (.inr (.inr false))
  else
   (at_ p0 s6).bind fun x11 =>
   (je x11.Forms).bind fun x12 =>
   if ¬ (x12=true) then
    some (.inr (.inr false))
   else
    some (.inl (w (s6+1)))
 else
  some (.inr (.inl ()))
def jg (p0:(List ae)):Option Bool :=
 if (((decide ((p0.length:Int) > 20))&&(decide ((p0.length:Int)≤40))) || (decide ((p0.length:Int) > 42)))=true then
  some false
 else
  (dG (jg.s1 p0) 0).bind fun z14=>match z14 with
  | .inl v15 =>
   some true
  | .inr r16=>some r16
def kV (p0:(List ai)):Option (List ai) :=
 (app ([]:List ai) p0).bind fun x1 =>
 some x1
def jD (p0:(List Int)):Option (List Int) :=
 (Et (p0.length:Int) 0).bind fun x1 =>
 some (copied x1 p0)
def rZ (p0:ag):Option ag :=
 (kV p0.Bounds).bind fun x1 =>
 (jD p0.Elements).bind fun x2 =>
 some (ag.mk x1 x2)
def eH.s1 (p0:(List ag)) (s1:Int×List ag):Option (Sum (Int×List ag) (List ag)) :=
 if s1.1 < (p0.length:Int) then
  (at_ p0 s1.1).bind fun x3 =>
  (rZ x3).bind fun x4 =>
  (app s1.2 ([x4]:List ag)).bind fun x5 =>
  some (.inl ((w (s1.1+1)),x5))
 else
  some (.inr s1.2)
def eH (p0:(List ag)):Option (List ag) :=
 (dG (eH.s1 p0) (0,[])).bind fun z6 =>
 some z6
def dC.s1 (p0:(List aj)) (s1:Int×List aj):Option (Sum (Int×List aj) (List aj)) :=
 if s1.1 < (p0.length:Int) then
  (at_ p0 s1.1).bind fun x3 =>
  (jD x3.List).bind fun x4 =>
  (app s1.2 ([(aj.mk x3.Kind x3.Low x3.High x3.Step x4)]:List aj)).bind fun x5 =>
  some (.inl ((w (s1.1+1)),x5))
 else
  some (.inr s1.2)
def dC (p0:(List aj)):Option (List aj) :=
 (dG (dC.s1 p0) (0,[])).bind fun z6 =>
 some z6
def fB.s1 (p0:(List aN)) (s1:Int×List aN):Option (Sum (Int×List aN) (List aN)) :=
 if s1.1 < (p0.length:Int) then
  (at_ p0 s1.1).bind fun x3 =>
  (jD x3.Coefs).bind fun x4 =>
  (at_ p0 s1.1).bind fun x5 =>
  (app s1.2 ([(aN.mk x4 x5.Const)]:List aN)).bind fun x6 =>
  some (.inl ((w (s1.1+1)),x6))
 else
  some (.inr s1.2)
def fB (p0:(List aN)):Option (List aN) :=
 (dG (fB.s1 p0) (0,[])).bind fun z7 =>
 some z7
def fD.s1 (p0:(List ae)) (s1:Int×List ae):Option (Sum (Int×List ae) (List ae)) :=
 if s1.1 < (p0.length:Int) then
  (at_ p0 s1.1).bind fun x3 =>
  (dC x3.Subscripts).bind fun x4 =>
  (fB x3.Forms).bind fun x5 =>
  (app s1.2 ([(ae.mk x3.Kind x3.Value x3.Var x3.A x3.B x4 x5)]:List ae)).bind fun x6 =>
  some (.inl ((w (s1.1+1)),x6))
 else
  some (.inr s1.2)
def fD (p0:(List ae)):Option (List ae) :=
 (dG (fD.s1 p0) (0,[])).bind fun z7 =>
 some z7
def nX (p0:(List ag)) (p1:(List ae)):Option ((List Int)×Int) :=
 (jJ p0).bind fun x1 =>
 if ¬ x1=0 then
  some (([]:List Int),x1)
 else
  (lG p0 p1).bind fun x3 =>
  if ¬ x3.2=0 then
   some (([]:List Int),x3.2)
  else
   (ig x3.1).bind fun x5 =>
   (slices_Clone_int x5).bind fun x6 =>
   some (x6,0)
def jT.s1 (p0:(List Int)) (s1:Int×Int):Option (Sum (Int×Int) Int) :=
 if s1.2 < (p0.length:Int) then
  (at_ p0 s1.2).bind fun x3 =>
  some (.inl ((w (s1.1 * x3)),(w (s1.2+1))))
 else
  some (.inr s1.1)
def jT (p0:(List Int)):Option Int :=
 (dG (jT.s1 p0) (1,0)).bind fun z4 =>
 some z4
def dU.s1 (x5:(List Int)) (s6:Int×List ai):Option (Sum (Int×List ai) (List ai)) :=
 if s6.1 < (x5.length:Int) then
  (at_ x5 s6.1).bind fun x8 =>
  (app s6.2 ([(ai.mk 1 x8)]:List ai)).bind fun x9 =>
  some (.inl ((w (s6.1+1)),x9))
 else
  some (.inr s6.2)
def dU.s2 (p0:(List ag)) (x3:(Option bI)×Int) (x12:Int) (s13:Int×List Int):Option (Sum (Int×List Int) (List Int)) :=
 if s13.1 < x12 then
  (dR x3.1 p0 s13.1).bind fun x15 =>
  (app s13.2 ([x15]:List Int)).bind fun x16 =>
  some (.inl ((w (s13.1+1)),x16))
 else
  some (.inr s13.2)
def dU (p0:(List ag)) (p1:(List ae)):Option (ag×Int) :=
 (jJ p0).bind fun x1 =>
 if ¬ x1=0 then
  some ((ag.mk [] []),x1)
 else
  (lG p0 p1).bind fun x3 =>
  if ¬ x3.2=0 then
   some ((ag.mk [] []),x3.2)
  else
   (ig x3.1).bind fun x5 =>
   (dG (dU.s1 x5) (0,[])).bind fun z10 =>
   (ig x3.1).bind fun x11 =>
   (jT x11).bind fun x12 =>
   (dG (dU.s2 p0 x3 x12) (0,[])).bind fun z17 =>
   some ((ag.mk z10 z17),0)
def cO (p0:Int) (p1:Int) (p2:Int):Bool :=
 (!((decide (p0 < p1)) || (decide (p0 > p2))))
def bH (p0:Int):Bool :=
 (cO p0 (-2147483647) 2147483647)
def eY.s1 (p0:(List ai)) (s1:Int×List Int):Option (Sum (Int×List Int) (List Int)) :=
 if s1.1 < (p0.length:Int) then
  (at_ p0 s1.1).bind fun x3 =>
  (at_ p0 s1.1).bind fun x4 =>
  (app s1.2 ([(mx 0 (w ((w (x3.High - x4.Low))+1)))]:List Int)).bind fun x5 =>
  some (.inl ((w (s1.1+1)),x5))
 else
  some (.inr s1.2)
def eY (p0:(List ai)):Option (List Int) :=
 (dG (eY.s1 p0) (0,[])).bind fun z6 =>
 some z6
def eG.s1 (p0:(List Int)) (s1:Int×Int):Option (Sum (Int×Int) (Sum Int Int)) :=
 if s1.2 < (p0.length:Int) then
  (at_ p0 s1.2).bind fun x3 =>
  if x3=0 then
   some (.inr (.inr 0))
  else
   (at_ p0 s1.2).bind fun x5 =>
   some (.inl ((mn (w (s1.1 * (mn x5 513))) 513),(w (s1.2+1))))
 else
  some (.inr (.inl s1.1))
def eG (p0:(List Int)):Option Int :=
 (dG (eG.s1 p0) (1,0)).bind fun z6=>match z6 with
 | .inl v7 =>
  some v7
 | .inr r8=>some r8
def di.s1 (p0:(List ai)) (s2:Int):Option (Sum Int (Sum Unit Int)) :=
 if s2 < (p0.length:Int) then
  (at_ p0 s2).bind fun x4 =>
  if ¬ ((bH x4.Low)=true) then
   some (.inr (.inr 2))
  else
   (at_ p0 s2).bind fun x6 =>
   if ¬ ((bH x6.High)=true) then
    some (.inr (.inr 2))
   else
    some (.inl (w (s2+1)))
 else
  some (.inr (.inl ()))
def di.s2 (x10:(List Int)) (s11:Int):Option (Sum Int (Sum Unit Int)) :=
 if s11 < (x10.length:Int) then
  (at_ x10 s11).bind fun x13 =>
  if x13 > 512 then
   some (.inr (.inr 8))
  else
   some (.inl (w (s11+1)))
 else
  some (.inr (.inl ()))
def di (p0:(List ai)):Option Int :=
 if (p0.length:Int) > 7 then
  some 32
 else
  (dG (di.s1 p0) 0).bind fun z8=>match z8 with
  | .inl v9 =>
   (eY p0).bind fun x10 =>
   (dG (di.s2 x10) 0).bind fun z15=>match z15 with
   | .inl v16 =>
    (eG x10).bind fun x17 =>
    if x17 > 512 then
     some 8
    else
     some 0
   | .inr r19=>some r19
  | .inr r20=>some r20
def gX (p0:Int):Bool :=
 (cO p0 (-2147483648) 2147483647)
def jl.s1 (p0:ag) (s6:Int):Option (Sum Int (Sum Unit (Int×Int))) :=
 if s6 < (p0.Elements.length:Int) then
  (at_ p0.Elements s6).bind fun x8 =>
  if ¬ ((gX x8)=true) then
   some (.inr (.inr (s6,2)))
  else
   some (.inl (w (s6+1)))
 else
  some (.inr (.inl ()))
def jl (p0:ag):Option (Int×Int) :=
 (di p0.Bounds).bind fun x1 =>
 if ¬ x1=0 then
  some (0,x1)
 else
  (eY p0.Bounds).bind fun x3 =>
  (eG x3).bind fun x4 =>
  if ¬ (p0.Elements.length:Int)=x4 then
   some (0,10)
  else
   (dG (jl.s1 p0) 0).bind fun z10=>match z10 with
   | .inl v11 =>
    some (0,0)
   | .inr r12=>some r12
def ve (p0:ag):Option Int :=
 (jl p0).bind fun x1 =>
 some x1.2
def fQ.s1 (p0:(List ag)) (s2:Int):Option (Sum Int (Sum Unit Int)) :=
 if s2 < (p0.length:Int) then
  (at_ p0 s2).bind fun x4 =>
  (ve x4).bind fun x5 =>
  if ¬ x5=0 then
   some (.inr (.inr x5))
  else
   some (.inl (w (s2+1)))
 else
  some (.inr (.inl ()))
def fQ (p0:(List ag)):Option Int :=
 if (p0.length:Int) > 6 then
  some 8
 else
  (dG (fQ.s1 p0) 0).bind fun z7=>match z7 with
  | .inl v8 =>
   some 0
  | .inr r9=>some r9
def iW (p0:Bool):Int :=
 if p0=true then
  1
 else
  0
def aY.j3 (s4:Int×List Int) (x6:ae) (a8:Bool×Bool×Bool×Bool×Bool×Bool) (a39:List Int):Option (Sum (Int×List Int) (Sum (List Int) Int)) :=
 if a8.2.2.2.2.2=true then
  (at_ a39 x6.B).bind fun x41 =>
  (at_ a39 x6.B).bind fun x42 =>
  some (.inl ((w (s4.1+1)),(a39.set x6.B.toNat (w (x41+1)))))
 else
  some (.inl ((w (s4.1+1)),a39))
def aY.j2 (s4:Int×List Int) (x6:ae) (a8:Bool×Bool×Bool×Bool×Bool×Bool):Option (Sum (Int×List Int) (Sum (List Int) Int)) :=
 if (((((((!a8.1)&&(x6.Value != 0)) || ((!a8.2.1)&&(x6.Var != 0))) || ((!a8.2.2.1)&&(decide ((x6.Subscripts.length:Int) > 0)))) || ((!a8.2.2.2.1)&&(decide ((x6.Forms.length:Int) > 0)))) || ((!a8.2.2.2.2.1)&&(x6.A != 0))) || ((!a8.2.2.2.2.2)&&(x6.B != 0)))=true then
  some (.inr (.inr 3))
 else
  if ((a8.2.2.2.2.1&&(!(cO x6.A 0 (w (s4.1 - 1))))) || (a8.2.2.2.2.2&&(!(cO x6.B 0 (w (s4.1 - 1))))))=true then
   some (.inr (.inr 3))
  else
   if a8.2.2.2.2.1=true then
    (at_ s4.2 x6.A).bind fun x40 =>
    (at_ s4.2 x6.A).bind fun x41 =>
    aY.j3 s4 x6 a8 (s4.2.set x6.A.toNat (w (x40+1)))
   else
    aY.j3 s4 x6 a8 s4.2
def aY.s1 (p0:(List ae)) (s4:Int×List Int):Option (Sum (Int×List Int) (Sum (List Int) Int)) :=
 if s4.1 < (p0.length:Int) then
  (at_ p0 s4.1).bind fun x6 =>
  if ¬ ((cO x6.Kind 0 9)=true) then
   some (.inr (.inr 15))
  else
   if x6.Kind=0 then
    aY.j2 s4 x6 (true,false,false,false,false,false)
   else
    if x6.Kind=1 then
     aY.j2 s4 x6 (false,true,true,false,false,false)
    else
     if x6.Kind=7 then
      aY.j2 s4 x6 (false,false,false,false,true,false)
     else
      if x6.Kind=8 then
       aY.j2 s4 x6 (false,true,false,false,false,false)
      else
       if x6.Kind=9 then
        aY.j2 s4 x6 (false,true,false,true,false,false)
       else
        aY.j2 s4 x6 (false,false,false,false,true,true)
 else
  some (.inr (.inl s4.2))
def aY.s4 (p0:(List ae)) (v44:List Int) (s45:Int):Option (Sum Int (Sum Unit Int)) :=
 if s45 < (p0.length:Int) then
  (at_ v44 s45).bind fun x47 =>
  if ¬ x47=(iW (decide (s45 < (w ((p0.length:Int) - 1))))) then
   some (.inr (.inr 3))
  else
   some (.inl (w (s45+1)))
 else
  some (.inr (.inl ()))
def aY (p0:(List ae)):Option Int :=
 if (p0.length:Int)=0 then
  some 17
 else
  if (p0.length:Int) > 40 then
   some 8
  else
   (Et (p0.length:Int) 0).bind fun x3 =>
   (dG (aY.s1 p0) (0,x3)).bind fun z43=>match z43 with
   | .inl v44 =>
    (dG (aY.s4 p0 v44) 0).bind fun z49=>match z49 with
    | .inl v50 =>
     some 0
    | .inr r51=>some r51
   | .inr r52=>some r52
def gp (p0:Int):Int :=
 if p0 < 0 then
  (w (0 - p0))
 else
  p0
def qj (p0:Int) (p1:Int):Option Int :=
 (quo .i64 p0 p1).bind fun x1 =>
 (rem p0 p1).bind fun x2 =>
 some (w (x1 - (iW (decide (x2 < 0)))))
def bg.s2 (p0:ai) (a26:(List Int)) (s27:Int):Option (Sum Int (Sum Unit ((List Int)×Int))) :=
 if s27 < (a26.length:Int) then
  (at_ a26 s27).bind fun x29 =>
  if ¬ ((cO x29 p0.Low p0.High)=true) then
   some (.inr (.inr (([]:List Int),33)))
  else
   some (.inl (w (s27+1)))
 else
  some (.inr (.inl ()))
def bg.j1 (p0:ai) (a26:(List Int)):Option ((List Int)×Int) :=
 (dG (bg.s2 p0 a26) 0).bind fun z31=>match z31 with
 | .inl v32 =>
  some (a26,0)
 | .inr r33=>some r33
def bg.s4 (p1:aj) (a29:Int) (s31:Int×List Int):Option (Sum (Int×List Int) (List Int)) :=
 if s31.1 < a29 then
  (app s31.2 ([(w (p1.Low+(w (s31.1 * p1.Step))))]:List Int)).bind fun x33 =>
  some (.inl ((w (s31.1+1)),x33))
 else
  some (.inr s31.2)
def bg.j3 (p0:ai) (p1:aj) (a29:Int):Option ((List Int)×Int) :=
 if a29 > 512 then
  some (([]:List Int),8)
 else
  (dG (bg.s4 p1 a29) (0,[])).bind fun z34 =>
  bg.j1 p0 z34
def bg (p0:ai) (p1:aj):Option ((List Int)×Int) :=
 if ((!(bH p0.Low)) || (!(bH p0.High)))=true then
  some (([]:List Int),2)
 else
  if ¬ ((cO p1.Kind 0 2)=true) then
   some (([]:List Int),15)
  else
   if ((((p1.Kind != 1)&&((p1.High != 0) || (p1.Step != 0))) || ((p1.Kind==2)&&(p1.Low != 0))) || ((p1.Kind != 2)&&(decide ((p1.List.length:Int) > 0))))=true then
    some (([]:List Int),3)
   else
    if ((p1.Kind==1)&&(p1.Step==0))=true then
     some (([]:List Int),11)
    else
     if (((!(bH p1.Low)) || (!(bH p1.High))) || (!(bH p1.Step)))=true then
      some (([]:List Int),2)
     else
      if p1.Kind=0 then
       bg.j1 p0 [p1.Low]
      else
       if p1.Kind=1 then
        (qj (w (p1.High - p1.Low)) (gp p1.Step)).bind fun x28 =>
        if p1.Step < 0 then
         (qj (w (p1.Low - p1.High)) (gp p1.Step)).bind fun x30 =>
         bg.j3 p0 p1 (mx 0 (w (x30+1)))
        else
         bg.j3 p0 p1 (mx 0 (w (x28+1)))
       else
        if (p1.List.length:Int) > 512 then
         some (([]:List Int),8)
        else
         (jD p1.List).bind fun x37 =>
         bg.j1 p0 x37
def gV.s1 (p0:(List Int)) (s1:Int×Int×List Int):Option (Sum (Int×Int×List Int) (List Int)) :=
 if s1.2.1 < (p0.length:Int) then
  (at_ p0 s1.2.1).bind fun x3 =>
  (rem s1.1 x3).bind fun x4 =>
  (app s1.2.2 ([x4]:List Int)).bind fun x5 =>
  (at_ p0 s1.2.1).bind fun x6 =>
  (quo .i64 s1.1 x6).bind fun x7 =>
  some (.inl (x7,(w (s1.2.1+1)),x5))
 else
  some (.inr s1.2.2)
def gV (p0:(List Int)) (p1:Int):Option (List Int) :=
 (dG (gV.s1 p0) (p1,0,[])).bind fun z8 =>
 some z8
def iR.s1 (p0:(List Int)) (p1:(List Int)) (s1:Int×Int):Option (Sum (Int×Int) Int) :=
 if s1.2≥0 then
  (at_ p0 s1.2).bind fun x3 =>
  (at_ p1 s1.2).bind fun x4 =>
  some (.inl ((w ((w (s1.1 * x3))+x4)),(w (s1.2 - 1))))
 else
  some (.inr s1.1)
def iR (p0:(List Int)) (p1:(List Int)):Option Int :=
 (dG (iR.s1 p0 p1) (0,(w ((p0.length:Int) - 1)))).bind fun z5 =>
 some z5
def iI.s1 (p0:(List ai)) (p1:(List Int)) (s1:Int×List Int):Option (Sum (Int×List Int) (List Int)) :=
 if s1.1 < (p0.length:Int) then
  (at_ p1 s1.1).bind fun x3 =>
  (at_ p0 s1.1).bind fun x4 =>
  (app s1.2 ([(w (x3 - x4.Low))]:List Int)).bind fun x5 =>
  some (.inl ((w (s1.1+1)),x5))
 else
  some (.inr s1.2)
def iI (p0:(List ai)) (p1:(List Int)):Option Int :=
 (dG (iI.s1 p0 p1) (0,[])).bind fun z6 =>
 (eY p0).bind fun x7 =>
 (iR x7 z6).bind fun x8 =>
 some x8
def oh.s1 (p0:(List Int)) (p1:Int) (s1:Bool×Int):Option (Sum (Bool×Int) Bool) :=
 if s1.2 < (p0.length:Int) then
  (at_ p0 s1.2).bind fun x3 =>
  some (.inl ((s1.1 || (x3==p1)),(w (s1.2+1))))
 else
  some (.inr s1.1)
def oh (p0:(List Int)) (p1:Int):Option Bool :=
 (dG (oh.s1 p0 p1) (false,0)).bind fun z6 =>
 some z6
def bJ.s1 (p0:(List ai)) (p1:(List aj)) (s4:Int×List (List Int)×List Int×List Int):Option (Sum (Int×List (List Int)×List Int×List Int) (Sum (List (List Int)×List Int×List Int) (ay×Int))) :=
 if s4.1 < (p1.length:Int) then
  (at_ p0 s4.1).bind fun x6 =>
  (at_ p1 s4.1).bind fun x7 =>
  (bg x6 x7).bind fun x8 =>
  if ¬ x8.2=0 then
   some (.inr (.inr ((ay.mk [] [] false),x8.2)))
  else
   (app s4.2.1 ([x8.1]:List (List Int))).bind fun x10 =>
   (app s4.2.2.1 ([(x8.1.length:Int)]:List Int)).bind fun x11 =>
   (at_ p1 s4.1).bind fun x12 =>
   if ¬ x12.Kind=0 then
    (app s4.2.2.2 ([(x8.1.length:Int)]:List Int)).bind fun x14 =>
    some (.inl ((w (s4.1+1)),x10,x11,x14))
   else
    some (.inl ((w (s4.1+1)),x10,x11,s4.2.2.2))
 else
  some (.inr (.inl (s4.2.1,s4.2.2.1,s4.2.2.2)))
def bJ.s3 (v16:List (List Int)×List Int×List Int) (s22:Int×List Int):Option (Sum (Int×List Int) (List Int)) :=
 if s22.1 < (s22.2.length:Int) then
  (at_ v16.1 s22.1).bind fun x24 =>
  (at_ s22.2 s22.1).bind fun x25 =>
  (at_ x24 x25).bind fun x26 =>
  (at_ s22.2 s22.1).bind fun x27 =>
  some (.inl ((w (s22.1+1)),(s22.2.set s22.1.toNat x26)))
 else
  some (.inr s22.2)
def bJ.s2 (p0:(List ai)) (v16:List (List Int)×List Int×List Int) (x17:Int) (s19:Int×Bool×List Int):Option (Sum (Int×Bool×List Int) (Bool×List Int)) :=
 if s19.1 < x17 then
  (gV v16.2.1 s19.1).bind fun x21 =>
  (dG (bJ.s3 v16) (0,x21)).bind fun z28 =>
  (iI p0 z28).bind fun x29 =>
  if s19.2.1=true then
   (app s19.2.2 ([x29]:List Int)).bind fun x31 =>
   some (.inl ((w (s19.1+1)),true,x31))
  else
   (oh s19.2.2 x29).bind fun x32 =>
   (app s19.2.2 ([x29]:List Int)).bind fun x33 =>
   some (.inl ((w (s19.1+1)),x32,x33))
 else
  some (.inr (s19.2.1,s19.2.2))
def bJ (p0:(List ai)) (p1:(List aj)):Option (ay×Int) :=
 (di p0).bind fun x1 =>
 if ¬ x1=0 then
  some ((ay.mk [] [] false),x1)
 else
  if ¬ (p1.length:Int)=(p0.length:Int) then
   some ((ay.mk [] [] false),32)
  else
   (dG (bJ.s1 p0 p1) (0,[],[],[])).bind fun z15=>match z15 with
   | .inl v16 =>
    (eG v16.2.1).bind fun x17 =>
    if x17 > 512 then
     some ((ay.mk [] [] false),8)
    else
     (dG (bJ.s2 p0 v16 x17) (0,false,[])).bind fun z35 =>
     some ((ay.mk v16.2.2 z35.2 z35.1),0)
   | .inr r37=>some r37
def dV.s1 (p1:(List ae)) (s3:Int):Option (Sum Int (Sum Unit ((List (List Int))×Int))) :=
 if s3 < (p1.length:Int) then
  (at_ p1 s3).bind fun x5 =>
  if x5.Kind=8 then
   some (.inr (.inr (([]:List (List Int)),15)))
  else
   (at_ p1 s3).bind fun x7 =>
   if x7.Kind=9 then
    some (.inr (.inr (([]:List (List Int)),15)))
   else
    some (.inl (w (s3+1)))
 else
  some (.inr (.inl ()))
def dV.s2 (p0:(List ag)) (p1:(List ae)) (s11:Int×List (List Int)):Option (Sum (Int×List (List Int)) (Sum (List (List Int)) ((List (List Int))×Int))) :=
 if s11.1 < (p1.length:Int) then
  (at_ p1 s11.1).bind fun x13 =>
  if x13.Kind=0 then
   if ¬ ((gX x13.Value)=true) then
    some (.inr (.inr (([]:List (List Int)),2)))
   else
    (app s11.2 ([[]]:List (List Int))).bind fun x16 =>
    some (.inl ((w (s11.1+1)),x16))
  else
   if x13.Kind=1 then
    if ¬ ((cO x13.Var 0 (w ((p0.length:Int) - 1)))=true) then
     some (.inr (.inr (([]:List (List Int)),6)))
    else
     (at_ p0 x13.Var).bind fun x19 =>
     (bJ x19.Bounds x13.Subscripts).bind fun x20 =>
     if ¬ x20.2=0 then
      some (.inr (.inr (([]:List (List Int)),x20.2)))
     else
      if (x20.1.Offsets.length:Int) > 60 then
       some (.inr (.inr (([]:List (List Int)),8)))
      else
       (app s11.2 ([x20.1.Extents]:List (List Int))).bind fun x23 =>
       some (.inl ((w (s11.1+1)),x23))
   else
    if x13.Kind=7 then
     (at_ s11.2 x13.A).bind fun x25 =>
     (app s11.2 ([x25]:List (List Int))).bind fun x26 =>
     some (.inl ((w (s11.1+1)),x26))
    else
     (at_ s11.2 x13.A).bind fun x27 =>
     (at_ s11.2 x13.B).bind fun x28 =>
     if ((decide ((x27.length:Int) > 0))&&(decide ((x28.length:Int) > 0)))=true then
      (kU x27 x28).bind fun x32 =>
      if ¬ (x32=true) then
       some (.inr (.inr (([]:List (List Int)),10)))
      else
       if (x27.length:Int)=0 then
        (app s11.2 ([x28]:List (List Int))).bind fun x35 =>
        some (.inl ((w (s11.1+1)),x35))
       else
        (app s11.2 ([x27]:List (List Int))).bind fun x36 =>
        some (.inl ((w (s11.1+1)),x36))
     else
      if (x27.length:Int)=0 then
       (app s11.2 ([x28]:List (List Int))).bind fun x38 =>
       some (.inl ((w (s11.1+1)),x38))
      else
       (app s11.2 ([x27]:List (List Int))).bind fun x39 =>
       some (.inl ((w (s11.1+1)),x39))
 else
  some (.inr (.inl s11.2))
def dV (p0:(List ag)) (p1:(List ae)):Option ((List (List Int))×Int) :=
 (aY p1).bind fun x1 =>
 if ¬ x1=0 then
  some (([]:List (List Int)),x1)
 else
  (dG (dV.s1 p1) 0).bind fun z9=>match z9 with
  | .inl v10 =>
   (dG (dV.s2 p0 p1) (0,[])).bind fun z40=>match z40 with
   | .inl v41 =>
    some (v41,0)
   | .inr r42=>some r42
  | .inr r43=>some r43
def qU (p0:(List ag)) (p1:(List ae)):Option ((List (List Int))×Int) :=
 (fQ p0).bind fun x1 =>
 if ¬ x1=0 then
  some (([]:List (List Int)),x1)
 else
  (dV p0 p1).bind fun x3 =>
  some (x3.1,x3.2)
def rY (p0:(List ag)) (p1:ae) (p2:Int):Option Int :=
 (at_ p0 p1.Var).bind fun x1 =>
 (bJ x1.Bounds p1.Subscripts).bind fun x2 =>
 if (x2.1.Extents.length:Int)=0 then
  (at_ x2.1.Offsets 0).bind fun x4 =>
  some x4
 else
  (at_ x2.1.Offsets p2).bind fun x5 =>
  some x5
def yz (p0:Int) (p1:Int):Option Int :=
 (rem p0 p1).bind fun x1 =>
 (rem p0 p1).bind fun x2 =>
 some (w (x1+(w (p1 * (iW (decide (x2 < 0)))))))
def oL (p0:Int):Option Int :=
 (yz (w (p0+2147483648)) 4294967296).bind fun x1 =>
 some (w (x1 - 2147483648))
def lY (p0:Int) (p1:Int) (p2:Int):Option Int :=
 if p0=2 then
  (oL (w (p1+p2))).bind fun x2 =>
  some x2
 else
  if p0=3 then
   (oL (w (p1 - p2))).bind fun x4 =>
   some x4
  else
   if p0=4 then
    (oL (w (p1 * p2))).bind fun x6 =>
    some x6
   else
    if p0=5 then
     some (iW (decide (p1 < p2)))
    else
     if p0=6 then
      some (iW (p1==p2))
     else
      some (iW (p1==0))
def gU.s1 (p0:(List ag)) (p1:(List ae)) (p2:Int) (s1:Int×List Int):Option (Sum (Int×List Int) (List Int)) :=
 if s1.1 < (p1.length:Int) then
  (at_ p1 s1.1).bind fun x3 =>
  if x3.Kind=0 then
   (app s1.2 ([x3.Value]:List Int)).bind fun x5 =>
   some (.inl ((w (s1.1+1)),x5))
  else
   if x3.Kind=1 then
    (at_ p0 x3.Var).bind fun x7 =>
    (rY p0 x3 p2).bind fun x8 =>
    (at_ x7.Elements x8).bind fun x9 =>
    (app s1.2 ([x9]:List Int)).bind fun x10 =>
    some (.inl ((w (s1.1+1)),x10))
   else
    if x3.Kind=7 then
     (at_ s1.2 x3.A).bind fun x12 =>
     (lY x3.Kind x12 0).bind fun x13 =>
     (app s1.2 ([x13]:List Int)).bind fun x14 =>
     some (.inl ((w (s1.1+1)),x14))
    else
     (at_ s1.2 x3.A).bind fun x15 =>
     (at_ s1.2 x3.B).bind fun x16 =>
     (lY x3.Kind x15 x16).bind fun x17 =>
     (app s1.2 ([x17]:List Int)).bind fun x18 =>
     some (.inl ((w (s1.1+1)),x18))
 else
  some (.inr s1.2)
def gU (p0:(List ag)) (p1:(List ae)) (p2:Int):Option Int :=
 (dG (gU.s1 p0 p1 p2) (0,[])).bind fun z19 =>
 (at_ z19 (w ((z19.length:Int) - 1))).bind fun x20 =>
 some x20
def nY.s1 (p0:(List Int)) (s1:Int×List ai):Option (Sum (Int×List ai) (List ai)) :=
 if s1.1 < (p0.length:Int) then
  (at_ p0 s1.1).bind fun x3 =>
  (app s1.2 ([(ai.mk 1 x3)]:List ai)).bind fun x4 =>
  some (.inl ((w (s1.1+1)),x4))
 else
  some (.inr s1.2)
def nY (p0:(List Int)) (p1:(List Int)):Option ag :=
 (dG (nY.s1 p0) (0,[])).bind fun z5 =>
 some (ag.mk z5 p1)
def jH.s1 (p0:(List ag)) (p1:(List ae)) (x3:(List Int)) (s4:Int×List Int):Option (Sum (Int×List Int) (List Int)) :=
 (eG x3).bind fun x5 =>
 if s4.1 < x5 then
  (gU p0 p1 s4.1).bind fun x7 =>
  (app s4.2 ([x7]:List Int)).bind fun x8 =>
  some (.inl ((w (s4.1+1)),x8))
 else
  some (.inr s4.2)
def jH (p0:(List ag)) (p1:(List ae)):Option (ag×Int) :=
 (qU p0 p1).bind fun x1 =>
 if ¬ x1.2=0 then
  some ((ag.mk [] []),x1.2)
 else
  (at_ x1.1 (w ((x1.1.length:Int) - 1))).bind fun x3 =>
  (dG (jH.s1 p0 p1 x3) (0,[])).bind fun z9 =>
  (nY x3 z9).bind fun x10 =>
  some (x10,0)
def jO.s1 (p0:ag) (p1:ag) (s4:Int):Option (Sum Int (Sum Unit Bool)) :=
 if s4 < (p0.Bounds.length:Int) then
  (at_ p0.Bounds s4).bind fun x6 =>
  (at_ p1.Bounds s4).bind fun x7 =>
  if ¬ (((x6.Low==x7.Low)&&((x6.High==x7.High)&&true))=true) then
   some (.inr (.inr false))
  else
   some (.inl (w (s4+1)))
 else
  some (.inr (.inl ()))
def jO (p0:ag) (p1:ag):Option Bool :=
 if ¬ (p0.Bounds.length:Int)=(p1.Bounds.length:Int) then
  some false
 else
  (kU p0.Elements p1.Elements).bind fun x2 =>
  if ¬ (x2=true) then
   some false
  else
   (dG (jO.s1 p0 p1) 0).bind fun z9=>match z9 with
   | .inl v10 =>
    some true
   | .inr r11=>some r11
def lQ (p0:(List ag)) (p1:(List ae)):Option Bool :=
 (sZ).bind fun x1 =>
 if ¬ (x1=true) then
  some false
 else
  (lJ p0).bind fun x3 =>
  if ¬ (x3=true) then
   some true
  else
   (jg p1).bind fun x5 =>
   if ¬ (x5=true) then
    some true
   else
    (eH p0).bind fun x7 =>
    (fD p1).bind fun x8 =>
    (nX x7 x8).bind fun x9 =>
    (eH p0).bind fun x10 =>
    (fD p1).bind fun x11 =>
    (dU x10 x11).bind fun x12 =>
    (jH p0 p1).bind fun x13 =>
    if ((x9.2==x13.2)&&(x12.2==x13.2))=true then
     (jO x12.1 x13.1).bind fun x17 =>
     if x17=true then
      (eY x13.1.Bounds).bind fun x19 =>
      (kU x9.1 x19).bind fun x20 =>
      some x20
     else
      some false
    else
     some false
end Go.Sh
