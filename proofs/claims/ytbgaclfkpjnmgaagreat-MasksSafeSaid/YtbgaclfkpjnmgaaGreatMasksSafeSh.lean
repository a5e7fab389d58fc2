/- Functions of the program in plain form: printed by a program of this session. Not trusted: the walks show that the program does what they say. -/
import Derived.Test.YtbgaclfkpjnmgaaGreatKit5
set_option linter.all false
namespace Go.Sh
open Go.Lx
set_option linter.unusedVariables false
structure ai where
 Low:Int
 High:Int
 deriving DecidableEq
structure ag where
 Bounds:(List ai)
 Elements:(List Int)
 deriving DecidableEq
structure az where
 Kind:Int
 Low:Int
 High:Int
 Step:Int
 List:(List Int)
 deriving DecidableEq
structure bH where
 Coefs:(List Int)
 Const:Int
 deriving DecidableEq
structure ah where
 Kind:Int
 Value:Int
 Var:Int
 A:Int
 B:Int
 Subscripts:(List az)
 Forms:(List bH)
 deriving DecidableEq
structure aC where
 Var:Int
 Subscripts:(List az)
 Value:(List ah)
 Mask:(List ah)
 Else:(List ah)
 deriving DecidableEq
structure aB where
 Extents:(List Int)
 Offsets:(List Int)
 ManyOne:Bool
 deriving DecidableEq
structure ay where
 Writer:Int
 Reader:Int
 deriving DecidableEq
structure dS where
 e:(List ah)
 sections:(List aB)
 shapes:(List (List Int))
 deriving DecidableEq
structure aX where
 store:(List ag)
 at_:Int
 cells:(List Int)
 value:(Option dS)
 mask:(Option dS)
 less:(Option dS)
 deriving DecidableEq
structure aQ where
 holds:Bool
 code:Int
 deriving DecidableEq
structure aK where
 holds:Bool
 code:Int
 deriving DecidableEq
structure BR where
 e0:Bool
 e1:Bool
 e2:Bool
 e3:Bool
 e4:Bool
 e5:Bool
 deriving DecidableEq
def qJ (p0:Int) (p1:Int) (p2:Int):az :=
 (az.mk 1 p0 p1 p2 [])
def iR (p0:Int) (p1:Int) (p2:Int):(List ah) :=
 [(ah.mk 1 0 0 0 0 [(qJ p0 p1 p2)] [])]
def Ad (p0:(List ah)) (p1:(List ah)):Option aC :=
 (at_ p0 0).bind fun x1 =>
 some (aC.mk 0 x1.Subscripts p1 [] [])
def mJ:(List ag) :=
 [(ag.mk [(ai.mk 1 4)] [1,2,3,4])]
def bz (p0:Int) (p1:Int) (p2:Int):Bool :=
 ((decide (p0≥p1))&&(decide (p0≤p2)))
def bF (p0:Int):Bool :=
 (bz p0 (-2147483647) 2147483647)
def lK (p0:ai):Bool :=
 ((!(bF p0.Low)) || (!(bF p0.High)))
def bI.s1 (p0:(List ai)) (s1:Int):Option (Sum Int (Sum Unit Int)) :=
 if s1 < (p0.length:Int) then
  (at_ p0 s1).bind fun x3 =>
  if (lK x3)=true then
   some (.inr (.inr s1))
  else
   some (.inl (w (s1+1)))
 else
  some (.inr (.inl ()))
def bI (p0:(List ai)):Option Int :=
 (iw (bI.s1 p0) 0).bind fun z5=>match z5 with
 | .inl v6 =>
  some (-1)
 | .inr r7=>some r7
def eU (p0:(List ai)):Option Bool :=
 (bI p0).bind fun x1 =>
 some (decide (x1≥0))
def bg (p0:ai):Int :=
 (mx 0 (w ((w (p0.High - p0.Low))+1)))
def nP (p0:ai):Bool :=
 (decide ((bg p0) > 512))
def bJ.s1 (p0:(List ai)) (s1:Int):Option (Sum Int (Sum Unit Int)) :=
 if s1 < (p0.length:Int) then
  (at_ p0 s1).bind fun x3 =>
  if (nP x3)=true then
   some (.inr (.inr s1))
  else
   some (.inl (w (s1+1)))
 else
  some (.inr (.inl ()))
def bJ (p0:(List ai)):Option Int :=
 (iw (bJ.s1 p0) 0).bind fun z5=>match z5 with
 | .inl v6 =>
  some (-1)
 | .inr r7=>some r7
def eX (p0:(List ai)):Option Bool :=
 (bJ p0).bind fun x1 =>
 some (decide (x1≥0))
def jG.s1 (p0:(List ai)) (s1:Int×List Int):Option (Sum (Int×List Int) (List Int)) :=
 if s1.1 < (p0.length:Int) then
  (at_ p0 s1.1).bind fun x3 =>
  (app s1.2 ([(bg x3)]:List Int)).bind fun x4 =>
  some (.inl ((w (s1.1+1)),x4))
 else
  some (.inr s1.2)
def jG (p0:(List ai)):Option (List Int) :=
 (iw (jG.s1 p0) (0,[])).bind fun z5 =>
 some z5
def slices_Index_int.s1 (p0:(List Int)) (p1:Int) (s1:Int):Option (Sum Int (Sum Unit Int)) :=
 if s1 < (p0.length:Int) then
  (at_ p0 s1).bind fun x3 =>
  if p1=x3 then
   some (.inr (.inr s1))
  else
   some (.inl (w (s1+1)))
 else
  some (.inr (.inl ()))
def slices_Index_int (p0:(List Int)) (p1:Int):Option Int :=
 (iw (slices_Index_int.s1 p0 p1) 0).bind fun z5=>match z5 with
 | .inl v6 =>
  some (-1)
 | .inr r7=>some r7
def slices_Contains_int (p0:(List Int)) (p1:Int):Option Bool :=
 (slices_Index_int p0 p1).bind fun x1 =>
 some (decide (x1≥0))
def jH.s1 (p0:(List Int)) (s1:Int×Int):Option (Sum (Int×Int) Int) :=
 if s1.2 < (p0.length:Int) then
  (at_ p0 s1.2).bind fun x3 =>
  some (.inl ((mn (w (s1.1 * (mn x3 513))) 513),(w (s1.2+1))))
 else
  some (.inr s1.1)
def jH (p0:(List Int)):Option Int :=
 (iw (jH.s1 p0) (1,0)).bind fun z4 =>
 (slices_Contains_int p0 0).bind fun x5 =>
 if x5=true then
  some 0
 else
  some z4
def uy (p0:(List ai)):Option Int :=
 (jG p0).bind fun x1 =>
 (jH x1).bind fun x2 =>
 some x2
def gZ.s1 (p0:(List aK)) (s1:Int):Option (Sum Int (Sum Unit Int)) :=
 if s1 < (p0.length:Int) then
  (at_ p0 s1).bind fun x3 =>
  if ¬ (x3.holds=true) then
   some (.inr (.inr x3.code))
  else
   some (.inl (w (s1+1)))
 else
  some (.inr (.inl ()))
def gZ (p0:(List aK)):Option Int :=
 (iw (gZ.s1 p0) 0).bind fun z5=>match z5 with
 | .inl v6 =>
  some 0
 | .inr r7=>some r7
def og (p0:(List ai)):Option Int :=
 if (p0.length:Int) > 7 then
  some 32
 else
  (eU p0).bind fun x2 =>
  if x2=true then
   some 2
  else
   (eX p0).bind fun x4 =>
   if ¬ (x4=true) then
    (uy p0).bind fun x6 =>
    (gZ [(aK.mk (decide (x6≤512)) 8)]).bind fun x7 =>
    some x7
   else
    (gZ [(aK.mk false 8)]).bind fun x8 =>
    some x8
def eF (p0:Int):Bool :=
 (bz p0 (-2147483648) 2147483647)
def oO (p0:Int) (p1:Int):Option Int :=
 (gZ [(aK.mk (eF p1) 2)]).bind fun x1 =>
 some x1
def bY.s1 (p0:(List Int)) (s1:Int):Option (Sum Int (Sum Unit (Int×Int))) :=
 if s1 < (p0.length:Int) then
  (at_ p0 s1).bind fun x3 =>
  (oO s1 x3).bind fun x4 =>
  if ¬ x4=0 then
   some (.inr (.inr (s1,x4)))
  else
   some (.inl (w (s1+1)))
 else
  some (.inr (.inl ()))
def bY (p0:(List Int)):Option (Int×Int) :=
 (iw (bY.s1 p0) 0).bind fun z6=>match z6 with
 | .inl v7 =>
  some (0,0)
 | .inr r8=>some r8
def pF (p0:ag):Option (Int×Int) :=
 (og p0.Bounds).bind fun x1 =>
 if ¬ x1=0 then
  some (0,x1)
 else
  (uy p0.Bounds).bind fun x3 =>
  if ¬ (p0.Elements.length:Int)=x3 then
   some (0,10)
  else
   (bY p0.Elements).bind fun x5 =>
   some (x5.1,x5.2)
def qQ (p0:Int) (p1:ag):Option Int :=
 (pF p1).bind fun x1 =>
 some x1.2
def bM.s1 (p0:(List ag)) (s1:Int):Option (Sum Int (Sum Unit (Int×Int))) :=
 if s1 < (p0.length:Int) then
  (at_ p0 s1).bind fun x3 =>
  (qQ s1 x3).bind fun x4 =>
  if ¬ x4=0 then
   some (.inr (.inr (s1,x4)))
  else
   some (.inl (w (s1+1)))
 else
  some (.inr (.inl ()))
def bM (p0:(List ag)):Option (Int×Int) :=
 (iw (bM.s1 p0) 0).bind fun z6=>match z6 with
 | .inl v7 =>
  some (0,0)
 | .inr r8=>some r8
def rG (p0:(List ag)):Option Int :=
 if (p0.length:Int) > 6 then
  some 8
 else
  (bM p0).bind fun x2 =>
  some x2.2
def bW (p0:Int) (p1:Int) (p2:Int):Bool :=
 ((decide (p0≥p1))&&(decide (p0≤p2)))
def nS (p0:az):Option Int :=
 if ¬ ((bz p0.Kind 0 2)=true) then
  some 15
 else
  if ¬ (p0.Kind=1) then
   if (bF p0.Low)=true then
    if (bF p0.High)=true then
     (gZ [(aK.mk ((((p0.Kind != 2) || (p0.Low==0))&&((p0.Kind==1) || ((p0.High==0)&&(p0.Step==0))))&&((p0.Kind==2) || ((p0.List.length:Int)==0))) 3),(aK.mk true 11),(aK.mk (bF p0.Step) 2)]).bind fun x17 =>
     some x17
    else
     (gZ [(aK.mk ((((p0.Kind != 2) || (p0.Low==0))&&((p0.Kind==1) || ((p0.High==0)&&(p0.Step==0))))&&((p0.Kind==2) || ((p0.List.length:Int)==0))) 3),(aK.mk true 11),(aK.mk false 2)]).bind fun x18 =>
     some x18
   else
    (gZ [(aK.mk ((((p0.Kind != 2) || (p0.Low==0))&&((p0.Kind==1) || ((p0.High==0)&&(p0.Step==0))))&&((p0.Kind==2) || ((p0.List.length:Int)==0))) 3),(aK.mk true 11),(aK.mk false 2)]).bind fun x19 =>
    some x19
  else
   if (bF p0.Low)=true then
    if (bF p0.High)=true then
     (gZ [(aK.mk ((((p0.Kind != 2) || (p0.Low==0))&&((p0.Kind==1) || ((p0.High==0)&&(p0.Step==0))))&&((p0.Kind==2) || ((p0.List.length:Int)==0))) 3),(aK.mk (p0.Step != 0) 11),(aK.mk (bF p0.Step) 2)]).bind fun x22 =>
     some x22
    else
     (gZ [(aK.mk ((((p0.Kind != 2) || (p0.Low==0))&&((p0.Kind==1) || ((p0.High==0)&&(p0.Step==0))))&&((p0.Kind==2) || ((p0.List.length:Int)==0))) 3),(aK.mk (p0.Step != 0) 11),(aK.mk false 2)]).bind fun x23 =>
     some x23
   else
    (gZ [(aK.mk ((((p0.Kind != 2) || (p0.Low==0))&&((p0.Kind==1) || ((p0.High==0)&&(p0.Step==0))))&&((p0.Kind==2) || ((p0.List.length:Int)==0))) 3),(aK.mk (p0.Step != 0) 11),(aK.mk false 2)]).bind fun x24 =>
    some x24
def uJ (p0:az):Option Int :=
 if p0.Step > 0 then
  (quo .i64 (w ((w (p0.High - p0.Low))+p0.Step)) p0.Step).bind fun x2 =>
  some (mx 0 x2)
 else
  (quo .i64 (w ((w (p0.Low - p0.High)) - p0.Step)) (w (0 - p0.Step))).bind fun x3 =>
  some (mx 0 x3)
def slices_Clone_int (p0:(List Int)):Option (List Int) :=
 (app ([]:List Int) p0).bind fun x1 =>
 some x1
def pG (p0:Int) (p1:ai):Bool :=
 (!(bz p0 p1.Low p1.High))
def dw.s1 (p0:(List Int)) (p1_0:ai) (s1:Int):Option (Sum Int (Sum Unit Int)) :=
 if s1 < (p0.length:Int) then
  (at_ p0 s1).bind fun x3 =>
  if (pG x3 p1_0)=true then
   some (.inr (.inr s1))
  else
   some (.inl (w (s1+1)))
 else
  some (.inr (.inl ()))
def dw (p0:(List Int)) (p1_0:ai):Option Int :=
 (iw (dw.s1 p0 p1_0) 0).bind fun z5=>match z5 with
 | .inl v6 =>
  some (-1)
 | .inr r7=>some r7
def iq (p0:(List Int)) (p1_0:ai):Option Bool :=
 (dw p0 p1_0).bind fun x1 =>
 some (decide (x1≥0))
def gq.j1 (p0:ai) (a3:(List Int)):Option ((List Int)×Int) :=
 (iq a3 p0).bind fun x4 =>
 if x4=true then
  some (([]:List Int),33)
 else
  some (a3,0)
def gq.s2 (p1:az) (x5:Int) (s7:Int×List Int):Option (Sum (Int×List Int) (List Int)) :=
 if s7.1 < x5 then
  (app s7.2 ([(w (p1.Low+(w (s7.1 * p1.Step))))]:List Int)).bind fun x9 =>
  some (.inl ((w (s7.1+1)),x9))
 else
  some (.inr s7.2)
def gq (p0:ai) (p1:az):Option ((List Int)×Int) :=
 (nS p1).bind fun x1 =>
 if ¬ x1=0 then
  some (([]:List Int),x1)
 else
  if p1.Kind=0 then
   gq.j1 p0 [p1.Low]
  else
   if p1.Kind=1 then
    (uJ p1).bind fun x5 =>
    if x5 > 512 then
     some (([]:List Int),8)
    else
     (iw (gq.s2 p1 x5) (0,[])).bind fun z10 =>
     gq.j1 p0 z10
   else
    if (p1.List.length:Int) > 512 then
     some (([]:List Int),8)
    else
     (slices_Clone_int p1.List).bind fun x13 =>
     gq.j1 p0 x13
def jX.s1 (p0:(List Int)) (s1:Int×Int×List Int):Option (Sum (Int×Int×List Int) (List Int)) :=
 if s1.2.1 < (p0.length:Int) then
  (at_ p0 s1.2.1).bind fun x3 =>
  (app s1.2.2 ([s1.1]:List Int)).bind fun x4 =>
  some (.inl ((w (s1.1 * x3)),(w (s1.2.1+1)),x4))
 else
  some (.inr s1.2.2)
def jX (p0:(List Int)):Option (List Int) :=
 (iw (jX.s1 p0) (1,0,[])).bind fun z5 =>
 some z5
def kU.s1 (p0:(List Int)) (s1:Int×Int×List Int):Option (Sum (Int×Int×List Int) (List Int)) :=
 if s1.2.1 < (p0.length:Int) then
  (at_ p0 s1.2.1).bind fun x3 =>
  (rem s1.1 x3).bind fun x4 =>
  (app s1.2.2 ([x4]:List Int)).bind fun x5 =>
  (quo .i64 s1.1 x3).bind fun x6 =>
  some (.inl (x6,(w (s1.2.1+1)),x5))
 else
  some (.inr s1.2.2)
def kU (p0:(List Int)) (p1:Int):Option (List Int) :=
 (iw (kU.s1 p0) (p1,0,[])).bind fun z7 =>
 some z7
def eP.s1 (p0:(List ai)) (p1:(List az)) (s2:Int×List Int×List (List Int)×List Int):Option (Sum (Int×List Int×List (List Int)×List Int) (Sum (List Int×List (List Int)×List Int) (aB×Int))) :=
 if s2.1 < (p1.length:Int) then
  (at_ p1 s2.1).bind fun x4 =>
  (at_ p0 s2.1).bind fun x5 =>
  (gq x5 x4).bind fun x6 =>
  if ¬ x6.2=0 then
   some (.inr (.inr ((aB.mk [] [] false),x6.2)))
  else
   (app s2.2.2.1 ([x6.1]:List (List Int))).bind fun x8 =>
   (app s2.2.2.2 ([(x6.1.length:Int)]:List Int)).bind fun x9 =>
   if ¬ x4.Kind=0 then
    (app s2.2.1 ([(x6.1.length:Int)]:List Int)).bind fun x11 =>
    some (.inl ((w (s2.1+1)),x11,x8,x9))
   else
    some (.inl ((w (s2.1+1)),s2.2.1,x8,x9))
 else
  some (.inr (.inl (s2.2.1,s2.2.2.1,s2.2.2.2)))
def eP.s3 (p0:(List ai)) (v13:List Int×List (List Int)×List Int) (x17:(List Int)) (x20:(List Int)) (s21:Int×Int):Option (Sum (Int×Int) Int) :=
 if s21.2 < (x20.length:Int) then
  (at_ x20 s21.2).bind fun x23 =>
  (at_ x17 s21.2).bind fun x24 =>
  (at_ v13.2.1 s21.2).bind fun x25 =>
  (at_ x25 x23).bind fun x26 =>
  (at_ p0 s21.2).bind fun x27 =>
  some (.inl ((w (s21.1+(w (x24 * (w (x26 - x27.Low)))))),(w (s21.2+1))))
 else
  some (.inr s21.1)
def eP.s2 (p0:(List ai)) (v13:List Int×List (List Int)×List Int) (x14:Int) (x17:(List Int)) (s18:Int×Bool×List Int×List (Int×Bool)):Option (Sum (Int×Bool×List Int×List (Int×Bool)) (Bool×List Int)) :=
 if s18.1 < x14 then
  (kU v13.2.2 s18.1).bind fun x20 =>
  (iw (eP.s3 p0 v13 x17 x20) (0,0)).bind fun z28 =>
  (app s18.2.2.1 ([z28]:List Int)).bind fun x31 =>
  some (.inl ((w (s18.1+1)),(s18.2.1 || ((NT s18.2.2.2 z28).getD false)),x31,(Wu s18.2.2.2 z28 true)))
 else
  some (.inr (s18.2.1,s18.2.2.1))
def eP (p0:(List ai)) (p1:(List az)):Option (aB×Int) :=
 if ¬ (p1.length:Int)=(p0.length:Int) then
  some ((aB.mk [] [] false),32)
 else
  (iw (eP.s1 p0 p1) (0,[],[],[])).bind fun z12=>match z12 with
  | .inl v13 =>
   (jH v13.2.2).bind fun x14 =>
   if x14 > 512 then
    some ((aB.mk [] [] false),8)
   else
    (jG p0).bind fun x16 =>
    (jX x16).bind fun x17 =>
    (iw (eP.s2 p0 v13 x14 x17) (0,false,[],[])).bind fun z33 =>
    some ((aB.mk v13.1 z33.2 z33.1),0)
  | .inr r35=>some r35
def qj (p0:(List ai)) (p1:(List az)):Option (aB×Int) :=
 (og p0).bind fun x1 =>
 if ¬ x1=0 then
  some ((aB.mk [] [] false),x1)
 else
  (eP p0 p1).bind fun x3 =>
  some (x3.1,x3.2)
def gm.s1 (p0:(List aQ)) (s1:Int):Option (Sum Int (Sum Unit Int)) :=
 if s1 < (p0.length:Int) then
  (at_ p0 s1).bind fun x3 =>
  if ¬ (x3.holds=true) then
   some (.inr (.inr x3.code))
  else
   some (.inl (w (s1+1)))
 else
  some (.inr (.inl ()))
def gm (p0:(List aQ)):Option Int :=
 (iw (gm.s1 p0) 0).bind fun z5=>match z5 with
 | .inl v6 =>
  some 0
 | .inr r7=>some r7
def iG.s1 (p0:(List Int)) (s1:Int):Option (Sum Int (Sum Unit Int)) :=
 if s1 < (p0.length:Int) then
  (at_ p0 s1).bind fun x3 =>
  if ¬ x3=0 then
   some (.inr (.inr x3))
  else
   some (.inl (w (s1+1)))
 else
  some (.inr (.inl ()))
def iG (p0:(List Int)):Option Int :=
 (iw (iG.s1 p0) 0).bind fun z5=>match z5 with
 | .inl v6 =>
  some 0
 | .inr r7=>some r7
def oZ (p0:(List ag)) (p1:Int) (p2:(List az)):Option (aB×Int) :=
 if ¬ ((bW p1 0 (w ((p0.length:Int) - 1)))=true) then
  some ((aB.mk [] [] false),6)
 else
  (at_ p0 p1).bind fun x2 =>
  (qj x2.Bounds p2).bind fun x3 =>
  (gm [(aQ.mk (decide ((x3.1.Offsets.length:Int)≤60)) 8)]).bind fun x4 =>
  (iG [x3.2,x4]).bind fun x5 =>
  some (x3.1,x5)
def qN (p0:ah):Bool :=
 ((p0.Kind==8) || (p0.Kind==9))
def aV.s1 (p0:(List ah)) (s1:Int):Option (Sum Int (Sum Unit Int)) :=
 if s1 < (p0.length:Int) then
  (at_ p0 s1).bind fun x3 =>
  if (qN x3)=true then
   some (.inr (.inr s1))
  else
   some (.inl (w (s1+1)))
 else
  some (.inr (.inl ()))
def aV (p0:(List ah)):Option Int :=
 (iw (aV.s1 p0) 0).bind fun z5=>match z5 with
 | .inl v6 =>
  some (-1)
 | .inr r7=>some r7
def dO (p0:(List ah)):Option Bool :=
 (aV p0).bind fun x1 =>
 some (decide (x1≥0))
def bV (p0:Int):Bool :=
 ((decide (p0≥2))&&(decide (p0≤6)))
def fF (p0:ah):(List Int) :=
 if (bV p0.Kind)=true then
  [p0.A,p0.B]
 else
  if p0.Kind=7 then
   [p0.A]
  else
   ([]:List Int)
def jq.j1 (p0:ah) (a1:Bool):Option Bool :=
 some (((((((p0.Kind==0) || (p0.Value==0))&&(a1 || (p0.Var==0)))&&((bV p0.Kind) || (p0.B==0)))&&(((bV p0.Kind) || (p0.Kind==7)) || (p0.A==0)))&&((p0.Kind==1) || ((p0.Subscripts.length:Int)==0)))&&((p0.Kind==9) || ((p0.Forms.length:Int)==0)))
def jq (p0:ah):Option Bool :=
 if p0.Kind=1 then
  jq.j1 p0 true
 else
  if p0.Kind=8 then
   jq.j1 p0 true
  else
   jq.j1 p0 (p0.Kind==9)
def iT.s1 (p0:Int) (p1:ah) (s2:Int×List Int):Option (Sum (Int×List Int) (Sum (List Int) (Int×List Int))) :=
 if s2.1 < ((fF p1).length:Int) then
  (at_ (fF p1) s2.1).bind fun x4 =>
  if ¬ ((bW x4 0 (w (p0 - 1)))=true) then
   some (.inr (.inr (3,s2.2)))
  else
   (at_ s2.2 x4).bind fun x6 =>
   (at_ s2.2 x4).bind fun x7 =>
   some (.inl ((w (s2.1+1)),(s2.2.set x4.toNat (w (x6+1)))))
 else
  some (.inr (.inl s2.2))
def iT (p0:Int) (p1:ah) (b1:(List Int)):Option (Int×List Int) :=
 if ¬ ((bW p1.Kind 0 9)=true) then
  some (15,b1)
 else
  (iw (iT.s1 p0 p1) (0,b1)).bind fun z8=>match z8 with
  | .inl v9 =>
   (jq p1).bind fun x10 =>
   (gm [(aQ.mk x10 3)]).bind fun x11 =>
   some (x11,v9)
  | .inr r12=>some r12
def bD.s1 (p0:(List ah)) (s1:Int×List Int):Option (Sum (Int×List Int) (Sum (List Int) (Int×Int×List Int))) :=
 if s1.1 < (p0.length:Int) then
  (at_ p0 s1.1).bind fun x3 =>
  (iT s1.1 x3 s1.2).bind fun x4 =>
  if ¬ x4.1=0 then
   some (.inr (.inr (s1.1,x4.1,x4.2)))
  else
   some (.inl ((w (s1.1+1)),x4.2))
 else
  some (.inr (.inl s1.2))
def bD (p0:(List ah)) (b1:(List Int)):Option (Int×Int×List Int) :=
 (iw (bD.s1 p0) (0,b1)).bind fun z6=>match z6 with
 | .inl v7 =>
  some (0,0,v7)
 | .inr r8=>some r8
def rU (p0:Int) (p1:Int) (p2:Int):Option Int :=
 (gm [(aQ.mk (((p0==p2)&&(p1==0)) || ((p0 != p2)&&(p1==1))) 3)]).bind fun x7 =>
 some x7
def dm.s1 (p0:(List Int)) (p1_0:Int) (s1:Int):Option (Sum Int (Sum Unit (Int×Int))) :=
 if s1 < (p0.length:Int) then
  (at_ p0 s1).bind fun x3 =>
  (rU s1 x3 p1_0).bind fun x4 =>
  if ¬ x4=0 then
   some (.inr (.inr (s1,x4)))
  else
   some (.inl (w (s1+1)))
 else
  some (.inr (.inl ()))
def dm (p0:(List Int)) (p1_0:Int):Option (Int×Int) :=
 (iw (dm.s1 p0 p1_0) 0).bind fun z6=>match z6 with
 | .inl v7 =>
  some (0,0)
 | .inr r8=>some r8
def tV (p0:(List ah)):Option Int :=
 (gm [(aQ.mk (decide ((p0.length:Int) > 0)) 17),(aQ.mk (decide ((p0.length:Int)≤40)) 8)]).bind fun x1 =>
 if ¬ x1=0 then
  some x1
 else
  (IX (p0.length:Int) 0).bind fun x3 =>
  (bD p0 x3).bind fun x4 =>
  if ¬ x4.2.1=0 then
   some x4.2.1
  else
   (dm x4.2.2 (w ((p0.length:Int) - 1))).bind fun x6 =>
   some x6.2
def slices_Equal_int.s1 (p0:(List Int)) (p1:(List Int)) (s2:Int):Option (Sum Int (Sum Unit Bool)) :=
 if s2 < (p0.length:Int) then
  (at_ p0 s2).bind fun x4 =>
  (at_ p1 s2).bind fun x5 =>
  if ¬ x4=x5 then
   some (.inr (.inr false))
  else
   some (.inl (w (s2+1)))
 else
  some (.inr (.inl ()))
def slices_Equal_int (p0:(List Int)) (p1:(List Int)):Option Bool :=
 if ¬ (p0.length:Int)=(p1.length:Int) then
  some false
 else
  (iw (slices_Equal_int.s1 p0 p1) 0).bind fun z7=>match z7 with
  | .inl v8 =>
   some true
  | .inr r9=>some r9
def wI (p0:(List Int)) (p1:(List Int)):Option ((List Int)×Bool) :=
 if (p0.length:Int)=0 then
  some (p1,true)
 else
  if (p1.length:Int)=0 then
   some (p0,true)
  else
   (slices_Equal_int p0 p1).bind fun x3 =>
   some (p0,x3)
def oW (p0:Int) (p1:ah) (p2:(List ag)) (pb1_0:(List ah)) (b2:(List aB)) (b3:(List (List Int))):Option (Int×List aB×List (List Int)) :=
 if p1.Kind=0 then
  (gm [(aQ.mk (bW p1.Value (-2147483648) 2147483647) 2)]).bind fun x2 =>
  some (x2,b2,b3)
 else
  if p1.Kind=1 then
   (oZ p2 p1.Var p1.Subscripts).bind fun x4 =>
   (at_ b2 p0).bind fun x5 =>
   (at_ b3 p0).bind fun x6 =>
   some (x4.2,(b2.set p0.toNat x4.1),(b3.set p0.toNat x4.1.Extents))
  else
   if p1.Kind=7 then
    (at_ b3 p1.A).bind fun x8 =>
    (at_ b3 p0).bind fun x9 =>
    some (0,b2,(b3.set p0.toNat x8))
   else
    (at_ b3 p1.A).bind fun x10 =>
    (at_ b3 p1.B).bind fun x11 =>
    (wI x10 x11).bind fun x12 =>
    (at_ b3 p0).bind fun x13 =>
    (gm [(aQ.mk x12.2 10)]).bind fun x14 =>
    some (x14,b2,(b3.set p0.toNat x12.1))
def bG.s1 (p0:(List ah)) (p1_0:(List ag)) (pb1_0:(List ah)) (s1:Int×List aB×List (List Int)):Option (Sum (Int×List aB×List (List Int)) (Sum (List aB×List (List Int)) (Int×Int×List aB×List (List Int)))) :=
 if s1.1 < (p0.length:Int) then
  (at_ p0 s1.1).bind fun x3 =>
  (oW s1.1 x3 p1_0 pb1_0 s1.2.1 s1.2.2).bind fun x4 =>
  if ¬ x4.1=0 then
   some (.inr (.inr (s1.1,x4.1,x4.2.1,x4.2.2)))
  else
   some (.inl ((w (s1.1+1)),x4.2.1,x4.2.2))
 else
  some (.inr (.inl (s1.2.1,s1.2.2)))
def bG (p0:(List ah)) (p1_0:(List ag)) (pb1_0:(List ah)) (b2:(List aB)) (b3:(List (List Int))):Option (Int×Int×List aB×List (List Int)) :=
 (iw (bG.s1 p0 p1_0 pb1_0) (0,b2,b3)).bind fun z6=>match z6 with
 | .inl v7 =>
  some (0,0,v7.1,v7.2)
 | .inr r8=>some r8
def uI (p0:(List ag)) (p1:(List ah)):Option ((Option dS)×Int) :=
 (dO p1).bind fun x1 =>
 (tV p1).bind fun x2 =>
 (gm [(aQ.mk (!x1) 15)]).bind fun x3 =>
 (iG [x2,x3]).bind fun x4 =>
 if ¬ x4=0 then
  some (none,x4)
 else
  (IX (p1.length:Int) (aB.mk [] [] false)).bind fun x6 =>
  (IX (p1.length:Int) []).bind fun x7 =>
  (bG p1 p0 p1 x6 x7).bind fun x8 =>
  some ((some (dS.mk p1 x8.2.2.1 x8.2.2.2)),x8.2.1)
def qf (p0:(Option dS)):Option (List Int) :=
 (p0).bind fun x1 =>
 (at_ x1.shapes (w ((x1.shapes.length:Int) - 1))).bind fun x2 =>
 some x2
def pU (p0:(List ag)) (p1:(List ah)) (p2:(List Int)):Option ((Option dS)×Int) :=
 (uI p0 p1).bind fun x1 =>
 if ¬ x1.2=0 then
  some (none,x1.2)
 else
  (qf x1.1).bind fun x3 =>
  if (x3.length:Int)=0 then
   (gm [(aQ.mk true 10)]).bind fun x5 =>
   some (x1.1,x5)
  else
   (slices_Equal_int x3 p2).bind fun x6 =>
   (gm [(aQ.mk x6 10)]).bind fun x7 =>
   some (x1.1,x7)
def lg.j1 (p0:(List ag)) (p1:aC) (x3:aB×Int) (x7:(Option dS)×Int) (a9:(Option dS)):Option ((Option aX)×Int) :=
 if (p1.Else.length:Int) > 0 then
  if (a9).isNone=true then
   some (none,3)
  else
   (pU p0 p1.Else x3.1.Extents).bind fun x12 =>
   if ¬ x12.2=0 then
    some (none,x12.2)
   else
    some ((some (aX.mk p0 p1.Var x3.1.Offsets x7.1 a9 x12.1)),0)
 else
  some ((some (aX.mk p0 p1.Var x3.1.Offsets x7.1 a9 none)),0)
def lg (p0:(List ag)) (p1:aC):Option ((Option aX)×Int) :=
 (rG p0).bind fun x1 =>
 if ¬ x1=0 then
  some (none,x1)
 else
  (oZ p0 p1.Var p1.Subscripts).bind fun x3 =>
  (gm [(aQ.mk (!x3.1.ManyOne) 23)]).bind fun x4 =>
  (iG [x3.2,x4]).bind fun x5 =>
  if ¬ x5=0 then
   some (none,x5)
  else
   (pU p0 p1.Value x3.1.Extents).bind fun x7 =>
   if ¬ x7.2=0 then
    some (none,x7.2)
   else
    if (p1.Mask.length:Int) > 0 then
     (pU p0 p1.Mask x3.1.Extents).bind fun x10 =>
     if ¬ x10.2=0 then
      some (none,x10.2)
     else
      lg.j1 p0 p1 x3 x7 x10.1
    else
     lg.j1 p0 p1 x3 x7 none
def lH (p0:(List ai)):Option (List ai) :=
 (app ([]:List ai) p0).bind fun x1 =>
 some x1
def lu.s1 (p0:(List ag)) (s1:Int×List ag):Option (Sum (Int×List ag) (List ag)) :=
 if s1.1 < (p0.length:Int) then
  (at_ p0 s1.1).bind fun x3 =>
  (lH x3.Bounds).bind fun x4 =>
  (slices_Clone_int x3.Elements).bind fun x5 =>
  (app s1.2 [(ag.mk x4 x5)]).bind fun x6 =>
  some (.inl ((w (s1.1+1)),x6))
 else
  some (.inr s1.2)
def lu (p0:(List ag)):Option (List ag) :=
 (iw (lu.s1 p0) (0,[])).bind fun z7 =>
 some z7
def qM (p0:aB) (p1:Int):Option Int :=
 if (p0.Extents.length:Int)=0 then
  (at_ p0.Offsets 0).bind fun x2 =>
  some x2
 else
  (at_ p0.Offsets p1).bind fun x3 =>
  some x3
def oI (p0:Bool):Int :=
 if p0=true then
  1
 else
  0
def ng (p0:Int) (p1:Int) (p2:Int):Int :=
 if p0=2 then
  (IntKind.i32.wrap (p1+p2))
 else
  if p0=3 then
   (IntKind.i32.wrap (p1 - p2))
  else
   if p0=4 then
    (IntKind.i32.wrap (p1 * p2))
   else
    if p0=5 then
     (oI (decide (p1 < p2)))
    else
     if p0=6 then
      (oI (p1==p2))
     else
      (oI (p1==0))
def iH.s1 (p1:(List ag)) (p2:Int) (x1:dS) (s3:Int×List Int):Option (Sum (Int×List Int) (List Int)) :=
 if s3.1 < (x1.e.length:Int) then
  (at_ x1.e s3.1).bind fun x5 =>
  if x5.Kind=0 then
   (at_ s3.2 s3.1).bind fun x7 =>
   some (.inl ((w (s3.1+1)),(s3.2.set s3.1.toNat (IntKind.i32.wrap x5.Value))))
  else
   if x5.Kind=1 then
    (at_ p1 x5.Var).bind fun x9 =>
    (at_ x1.sections s3.1).bind fun x10 =>
    (qM x10 p2).bind fun x11 =>
    (at_ x9.Elements x11).bind fun x12 =>
    (at_ s3.2 s3.1).bind fun x13 =>
    some (.inl ((w (s3.1+1)),(s3.2.set s3.1.toNat (IntKind.i32.wrap x12))))
   else
    (at_ s3.2 x5.A).bind fun x14 =>
    (at_ s3.2 x5.B).bind fun x15 =>
    (at_ s3.2 s3.1).bind fun x16 =>
    some (.inl ((w (s3.1+1)),(s3.2.set s3.1.toNat (ng x5.Kind x14 x15))))
 else
  some (.inr s3.2)
def iH (p0:(Option dS)) (p1:(List ag)) (p2:Int):Option Int :=
 (p0).bind fun x1 =>
 (IX (x1.e.length:Int) 0).bind fun x2 =>
 (iw (iH.s1 p1 p2 x1) (0,x2)).bind fun z17 =>
 (at_ z17 (w ((z17.length:Int) - 1))).bind fun x18 =>
 some (w x18)
def iI (p0:(Option aX)) (p1:Int):Option (Option dS) :=
 (p0).bind fun x1 =>
 if (x1.mask).isNone=true then
  some x1.value
 else
  (iH x1.mask x1.store p1).bind fun x3 =>
  if ¬ x3=0 then
   some x1.value
  else
   some x1.less
def jF.s1 (p0:(List ag)) (x1:(Option aX)×Int) (x4:aX) (s5:Int×List ag):Option (Sum (Int×List ag) (List ag)) :=
 if s5.1 < (x4.cells.length:Int) then
  (at_ x4.cells s5.1).bind fun x7 =>
  (iI x1.1 s5.1).bind fun x8 =>
  if (x8).isSome=true then
   (at_ s5.2 x4.at_).bind fun x10 =>
   (iH x8 p0 s5.1).bind fun x11 =>
   (at_ x10.Elements x7).bind fun x12 =>
   some (.inl ((w (s5.1+1)),(s5.2.set x4.at_.toNat ({ x10 with Elements:=(x10.Elements.set x7.toNat x11) }:ag))))
  else
   some (.inl ((w (s5.1+1)),s5.2))
 else
  some (.inr s5.2)
def jF (p0:(List ag)) (p1:aC):Option ((List ag)×Int) :=
 (lg p0 p1).bind fun x1 =>
 if ¬ x1.2=0 then
  some (([]:List ag),x1.2)
 else
  (lu p0).bind fun x3 =>
  (x1.1).bind fun x4 =>
  (iw (jF.s1 p0 x1 x4) (0,x3)).bind fun z13 =>
  some (z13,0)
def iK (p0_0:List Int):Option (List Int):=Ei p0_0
def je.s1 (x4:(List Int)) (s5:Bool×Int):Option (Sum (Bool×Int) Bool) :=
 if s5.2 < (x4.length:Int) then
  (at_ x4 s5.2).bind fun x7 =>
  some (.inl ((s5.1&&(x7==s5.2)),(w (s5.2+1))))
 else
  some (.inr s5.1)
def je (p0:(List ag)) (p1:aC) (p2:(List Int)):Option ((Option aX)×Int) :=
 (lg p0 p1).bind fun x1 =>
 if ¬ x1.2=0 then
  some (none,x1.2)
 else
  (x1.1).bind fun x3 =>
  (iK p2).bind fun x4 =>
  (iw (je.s1 x4) (((p2.length:Int)==(x3.cells.length:Int)),0)).bind fun z10 =>
  (gm [(aQ.mk z10 3)]).bind fun x11 =>
  some (x1.1,x11)
def jo.s1 (p2:(List Int)) (x1:(Option aX)×Int) (s4:Int×List ag):Option (Sum (Int×List ag) (List ag)) :=
 if s4.1 < (p2.length:Int) then
  (at_ p2 s4.1).bind fun x6 =>
  (iI x1.1 x6).bind fun x7 =>
  if (x7).isSome=true then
   (x1.1).bind fun x9 =>
   (at_ s4.2 x9.at_).bind fun x10 =>
   (at_ x9.cells x6).bind fun x11 =>
   (iH x7 s4.2 x6).bind fun x12 =>
   (at_ x10.Elements x11).bind fun x13 =>
   some (.inl ((w (s4.1+1)),(s4.2.set x9.at_.toNat ({ x10 with Elements:=(x10.Elements.set x11.toNat x12) }:ag))))
  else
   some (.inl ((w (s4.1+1)),s4.2))
 else
  some (.inr s4.2)
def jo (p0:(List ag)) (p1:aC) (p2:(List Int)):Option ((List ag)×Int) :=
 (je p0 p1 p2).bind fun x1 =>
 if ¬ x1.2=0 then
  some (([]:List ag),x1.2)
 else
  (lu p0).bind fun x3 =>
  (iw (jo.s1 p2 x1) (0,x3)).bind fun z14 =>
  some (z14,0)
def fU.s1 (p0:(Option aX)) (p1:Int) (p2:Int) (x3:dS) (s4:Int):Option (Sum Int (Sum Unit Bool)) :=
 if s4 < (x3.e.length:Int) then
  (at_ x3.e s4).bind fun x6 =>
  if x6.Kind=1 then
   (p0).bind fun x8 =>
   if x6.Var=x8.at_ then
    (at_ x3.sections s4).bind fun x10 =>
    (qM x10 p1).bind fun x11 =>
    if x11=p2 then
     some (.inr (.inr true))
    else
     some (.inl (w (s4+1)))
   else
    some (.inl (w (s4+1)))
  else
   some (.inl (w (s4+1)))
 else
  some (.inr (.inl ()))
def fU (p0:(Option aX)) (p1:Int) (p2:Int):Option Bool :=
 (iI p0 p1).bind fun x1 =>
 if (x1).isNone=true then
  some false
 else
  (x1).bind fun x3 =>
  (iw (fU.s1 p0 p1 p2 x3) 0).bind fun z13=>match z13 with
  | .inl v14 =>
   some false
  | .inr r15=>some r15
def bT.s2 (p0:(Option aX)) (x1:aX) (s2:Int×List ay) (x4:Int) (s7:Int×List ay):Option (Sum (Int×List ay) (List ay)) :=
 if s7.1 < (x1.cells.length:Int) then
  if ¬ s7.1=s2.1 then
   (fU p0 s7.1 x4).bind fun x10 =>
   if x10=true then
    (app s7.2 ([(ay.mk s2.1 s7.1)]:List ay)).bind fun x12 =>
    some (.inl ((w (s7.1+1)),x12))
   else
    some (.inl ((w (s7.1+1)),s7.2))
  else
   some (.inl ((w (s7.1+1)),s7.2))
 else
  some (.inr s7.2)
def bT.s1 (p0:(Option aX)) (x1:aX) (s2:Int×List ay):Option (Sum (Int×List ay) (List ay)) :=
 if s2.1 < (x1.cells.length:Int) then
  (at_ x1.cells s2.1).bind fun x4 =>
  (iI p0 s2.1).bind fun x5 =>
  if (x5).isNone=true then
   some (.inl ((w (s2.1+1)),s2.2))
  else
   (iw (bT.s2 p0 x1 s2 x4) (0,s2.2)).bind fun z13 =>
   some (.inl ((w (s2.1+1)),z13))
 else
  some (.inr s2.2)
def bT (p0:(Option aX)):Option (List ay) :=
 (p0).bind fun x1 =>
 (iw (bT.s1 p0 x1) (0,[])).bind fun z15 =>
 some z15
def nG (p0:(List ag)) (p1:aC):Option ((List ay)×Int) :=
 (lg p0 p1).bind fun x1 =>
 if ¬ x1.2=0 then
  some (([]:List ay),x1.2)
 else
  (bT x1.1).bind fun x3 =>
  some (x3,0)
def fJ.s1 (x3:(List ay)) (s4:Int×List (List Int)):Option (Sum (Int×List (List Int)) (List (List Int))) :=
 if s4.1 < (x3.length:Int) then
  (at_ x3 s4.1).bind fun x6 =>
  (at_ s4.2 x6.Reader).bind fun x7 =>
  (app x7 ([x6.Writer]:List Int)).bind fun x8 =>
  some (.inl ((w (s4.1+1)),(s4.2.set x6.Reader.toNat x8)))
 else
  some (.inr s4.2)
def fJ (p0:(Option aX)):Option (List (List Int)) :=
 (p0).bind fun x1 =>
 (IX (x1.cells.length:Int) ([]:List Int)).bind fun x2 =>
 (bT p0).bind fun x3 =>
 (iw (fJ.s1 x3) (0,x2)).bind fun z9 =>
 some z9
def bP.s2 (x7:(List Int)) (s8:Int×List Int):Option (Sum (Int×List Int) (List Int)) :=
 if s8.1 < (x7.length:Int) then
  (at_ x7 s8.1).bind fun x10 =>
  (at_ s8.2 x10).bind fun x11 =>
  (at_ s8.2 x10).bind fun x12 =>
  some (.inl ((w (s8.1+1)),(s8.2.set x10.toNat (w (x11+1)))))
 else
  some (.inr s8.2)
def bP.s1 (x3:(List (List Int))) (s5:Int×List Int):Option (Sum (Int×List Int) (List Int)) :=
 if s5.1 < (x3.length:Int) then
  (at_ x3 s5.1).bind fun x7 =>
  (iw (bP.s2 x7) (0,s5.2)).bind fun z13 =>
  some (.inl ((w (s5.1+1)),z13))
 else
  some (.inr s5.2)
def bP.s4 (x22:(List Int)) (s23:Int×List Int):Option (Sum (Int×List Int) (List Int)) :=
 if s23.1 < (x22.length:Int) then
  (at_ x22 s23.1).bind fun x25 =>
  (at_ s23.2 x25).bind fun x26 =>
  (at_ s23.2 x25).bind fun x27 =>
  some (.inl ((w (s23.1+1)),(s23.2.set x25.toNat (w (x26 - 1)))))
 else
  some (.inr s23.2)
def bP.s3 (x3:(List (List Int))) (s16:Int×List Int×List Int):Option (Sum (Int×List Int×List Int) (Sum (List Int) ((List Int)×Int))) :=
 if s16.1 < (x3.length:Int) then
  (slices_Index_int s16.2.1 0).bind fun x18 =>
  if x18 < 0 then
   some (.inr (.inr (([]:List Int),25)))
  else
   (app s16.2.2 ([x18]:List Int)).bind fun x20 =>
   (at_ s16.2.1 x18).bind fun x21 =>
   (at_ x3 x18).bind fun x22 =>
   (iw (bP.s4 x22) (0,(s16.2.1.set x18.toNat (-1)))).bind fun z28 =>
   some (.inl ((w (s16.1+1)),z28,x20))
 else
  some (.inr (.inl s16.2.2))
def bP (p0:(List ag)) (p1:aC):Option ((List Int)×Int) :=
 (lg p0 p1).bind fun x1 =>
 if ¬ x1.2=0 then
  some (([]:List Int),x1.2)
 else
  (fJ x1.1).bind fun x3 =>
  (IX (x3.length:Int) 0).bind fun x4 =>
  (iw (bP.s1 x3) (0,x4)).bind fun z15 =>
  (iw (bP.s3 x3) (0,z15,[])).bind fun z30=>match z30 with
  | .inl v31 =>
   some (v31,0)
  | .inr r32=>some r32
def jQ.j3 (x4:(List Int)) (s7:Int×List Bool×List (List Int)) (x9:Int) (a12:Bool):Option (Sum (Int×List Bool×List (List Int)) (Sum (List Bool×List (List Int)) (List Int))) :=
 if a12=true then
  (at_ s7.2.1 x9).bind fun x14 =>
  (slices_Clone_int x4).bind fun x15 =>
  (app x15 ([x9]:List Int)).bind fun x16 =>
  (app s7.2.2 ([x16]:List (List Int))).bind fun x17 =>
  some (.inl ((w (s7.1+1)),(s7.2.1.set x9.toNat true),x17))
 else
  some (.inl ((w (s7.1+1)),s7.2.1,s7.2.2))
def jQ.s2 (p1:Int) (x4:(List Int)) (x6:(List Int)) (s7:Int×List Bool×List (List Int)):Option (Sum (Int×List Bool×List (List Int)) (Sum (List Bool×List (List Int)) (List Int))) :=
 if s7.1 < (x6.length:Int) then
  (at_ x6 s7.1).bind fun x9 =>
  if x9=p1 then
   (neL x4).bind fun x11 =>
   some (.inr (.inr x11))
  else
   if x9 > p1 then
    (at_ s7.2.1 x9).bind fun x13 =>
    jQ.j3 x4 s7 x9 (!x13)
   else
    jQ.j3 x4 s7 x9 false
 else
  some (.inr (.inl (s7.2.1,s7.2.2)))
def jQ.s1 (p0:(List (List Int))) (p1:Int) (s2:List Bool×List (List Int)):Option (Sum (List Bool×List (List Int)) (Sum Unit (List Int))) :=
 if (s2.2.length:Int) > 0 then
  (at_ s2.2 0).bind fun x4 =>
  (at_ x4 (w ((x4.length:Int) - 1))).bind fun x5 =>
  (at_ p0 x5).bind fun x6 =>
  (iw (jQ.s2 p1 x4 x6) (0,s2.1,s2.2)).bind fun z18=>match z18 with
  | .inl v19 =>
   (cut v19.2 1 (v19.2.length:Int)).bind fun x20 =>
   some (.inl (v19.1,x20))
  | .inr r21=>some (.inr (.inr r21))
 else
  some (.inr (.inl ()))
def jQ (p0:(List (List Int))) (p1:Int):Option (List Int) :=
 (IX (p0.length:Int) false).bind fun x1 =>
 (iw (jQ.s1 p0 p1) (x1,[[p1]])).bind fun z22=>match z22 with
 | .inl v23 =>
  some []
 | .inr r24=>some r24
def qP.s1 (x3:(List (List Int))) (s4:(List Int)×Int):Option (Sum ((List Int)×Int) (List Int)) :=
 if s4.2 < (x3.length:Int) then
  (jQ x3 s4.2).bind fun x6 =>
  if ((!(x6.isEmpty))&&((s4.1.isEmpty) || (decide ((x6.length:Int) < (s4.1.length:Int)))))=true then
   some (.inl (x6,(w (s4.2+1))))
  else
   some (.inl (s4.1,(w (s4.2+1))))
 else
  some (.inr s4.1)
def qP (p0:(List ag)) (p1:aC):Option ((List Int)×Int) :=
 (lg p0 p1).bind fun x1 =>
 if ¬ x1.2=0 then
  none
 else
  (fJ x1.1).bind fun x3 =>
  (iw (qP.s1 x3) (([]:List Int),0)).bind fun z12 =>
  (gm [(aQ.mk (!(z12.isEmpty)) 12)]).bind fun x13 =>
  some (z12,x13)
def eY.F (self83:(List Int)→(List Int)→Option Bool) (p0:(List Int)) (p1:(List Int)):Option Bool :=
 if (((p0.length:Int)==0) || ((p1.length:Int)==0))=true then
  some (decide ((p0.length:Int) < (p1.length:Int)))
 else
  (at_ p0 0).bind fun x4 =>
  (at_ p1 0).bind fun x5 =>
  if x4 < x5 then
   some true
  else
   (at_ p0 0).bind fun x7 =>
   (at_ p1 0).bind fun x8 =>
   if x7=x8 then
    (cut p0 1 (p0.length:Int)).bind fun x10 =>
    (cut p1 1 (p1.length:Int)).bind fun x11 =>
    (self83 x10 x11).bind fun x12 =>
    some x12
   else
    some false
def eY.N:Nat→(List Int)→(List Int)→Option Bool
 | 0=>fun _ _=>none
 | n+1=>eY.F (eY.N n)
def eY (p0:(List Int)) (p1:(List Int)):Option Bool:=lim fun n=>eY.N n p0 p1
def qC (p0:(List Int)) (p1:(List Int)):Option Bool :=
 if (p0.length:Int)=(p1.length:Int) then
  (eY p0 p1).bind fun x2 =>
  if ¬ (x2=true) then
   (eY p1 p0).bind fun x4 =>
   some (!x4)
  else
   some false
 else
  some false
def yg:Option Bool :=
 (Ad (iR 2 4 1) (iR 1 3 1)).bind fun x1 =>
 (Ad (iR 1 4 1) (iR 4 1 (-1))).bind fun x2 =>
 (jF mJ x1).bind fun x3 =>
 (jo mJ x1 [0,1,2]).bind fun x4 =>
 (nG mJ x1).bind fun x5 =>
 (bP mJ x1).bind fun x6 =>
 (qP mJ x2).bind fun x7 =>
 if ((((x3.2 != 0) || (x4.2 != 0)) || ((x3.1.length:Int) != 1)) || ((x4.1.length:Int) != 1))=true then
  none
 else
  (at_ x3.1 0).bind fun x15 =>
  (qC x15.Elements [1,1,2,3]).bind fun x16 =>
  if x16=true then
   (at_ x4.1 0).bind fun x18 =>
   (qC x18.Elements [1,1,1,1]).bind fun x19 =>
   if ((x19&&(x5.2==0))&&((x5.1.length:Int)==2))=true then
    (at_ x5.1 1).bind fun x25 =>
    if (((x25.Writer==1)&&((x25.Reader==2)&&true))&&(x6.2==0))=true then
     (qC x6.1 [2,1,0]).bind fun x29 =>
     if (x29&&(x7.2==0))=true then
      (qC x7.1 [0,3]).bind fun x33 =>
      some x33
     else
      none
    else
     none
   else
    none
  else
   none
def qK.s1 (p0:(List ag)) (s2:Int):Option (Sum Int (Sum Unit Bool)) :=
 if s2 < (p0.length:Int) then
  (at_ p0 s2).bind fun x4 =>
  if (x4.Bounds.length:Int) > 9 then
   some (.inr (.inr false))
  else
   (at_ p0 s2).bind fun x6 =>
   if (x6.Elements.length:Int) > 40 then
    some (.inr (.inr false))
   else
    some (.inl (w (s2+1)))
 else
  some (.inr (.inl ()))
def qK (p0:(List ag)):Option Bool :=
 if (p0.length:Int) > 8 then
  some false
 else
  (iw (qK.s1 p0) 0).bind fun z8=>match z8 with
  | .inl v9 =>
   some true
  | .inr r10=>some r10
def mM.s1 (p0:(List az)) (s2:Int):Option (Sum Int (Sum Unit Bool)) :=
 if s2 < (p0.length:Int) then
  (at_ p0 s2).bind fun x4 =>
  if (x4.List.length:Int) > 20 then
   some (.inr (.inr false))
  else
   some (.inl (w (s2+1)))
 else
  some (.inr (.inl ()))
def mM (p0:(List az)):Option Bool :=
 if (p0.length:Int) > 9 then
  some false
 else
  (iw (mM.s1 p0) 0).bind fun z6=>match z6 with
  | .inl v7 =>
   some true
  | .inr r8=>some r8
def nN.s1 (p0:(List bH)) (s2:Int):Option (Sum Int (Sum Unit Bool)) :=
 if s2 < (p0.length:Int) then
  (at_ p0 s2).bind fun x4 =>
  if (x4.Coefs.length:Int) > 9 then
   some (.inr (.inr false))
  else
   some (.inl (w (s2+1)))
 else
  some (.inr (.inl ()))
def nN (p0:(List bH)):Option Bool :=
 if (p0.length:Int) > 9 then
  some false
 else
  (iw (nN.s1 p0) 0).bind fun z6=>match z6 with
  | .inl v7 =>
   some true
  | .inr r8=>some r8
def lI.s1 (p0:(List ah)) (s6:Int):Option (Sum Int (Sum Unit Bool)) :=
 if s6 < (p0.length:Int) then
  (at_ p0 s6).bind fun x8 =>
  (mM x8.Subscripts).bind fun x9 =>
  if ¬ (x9=true) then
   some (.inr (.inr false))
  else
   (at_ p0 s6).bind fun x11 =>
   (nN x11.Forms).bind fun x12 =>
   if ¬ (x12=true) then
    some (.inr (.inr false))
   else
    some (.inl (w (s6+1)))
 else
  some (.inr (.inl ()))
def lI (p0:(List ah)):Option Bool :=
 if (((decide ((p0.length:Int) > 20))&&(decide ((p0.length:Int)≤40))) || (decide ((p0.length:Int) > 42)))=true then
  some false
 else
  (iw (lI.s1 p0) 0).bind fun z14=>match z14 with
  | .inl v15 =>
   some true
  | .inr r16=>some r16
def vU (p0:aC):Option Bool :=
 (mM p0.Subscripts).bind fun x1 =>
 if x1=true then
  (lI p0.Value).bind fun x3 =>
  if x3=true then
   (lI p0.Mask).bind fun x5 =>
   if x5=true then
    (lI p0.Else).bind fun x7 =>
    some x7
   else
    some false
  else
   some false
 else
  some false
def fA (p0:Int) (p1:Int) (p2:Int):Bool :=
 (!((decide (p0 < p1)) || (decide (p0 > p2))))
def dY (p0:Int):Bool :=
 (fA p0 (-2147483647) 2147483647)
def jL.s1 (p0:(List ai)) (s1:Int×List Int):Option (Sum (Int×List Int) (List Int)) :=
 if s1.1 < (p0.length:Int) then
  (at_ p0 s1.1).bind fun x3 =>
  (at_ p0 s1.1).bind fun x4 =>
  (app s1.2 ([(mx 0 (w ((w (x3.High - x4.Low))+1)))]:List Int)).bind fun x5 =>
  some (.inl ((w (s1.1+1)),x5))
 else
  some (.inr s1.2)
def jL (p0:(List ai)):Option (List Int) :=
 (iw (jL.s1 p0) (0,[])).bind fun z6 =>
 some z6
def jM.s1 (p0:(List Int)) (s1:Int×Int):Option (Sum (Int×Int) (Sum Int Int)) :=
 if s1.2 < (p0.length:Int) then
  (at_ p0 s1.2).bind fun x3 =>
  if x3=0 then
   some (.inr (.inr 0))
  else
   (at_ p0 s1.2).bind fun x5 =>
   some (.inl ((mn (w (s1.1 * (mn x5 513))) 513),(w (s1.2+1))))
 else
  some (.inr (.inl s1.1))
def jM (p0:(List Int)):Option Int :=
 (iw (jM.s1 p0) (1,0)).bind fun z6=>match z6 with
 | .inl v7 =>
  some v7
 | .inr r8=>some r8
def fV.s1 (p0:(List ai)) (s2:Int):Option (Sum Int (Sum Unit Int)) :=
 if s2 < (p0.length:Int) then
  (at_ p0 s2).bind fun x4 =>
  if ¬ ((dY x4.Low)=true) then
   some (.inr (.inr 2))
  else
   (at_ p0 s2).bind fun x6 =>
   if ¬ ((dY x6.High)=true) then
    some (.inr (.inr 2))
   else
    some (.inl (w (s2+1)))
 else
  some (.inr (.inl ()))
def fV.s2 (x10:(List Int)) (s11:Int):Option (Sum Int (Sum Unit Int)) :=
 if s11 < (x10.length:Int) then
  (at_ x10 s11).bind fun x13 =>
  if x13 > 512 then
   some (.inr (.inr 8))
  else
   some (.inl (w (s11+1)))
 else
  some (.inr (.inl ()))
def fV (p0:(List ai)):Option Int :=
 if (p0.length:Int) > 7 then
  some 32
 else
  (iw (fV.s1 p0) 0).bind fun z8=>match z8 with
  | .inl v9 =>
   (jL p0).bind fun x10 =>
   (iw (fV.s2 x10) 0).bind fun z15=>match z15 with
   | .inl v16 =>
    (jM x10).bind fun x17 =>
    if x17 > 512 then
     some 8
    else
     some 0
   | .inr r19=>some r19
  | .inr r20=>some r20
def kS (p0:Int):Bool :=
 (fA p0 (-2147483648) 2147483647)
def nO.s1 (p0:ag) (s6:Int):Option (Sum Int (Sum Unit (Int×Int))) :=
 if s6 < (p0.Elements.length:Int) then
  (at_ p0.Elements s6).bind fun x8 =>
  if ¬ ((kS x8)=true) then
   some (.inr (.inr (s6,2)))
  else
   some (.inl (w (s6+1)))
 else
  some (.inr (.inl ()))
def nO (p0:ag):Option (Int×Int) :=
 (fV p0.Bounds).bind fun x1 =>
 if ¬ x1=0 then
  some (0,x1)
 else
  (jL p0.Bounds).bind fun x3 =>
  (jM x3).bind fun x4 =>
  if ¬ (p0.Elements.length:Int)=x4 then
   some (0,10)
  else
   (iw (nO.s1 p0) 0).bind fun z10=>match z10 with
   | .inl v11 =>
    some (0,0)
   | .inr r12=>some r12
def zO (p0:ag):Option Int :=
 (nO p0).bind fun x1 =>
 some x1.2
def jW.s1 (p0:(List ag)) (s2:Int):Option (Sum Int (Sum Unit Int)) :=
 if s2 < (p0.length:Int) then
  (at_ p0 s2).bind fun x4 =>
  (zO x4).bind fun x5 =>
  if ¬ x5=0 then
   some (.inr (.inr x5))
  else
   some (.inl (w (s2+1)))
 else
  some (.inr (.inl ()))
def jW (p0:(List ag)):Option Int :=
 if (p0.length:Int) > 6 then
  some 8
 else
  (iw (jW.s1 p0) 0).bind fun z7=>match z7 with
  | .inl v8 =>
   some 0
  | .inr r9=>some r9
def kz (p0:Int):Int :=
 if p0 < 0 then
  (w (0 - p0))
 else
  p0
def ve (p0:Bool):Int :=
 if p0=true then
  1
 else
  0
def vH (p0:Int) (p1:Int):Option Int :=
 (quo .i64 p0 p1).bind fun x1 =>
 (rem p0 p1).bind fun x2 =>
 some (w (x1 - (ve (decide (x2 < 0)))))
def lQ (p0:(List Int)):Option (List Int) :=
 (IX (p0.length:Int) 0).bind fun x1 =>
 some (copied x1 p0)
def dG.s2 (p0:ai) (a26:(List Int)) (s27:Int):Option (Sum Int (Sum Unit ((List Int)×Int))) :=
 if s27 < (a26.length:Int) then
  (at_ a26 s27).bind fun x29 =>
  if ¬ ((fA x29 p0.Low p0.High)=true) then
   some (.inr (.inr (([]:List Int),33)))
  else
   some (.inl (w (s27+1)))
 else
  some (.inr (.inl ()))
def dG.j1 (p0:ai) (a26:(List Int)):Option ((List Int)×Int) :=
 (iw (dG.s2 p0 a26) 0).bind fun z31=>match z31 with
 | .inl v32 =>
  some (a26,0)
 | .inr r33=>some r33
def dG.s4 (p1:az) (a29:Int) (s31:Int×List Int):Option (Sum (Int×List Int) (List Int)) :=
 if s31.1 < a29 then
  (app s31.2 ([(w (p1.Low+(w (s31.1 * p1.Step))))]:List Int)).bind fun x33 =>
  some (.inl ((w (s31.1+1)),x33))
 else
  some (.inr s31.2)
def dG.j3 (p0:ai) (p1:az) (a29:Int):Option ((List Int)×Int) :=
 if a29 > 512 then
  some (([]:List Int),8)
 else
  (iw (dG.s4 p1 a29) (0,[])).bind fun z34 =>
  dG.j1 p0 z34
def dG (p0:ai) (p1:az):Option ((List Int)×Int) :=
 if ((!(dY p0.Low)) || (!(dY p0.High)))=true then
  some (([]:List Int),2)
 else
  if ¬ ((fA p1.Kind 0 2)=true) then
   some (([]:List Int),15)
  else
   if ((((p1.Kind != 1)&&((p1.High != 0) || (p1.Step != 0))) || ((p1.Kind==2)&&(p1.Low != 0))) || ((p1.Kind != 2)&&(decide ((p1.List.length:Int) > 0))))=true then
    some (([]:List Int),3)
   else
    if ((p1.Kind==1)&&(p1.Step==0))=true then
     some (([]:List Int),11)
    else
     if (((!(dY p1.Low)) || (!(dY p1.High))) || (!(dY p1.Step)))=true then
      some (([]:List Int),2)
     else
      if p1.Kind=0 then
       dG.j1 p0 [p1.Low]
      else
       if p1.Kind=1 then
        (vH (w (p1.High - p1.Low)) (kz p1.Step)).bind fun x28 =>
        if p1.Step < 0 then
         (vH (w (p1.Low - p1.High)) (kz p1.Step)).bind fun x30 =>
         dG.j3 p0 p1 (mx 0 (w (x30+1)))
        else
         dG.j3 p0 p1 (mx 0 (w (x28+1)))
       else
        if (p1.List.length:Int) > 512 then
         some (([]:List Int),8)
        else
         (lQ p1.List).bind fun x37 =>
         dG.j1 p0 x37
def kR.s1 (p0:(List Int)) (s1:Int×Int×List Int):Option (Sum (Int×Int×List Int) (List Int)) :=
 if s1.2.1 < (p0.length:Int) then
  (at_ p0 s1.2.1).bind fun x3 =>
  (rem s1.1 x3).bind fun x4 =>
  (app s1.2.2 ([x4]:List Int)).bind fun x5 =>
  (at_ p0 s1.2.1).bind fun x6 =>
  (quo .i64 s1.1 x6).bind fun x7 =>
  some (.inl (x7,(w (s1.2.1+1)),x5))
 else
  some (.inr s1.2.2)
def kR (p0:(List Int)) (p1:Int):Option (List Int) :=
 (iw (kR.s1 p0) (p1,0,[])).bind fun z8 =>
 some z8
def mP.s1 (p0:(List Int)) (p1:(List Int)) (s1:Int×Int):Option (Sum (Int×Int) Int) :=
 if s1.2≥0 then
  (at_ p0 s1.2).bind fun x3 =>
  (at_ p1 s1.2).bind fun x4 =>
  some (.inl ((w ((w (s1.1 * x3))+x4)),(w (s1.2 - 1))))
 else
  some (.inr s1.1)
def mP (p0:(List Int)) (p1:(List Int)):Option Int :=
 (iw (mP.s1 p0 p1) (0,(w ((p0.length:Int) - 1)))).bind fun z5 =>
 some z5
def mf.s1 (p0:(List ai)) (p1:(List Int)) (s1:Int×List Int):Option (Sum (Int×List Int) (List Int)) :=
 if s1.1 < (p0.length:Int) then
  (at_ p1 s1.1).bind fun x3 =>
  (at_ p0 s1.1).bind fun x4 =>
  (app s1.2 ([(w (x3 - x4.Low))]:List Int)).bind fun x5 =>
  some (.inl ((w (s1.1+1)),x5))
 else
  some (.inr s1.2)
def mf (p0:(List ai)) (p1:(List Int)):Option Int :=
 (iw (mf.s1 p0 p1) (0,[])).bind fun z6 =>
 (jL p0).bind fun x7 =>
 (mP x7 z6).bind fun x8 =>
 some x8
def rP.s1 (p0:(List Int)) (p1:Int) (s1:Bool×Int):Option (Sum (Bool×Int) Bool) :=
 if s1.2 < (p0.length:Int) then
  (at_ p0 s1.2).bind fun x3 =>
  some (.inl ((s1.1 || (x3==p1)),(w (s1.2+1))))
 else
  some (.inr s1.1)
def rP (p0:(List Int)) (p1:Int):Option Bool :=
 (iw (rP.s1 p0 p1) (false,0)).bind fun z6 =>
 some z6
def eH.s1 (p0:(List ai)) (p1:(List az)) (s4:Int×List (List Int)×List Int×List Int):Option (Sum (Int×List (List Int)×List Int×List Int) (Sum (List (List Int)×List Int×List Int) (aB×Int))) :=
 if s4.1 < (p1.length:Int) then
  (at_ p0 s4.1).bind fun x6 =>
  (at_ p1 s4.1).bind fun x7 =>
  (dG x6 x7).bind fun x8 =>
  if ¬ x8.2=0 then
   some (.inr (.inr ((aB.mk [] [] false),x8.2)))
  else
   (app s4.2.1 ([x8.1]:List (List Int))).bind fun x10 =>
   (app s4.2.2.1 ([(x8.1.length:Int)]:List Int)).bind fun x11 =>
   (at_ p1 s4.1).bind fun x12 =>
   if ¬ x12.Kind=0 then
    (app s4.2.2.2 ([(x8.1.length:Int)]:List Int)).bind fun x14 =>
    some (.inl ((w (s4.1+1)),x10,x11,x14))
   else
    some (.inl ((w (s4.1+1)),x10,x11,s4.2.2.2))
 else
  some (.inr (.inl (s4.2.1,s4.2.2.1,s4.2.2.2)))
def eH.s3 (v16:List (List Int)×List Int×List Int) (s22:Int×List Int):Option (Sum (Int×List Int) (List Int)) :=
 if s22.1 < (s22.2.length:Int) then
  (at_ v16.1 s22.1).bind fun x24 =>
  (at_ s22.2 s22.1).bind fun x25 =>
  (at_ x24 x25).bind fun x26 =>
  (at_ s22.2 s22.1).bind fun x27 =>
  some (.inl ((w (s22.1+1)),(s22.2.set s22.1.toNat x26)))
 else
  some (.inr s22.2)
def eH.s2 (p0:(List ai)) (v16:List (List Int)×List Int×List Int) (x17:Int) (s19:Int×Bool×List Int):Option (Sum (Int×Bool×List Int) (Bool×List Int)) :=
 if s19.1 < x17 then
  (kR v16.2.1 s19.1).bind fun x21 =>
  (iw (eH.s3 v16) (0,x21)).bind fun z28 =>
  (mf p0 z28).bind fun x29 =>
  if s19.2.1=true then
   (app s19.2.2 ([x29]:List Int)).bind fun x31 =>
   some (.inl ((w (s19.1+1)),true,x31))
  else
   (rP s19.2.2 x29).bind fun x32 =>
   (app s19.2.2 ([x29]:List Int)).bind fun x33 =>
   some (.inl ((w (s19.1+1)),x32,x33))
 else
  some (.inr (s19.2.1,s19.2.2))
def eH (p0:(List ai)) (p1:(List az)):Option (aB×Int) :=
 (fV p0).bind fun x1 =>
 if ¬ x1=0 then
  some ((aB.mk [] [] false),x1)
 else
  if ¬ (p1.length:Int)=(p0.length:Int) then
   some ((aB.mk [] [] false),32)
  else
   (iw (eH.s1 p0 p1) (0,[],[],[])).bind fun z15=>match z15 with
   | .inl v16 =>
    (jM v16.2.1).bind fun x17 =>
    if x17 > 512 then
     some ((aB.mk [] [] false),8)
    else
     (iw (eH.s2 p0 v16 x17) (0,false,[])).bind fun z35 =>
     some ((aB.mk v16.2.2 z35.2 z35.1),0)
   | .inr r37=>some r37
def dD.j3 (s4:Int×List Int) (x6:ah) (a8:Bool×Bool×Bool×Bool×Bool×Bool) (a39:List Int):Option (Sum (Int×List Int) (Sum (List Int) Int)) :=
 if a8.2.2.2.2.2=true then
  (at_ a39 x6.B).bind fun x41 =>
  (at_ a39 x6.B).bind fun x42 =>
  some (.inl ((w (s4.1+1)),(a39.set x6.B.toNat (w (x41+1)))))
 else
  some (.inl ((w (s4.1+1)),a39))
def dD.j2 (s4:Int×List Int) (x6:ah) (a8:Bool×Bool×Bool×Bool×Bool×Bool):Option (Sum (Int×List Int) (Sum (List Int) Int)) :=
 if (((((((!a8.1)&&(x6.Value != 0)) || ((!a8.2.1)&&(x6.Var != 0))) || ((!a8.2.2.1)&&(decide ((x6.Subscripts.length:Int) > 0)))) || ((!a8.2.2.2.1)&&(decide ((x6.Forms.length:Int) > 0)))) || ((!a8.2.2.2.2.1)&&(x6.A != 0))) || ((!a8.2.2.2.2.2)&&(x6.B != 0)))=true then
  some (.inr (.inr 3))
 else
  if ((a8.2.2.2.2.1&&(!(fA x6.A 0 (w (s4.1 - 1))))) || (a8.2.2.2.2.2&&(!(fA x6.B 0 (w (s4.1 - 1))))))=true then
   some (.inr (.inr 3))
  else
   if a8.2.2.2.2.1=true then
    (at_ s4.2 x6.A).bind fun x40 =>
    (at_ s4.2 x6.A).bind fun x41 =>
    dD.j3 s4 x6 a8 (s4.2.set x6.A.toNat (w (x40+1)))
   else
    dD.j3 s4 x6 a8 s4.2
def dD.s1 (p0:(List ah)) (s4:Int×List Int):Option (Sum (Int×List Int) (Sum (List Int) Int)) :=
 if s4.1 < (p0.length:Int) then
  (at_ p0 s4.1).bind fun x6 =>
  if ¬ ((fA x6.Kind 0 9)=true) then
   some (.inr (.inr 15))
  else
   if x6.Kind=0 then
    dD.j2 s4 x6 (true,false,false,false,false,false)
   else
    if x6.Kind=1 then
     dD.j2 s4 x6 (false,true,true,false,false,false)
    else
     if x6.Kind=7 then
      dD.j2 s4 x6 (false,false,false,false,true,false)
     else
      if x6.Kind=8 then
       dD.j2 s4 x6 (false,true,false,false,false,false)
      else
       if x6.Kind=9 then
        dD.j2 s4 x6 (false,true,false,true,false,false)
       else
        dD.j2 s4 x6 (false,false,false,false,true,true)
 else
  some (.inr (.inl s4.2))
def dD.s4 (p0:(List ah)) (v44:List Int) (s45:Int):Option (Sum Int (Sum Unit Int)) :=
 if s45 < (p0.length:Int) then
  (at_ v44 s45).bind fun x47 =>
  if ¬ x47=(ve (decide (s45 < (w ((p0.length:Int) - 1))))) then
   some (.inr (.inr 3))
  else
   some (.inl (w (s45+1)))
 else
  some (.inr (.inl ()))
def dD (p0:(List ah)):Option Int :=
 if (p0.length:Int)=0 then
  some 17
 else
  if (p0.length:Int) > 40 then
   some 8
  else
   (IX (p0.length:Int) 0).bind fun x3 =>
   (iw (dD.s1 p0) (0,x3)).bind fun z43=>match z43 with
   | .inl v44 =>
    (iw (dD.s4 p0 v44) 0).bind fun z49=>match z49 with
    | .inl v50 =>
     some 0
    | .inr r51=>some r51
   | .inr r52=>some r52
def iJ.s1 (p1:(List ah)) (s3:Int):Option (Sum Int (Sum Unit ((List (List Int))×Int))) :=
 if s3 < (p1.length:Int) then
  (at_ p1 s3).bind fun x5 =>
  if x5.Kind=8 then
   some (.inr (.inr (([]:List (List Int)),15)))
  else
   (at_ p1 s3).bind fun x7 =>
   if x7.Kind=9 then
    some (.inr (.inr (([]:List (List Int)),15)))
   else
    some (.inl (w (s3+1)))
 else
  some (.inr (.inl ()))
def iJ.s2 (p0:(List ag)) (p1:(List ah)) (s11:Int×List (List Int)):Option (Sum (Int×List (List Int)) (Sum (List (List Int)) ((List (List Int))×Int))) :=
 if s11.1 < (p1.length:Int) then
  (at_ p1 s11.1).bind fun x13 =>
  if x13.Kind=0 then
   if ¬ ((kS x13.Value)=true) then
    some (.inr (.inr (([]:List (List Int)),2)))
   else
    (app s11.2 ([[]]:List (List Int))).bind fun x16 =>
    some (.inl ((w (s11.1+1)),x16))
  else
   if x13.Kind=1 then
    if ¬ ((fA x13.Var 0 (w ((p0.length:Int) - 1)))=true) then
     some (.inr (.inr (([]:List (List Int)),6)))
    else
     (at_ p0 x13.Var).bind fun x19 =>
     (eH x19.Bounds x13.Subscripts).bind fun x20 =>
     if ¬ x20.2=0 then
      some (.inr (.inr (([]:List (List Int)),x20.2)))
     else
      if (x20.1.Offsets.length:Int) > 60 then
       some (.inr (.inr (([]:List (List Int)),8)))
      else
       (app s11.2 ([x20.1.Extents]:List (List Int))).bind fun x23 =>
       some (.inl ((w (s11.1+1)),x23))
   else
    if x13.Kind=7 then
     (at_ s11.2 x13.A).bind fun x25 =>
     (app s11.2 ([x25]:List (List Int))).bind fun x26 =>
     some (.inl ((w (s11.1+1)),x26))
    else
     (at_ s11.2 x13.A).bind fun x27 =>
     (at_ s11.2 x13.B).bind fun x28 =>
     if ((decide ((x27.length:Int) > 0))&&(decide ((x28.length:Int) > 0)))=true then
      (qC x27 x28).bind fun x32 =>
      if ¬ (x32=true) then
       some (.inr (.inr (([]:List (List Int)),10)))
      else
       if (x27.length:Int)=0 then
        (app s11.2 ([x28]:List (List Int))).bind fun x35 =>
        some (.inl ((w (s11.1+1)),x35))
       else
        (app s11.2 ([x27]:List (List Int))).bind fun x36 =>
        some (.inl ((w (s11.1+1)),x36))
     else
      if (x27.length:Int)=0 then
       (app s11.2 ([x28]:List (List Int))).bind fun x38 =>
       some (.inl ((w (s11.1+1)),x38))
      else
       (app s11.2 ([x27]:List (List Int))).bind fun x39 =>
       some (.inl ((w (s11.1+1)),x39))
 else
  some (.inr (.inl s11.2))
def iJ (p0:(List ag)) (p1:(List ah)):Option ((List (List Int))×Int) :=
 (dD p1).bind fun x1 =>
 if ¬ x1=0 then
  some (([]:List (List Int)),x1)
 else
  (iw (iJ.s1 p1) 0).bind fun z9=>match z9 with
  | .inl v10 =>
   (iw (iJ.s2 p0 p1) (0,[])).bind fun z40=>match z40 with
   | .inl v41 =>
    some (v41,0)
   | .inr r42=>some r42
  | .inr r43=>some r43
def uu (p0:(List ag)) (p1:(List ah)) (p2:(List Int)):Option Int :=
 (iJ p0 p1).bind fun x1 =>
 if ¬ x1.2=0 then
  some x1.2
 else
  (at_ x1.1 (w ((x1.1.length:Int) - 1))).bind fun x3 =>
  if (x3.length:Int) > 0 then
   (qC x3 p2).bind fun x5 =>
   if ¬ (x5=true) then
    some 10
   else
    some 0
  else
   some 0
def mV.j1 (p0:(List ag)) (p1:aC) (x5:aB×Int) (a11:Unit):Option (aB×Int) :=
 if (p1.Else.length:Int) > 0 then
  if (p1.Mask.length:Int)=0 then
   some ((aB.mk [] [] false),3)
  else
   (uu p0 p1.Else x5.1.Extents).bind fun x14 =>
   if ¬ x14=0 then
    some ((aB.mk [] [] false),x14)
   else
    some (x5.1,0)
 else
  some (x5.1,0)
def mV (p0:(List ag)) (p1:aC):Option (aB×Int) :=
 (jW p0).bind fun x1 =>
 if ¬ x1=0 then
  some ((aB.mk [] [] false),x1)
 else
  if ¬ ((fA p1.Var 0 (w ((p0.length:Int) - 1)))=true) then
   some ((aB.mk [] [] false),6)
  else
   (at_ p0 p1.Var).bind fun x4 =>
   (eH x4.Bounds p1.Subscripts).bind fun x5 =>
   if ¬ x5.2=0 then
    some ((aB.mk [] [] false),x5.2)
   else
    if (x5.1.Offsets.length:Int) > 60 then
     some ((aB.mk [] [] false),8)
    else
     if x5.1.ManyOne=true then
      some ((aB.mk [] [] false),23)
     else
      (uu p0 p1.Value x5.1.Extents).bind fun x9 =>
      if ¬ x9=0 then
       some ((aB.mk [] [] false),x9)
      else
       if (p1.Mask.length:Int) > 0 then
        (uu p0 p1.Mask x5.1.Extents).bind fun x12 =>
        if ¬ x12=0 then
         some ((aB.mk [] [] false),x12)
        else
         mV.j1 p0 p1 x5 ()
       else
        mV.j1 p0 p1 x5 ()
def qi (p0:(List ai)):Option (List ai) :=
 (app ([]:List ai) p0).bind fun x1 =>
 some x1
def xE (p0:ag):Option ag :=
 (qi p0.Bounds).bind fun x1 =>
 (lQ p0.Elements).bind fun x2 =>
 some (ag.mk x1 x2)
def gW.s1 (p0:(List ag)) (s1:Int×List ag):Option (Sum (Int×List ag) (List ag)) :=
 if s1.1 < (p0.length:Int) then
  (at_ p0 s1.1).bind fun x3 =>
  (xE x3).bind fun x4 =>
  (app s1.2 ([x4]:List ag)).bind fun x5 =>
  some (.inl ((w (s1.1+1)),x5))
 else
  some (.inr s1.2)
def gW (p0:(List ag)):Option (List ag) :=
 (iw (gW.s1 p0) (0,[])).bind fun z6 =>
 some z6
def gp.s1 (p0:(List az)) (s1:Int×List az):Option (Sum (Int×List az) (List az)) :=
 if s1.1 < (p0.length:Int) then
  (at_ p0 s1.1).bind fun x3 =>
  (lQ x3.List).bind fun x4 =>
  (app s1.2 ([(az.mk x3.Kind x3.Low x3.High x3.Step x4)]:List az)).bind fun x5 =>
  some (.inl ((w (s1.1+1)),x5))
 else
  some (.inr s1.2)
def gp (p0:(List az)):Option (List az) :=
 (iw (gp.s1 p0) (0,[])).bind fun z6 =>
 some z6
def jC.s1 (p0:(List bH)) (s1:Int×List bH):Option (Sum (Int×List bH) (List bH)) :=
 if s1.1 < (p0.length:Int) then
  (at_ p0 s1.1).bind fun x3 =>
  (lQ x3.Coefs).bind fun x4 =>
  (at_ p0 s1.1).bind fun x5 =>
  (app s1.2 ([(bH.mk x4 x5.Const)]:List bH)).bind fun x6 =>
  some (.inl ((w (s1.1+1)),x6))
 else
  some (.inr s1.2)
def jC (p0:(List bH)):Option (List bH) :=
 (iw (jC.s1 p0) (0,[])).bind fun z7 =>
 some z7
def jl.s1 (p0:(List ah)) (s1:Int×List ah):Option (Sum (Int×List ah) (List ah)) :=
 if s1.1 < (p0.length:Int) then
  (at_ p0 s1.1).bind fun x3 =>
  (gp x3.Subscripts).bind fun x4 =>
  (jC x3.Forms).bind fun x5 =>
  (app s1.2 ([(ah.mk x3.Kind x3.Value x3.Var x3.A x3.B x4 x5)]:List ah)).bind fun x6 =>
  some (.inl ((w (s1.1+1)),x6))
 else
  some (.inr s1.2)
def jl (p0:(List ah)):Option (List ah) :=
 (iw (jl.s1 p0) (0,[])).bind fun z7 =>
 some z7
def kK (p0:aC):Option aC :=
 (gp p0.Subscripts).bind fun x1 =>
 (jl p0.Value).bind fun x2 =>
 (jl p0.Mask).bind fun x3 =>
 (jl p0.Else).bind fun x4 =>
 some (aC.mk p0.Var x1 x2 x3 x4)
def oM (p0:ay) (p1:(List Int)):Option Bool :=
 (slices_Index_int p1 p0.Writer).bind fun x1 =>
 (slices_Index_int p1 p0.Reader).bind fun x2 =>
 some (decide (x1 < x2))
def aY.s1 (p0:(List ay)) (p1_0:(List Int)) (s1:Int):Option (Sum Int (Sum Unit Int)) :=
 if s1 < (p0.length:Int) then
  (at_ p0 s1).bind fun x3 =>
  (oM x3 p1_0).bind fun x4 =>
  if x4=true then
   some (.inr (.inr s1))
  else
   some (.inl (w (s1+1)))
 else
  some (.inr (.inl ()))
def aY (p0:(List ay)) (p1_0:(List Int)):Option Int :=
 (iw (aY.s1 p0 p1_0) 0).bind fun z6=>match z6 with
 | .inl v7 =>
  some (-1)
 | .inr r8=>some r8
def fC (p0:(List ay)) (p1_0:(List Int)):Option Bool :=
 (aY p0 p1_0).bind fun x1 =>
 some (decide (x1≥0))
def nH (p0:(List ag)) (p1:aC) (p2:(List Int)):Option (Bool×Int) :=
 (je p0 p1 p2).bind fun x1 =>
 if ¬ x1.2=0 then
  some (false,x1.2)
 else
  (bT x1.1).bind fun x3 =>
  (fC x3 p2).bind fun x4 =>
  some ((!x4),0)
def pg.s1 (p0:ag) (p1:ag) (s4:Int):Option (Sum Int (Sum Unit Bool)) :=
 if s4 < (p0.Bounds.length:Int) then
  (at_ p0.Bounds s4).bind fun x6 =>
  (at_ p1.Bounds s4).bind fun x7 =>
  if ¬ (((x6.Low==x7.Low)&&((x6.High==x7.High)&&true))=true) then
   some (.inr (.inr false))
  else
   some (.inl (w (s4+1)))
 else
  some (.inr (.inl ()))
def pg (p0:ag) (p1:ag):Option Bool :=
 if ¬ (p0.Bounds.length:Int)=(p1.Bounds.length:Int) then
  some false
 else
  (qC p0.Elements p1.Elements).bind fun x2 =>
  if ¬ (x2=true) then
   some false
  else
   (iw (pg.s1 p0 p1) 0).bind fun z9=>match z9 with
   | .inl v10 =>
    some true
   | .inr r11=>some r11
def jf.s1 (p0:(List ag)) (p1:(List ag)) (s2:Int):Option (Sum Int (Sum Unit Bool)) :=
 if s2 < (p0.length:Int) then
  (at_ p0 s2).bind fun x4 =>
  (at_ p1 s2).bind fun x5 =>
  (pg x4 x5).bind fun x6 =>
  if ¬ (x6=true) then
   some (.inr (.inr false))
  else
   some (.inl (w (s2+1)))
 else
  some (.inr (.inl ()))
def jf (p0:(List ag)) (p1:(List ag)):Option Bool :=
 if ¬ (p0.length:Int)=(p1.length:Int) then
  some false
 else
  (iw (jf.s1 p0 p1) 0).bind fun z8=>match z8 with
  | .inl v9 =>
   some true
  | .inr r10=>some r10
def kT.s1 (p0:(List Int)) (p1:Int) (s2:Int):Option (Sum Int (Sum Unit Bool)) :=
 if s2 < p1 then
  (rP p0 s2).bind fun x4 =>
  if ¬ (x4=true) then
   some (.inr (.inr false))
  else
   some (.inl (w (s2+1)))
 else
  some (.inr (.inl ()))
def kT (p0:(List Int)) (p1:Int):Option Bool :=
 if ¬ (p0.length:Int)=p1 then
  some false
 else
  (iw (kT.s1 p0 p1) 0).bind fun z6=>match z6 with
  | .inl v7 =>
   some true
  | .inr r8=>some r8
def jB.j1 (p0:(List ag)) (p1:aC) (p2:(List Int)) (x9:aB×Int) (x13:(List ag)×Int) (a18:Unit):Option Bool :=
 (gW p0).bind fun x19 =>
 (kK p1).bind fun x20 =>
 (nG x19 x20).bind fun x21 =>
 if ¬ x21.2=0 then
  some false
 else
  if (x21.1.length:Int) > 0 then
   some true
  else
   (kT p2 (x9.1.Offsets.length:Int)).bind fun x24 =>
   if ¬ (x24=true) then
    some true
   else
    (gW p0).bind fun x26 =>
    (kK p1).bind fun x27 =>
    (lQ p2).bind fun x28 =>
    (jo x26 x27 x28).bind fun x29 =>
    if x29.2=0 then
     (jf x13.1 x29.1).bind fun x31 =>
     some x31
    else
     some false
def jB (p0:(List ag)) (p1:aC) (p2:(List Int)):Option Bool :=
 (yg).bind fun x1 =>
 if ¬ (x1=true) then
  some false
 else
  (qK p0).bind fun x3 =>
  if ¬ (x3=true) then
   some true
  else
   (vU p1).bind fun x5 =>
   if ((!x5) || (decide ((p2.length:Int) > 60)))=true then
    some true
   else
    (mV p0 p1).bind fun x9 =>
    if ¬ x9.2=0 then
     some true
    else
     (gW p0).bind fun x11 =>
     (kK p1).bind fun x12 =>
     (jF x11 x12).bind fun x13 =>
     if ¬ x13.2=0 then
      some false
     else
      (gW p0).bind fun x15 =>
      (kK p1).bind fun x16 =>
      (bP x15 x16).bind fun x17 =>
      if x17.2=0 then
       (gW p0).bind fun x19 =>
       (kK p1).bind fun x20 =>
       (lQ x17.1).bind fun x21 =>
       (nH x19 x20 x21).bind fun x22 =>
       (gW p0).bind fun x23 =>
       (kK p1).bind fun x24 =>
       (jo x23 x24 x17.1).bind fun x25 =>
       if (((x22.2 != 0) || (!x22.1)) || (x25.2 != 0))=true then
        some false
       else
        (jf x13.1 x25.1).bind fun x31 =>
        if ¬ (x31=true) then
         some false
        else
         jB.j1 p0 p1 p2 x9 x13 ()
      else
       jB.j1 p0 p1 p2 x9 x13 ()
end Go.Sh
