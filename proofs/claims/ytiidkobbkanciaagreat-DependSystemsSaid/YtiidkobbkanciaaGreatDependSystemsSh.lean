/- Functions of the program in plain form: printed by a program of this session. Not trusted: the walks show that the program does what they say. -/
import Derived.Test.YtiidkobbkanciaaGreatKit5
set_option linter.all false
namespace Go.Sh
open Go.Lx
set_option linter.unusedVariables false
structure ah where
 Coefs:(List Int)
 Const:Int
 deriving DecidableEq
structure au where
 Low:ah
 High:ah
 deriving DecidableEq
structure ai where
 Array:Int
 Subscripts:(List ah)
 Write:Bool
 deriving DecidableEq
structure aT where
 From:Int
 To:Int
 Signs:(List Int)
 deriving DecidableEq
structure ae where
 Coefs:(List Int)
 Const:Int
 Equal:Bool
 deriving DecidableEq
structure aK where
 Vars:Int
 Rows:(List ae)
 deriving DecidableEq
structure bG where
 From:Int
 To:Int
 deriving DecidableEq
structure aF where
 Signs:(List Int)
 Source:(List Int)
 Sink:(List Int)
 deriving DecidableEq
structure aj where
 Kind:Int
 Weights:(List Int)
 Divisor:Int
 Var:Int
 At:Int
 Left:Int
 Right:Int
 deriving DecidableEq
structure kF where
 Point:(List Int)
 Proof:(List aj)
 deriving DecidableEq
structure bD where
 known:Bool
 n:Int
 row:Int
 deriving DecidableEq
structure dw where
 low:(List bD)
 high:(List bD)
 deriving DecidableEq
structure uQ where
 x:aK
 proof:(List aj)
 full:Bool
 deriving DecidableEq
structure aA where
 holds:Bool
 code:Int
 deriving DecidableEq
structure aV where
 Low:Int
 High:Int
 deriving DecidableEq
structure tK where
 x:aK
 p:(List aj)
 rows:(List (List ae))
 deriving DecidableEq
structure uS where
 LinSystem:aK
 deriving DecidableEq
structure Ej where
 e0:Int
 e1:Int
 deriving DecidableEq
def dK (p0:Int) (p1:(List Int)):ah :=
 (ah.mk p1 p0)
def jI:(List au) :=
 [(au.mk (dK 1 []) (dK 4 [])),(au.mk (dK 1 [0]) (dK 0 [1]))]
def dW.s1 (p0:(List aA)) (s1:Int):Option (Sum Int (Sum Unit Int)) :=
 if s1 < (p0.length:Int) then
  (at_ p0 s1).bind fun x3 =>
  if ¬ (x3.holds=true) then
   some (.inr (.inr x3.code))
  else
   some (.inl (w (s1+1)))
 else
  some (.inr (.inl ()))
def dW (p0:(List aA)):Option Int :=
 (gB (dW.s1 p0) 0).bind fun z5=>match z5 with
 | .inl v6 =>
  some 0
 | .inr r7=>some r7
def aB (p0:Int) (p1:Int) (p2:Int):Bool :=
 ((decide (p0≥p1))&&(decide (p0≤p2)))
def nN (p0:Int):Bool :=
 (!(aB p0 (-8) 8))
def bK.s1 (p0:(List Int)) (s1:Int):Option (Sum Int (Sum Unit Int)) :=
 if s1 < (p0.length:Int) then
  (at_ p0 s1).bind fun x3 =>
  if (nN x3)=true then
   some (.inr (.inr s1))
  else
   some (.inl (w (s1+1)))
 else
  some (.inr (.inl ()))
def bK (p0:(List Int)):Option Int :=
 (gB (bK.s1 p0) 0).bind fun z5=>match z5 with
 | .inl v6 =>
  some (-1)
 | .inr r7=>some r7
def fB (p0:(List Int)):Option Bool :=
 (bK p0).bind fun x1 =>
 some (decide (x1≥0))
def kK (p0:ah) (p1:Int):Option Int :=
 (fB p0.Coefs).bind fun x1 =>
 if ¬ (x1=true) then
  (dW [(aA.mk ((p0.Coefs.length:Int)==p1) 10),(aA.mk (aB p0.Const (-64) 64) 2)]).bind fun x3 =>
  some x3
 else
  (dW [(aA.mk ((p0.Coefs.length:Int)==p1) 10),(aA.mk false 2)]).bind fun x4 =>
  some x4
def gK.s1 (p0:(List Int)) (s1:Int):Option (Sum Int (Sum Unit Int)) :=
 if s1 < (p0.length:Int) then
  (at_ p0 s1).bind fun x3 =>
  if ¬ x3=0 then
   some (.inr (.inr x3))
  else
   some (.inl (w (s1+1)))
 else
  some (.inr (.inl ()))
def gK (p0:(List Int)):Option Int :=
 (gB (gK.s1 p0) 0).bind fun z5=>match z5 with
 | .inl v6 =>
  some 0
 | .inr r7=>some r7
def oD (p0:Int) (p1:au):Option Int :=
 (kK (ah.mk p1.Low.Coefs p1.Low.Const) p0).bind fun x1 =>
 (kK (ah.mk p1.High.Coefs p1.High.Const) p0).bind fun x2 =>
 (gK [x1,x2]).bind fun x3 =>
 some x3
def aY.s1 (p0:(List au)) (s1:Int):Option (Sum Int (Sum Unit (Int×Int))) :=
 if s1 < (p0.length:Int) then
  (at_ p0 s1).bind fun x3 =>
  (oD s1 x3).bind fun x4 =>
  if ¬ x4=0 then
   some (.inr (.inr (s1,x4)))
  else
   some (.inl (w (s1+1)))
 else
  some (.inr (.inl ()))
def aY (p0:(List au)):Option (Int×Int) :=
 (gB (aY.s1 p0) 0).bind fun z6=>match z6 with
 | .inl v7 =>
  some (0,0)
 | .inr r8=>some r8
def jW.s1 (p0:ah) (p1:(List aV)) (s1:Int×Int):Option (Sum (Int×Int) Int) :=
 if s1.2 < (p0.Coefs.length:Int) then
  (at_ p0.Coefs s1.2).bind fun x3 =>
  (at_ p1 s1.2).bind fun x4 =>
  (at_ p1 s1.2).bind fun x5 =>
  some (.inl ((w (s1.1+(mn (w (x3 * x4.Low)) (w (x3 * x5.High))))),(w (s1.2+1))))
 else
  some (.inr s1.1)
def jW (p0:ah) (p1:(List aV)):Option Int :=
 (gB (jW.s1 p0 p1) (p0.Const,0)).bind fun z6 =>
 some z6
def iY.s1 (p0:ah) (p1:(List aV)) (s1:Int×Int):Option (Sum (Int×Int) Int) :=
 if s1.2 < (p0.Coefs.length:Int) then
  (at_ p0.Coefs s1.2).bind fun x3 =>
  (at_ p1 s1.2).bind fun x4 =>
  (at_ p1 s1.2).bind fun x5 =>
  some (.inl ((w (s1.1+(mx (w (x3 * x4.Low)) (w (x3 * x5.High))))),(w (s1.2+1))))
 else
  some (.inr s1.1)
def iY (p0:ah) (p1:(List aV)):Option Int :=
 (gB (iY.s1 p0 p1) (p0.Const,0)).bind fun z6 =>
 some z6
def jO.s1 (p0:(List au)) (s1:Int×List aV):Option (Sum (Int×List aV) (List aV)) :=
 if s1.1 < (p0.length:Int) then
  (at_ p0 s1.1).bind fun x3 =>
  (jW (ah.mk x3.Low.Coefs x3.Low.Const) s1.2).bind fun x4 =>
  (iY (ah.mk x3.High.Coefs x3.High.Const) s1.2).bind fun x5 =>
  (app s1.2 ([(aV.mk x4 x5)]:List aV)).bind fun x6 =>
  some (.inl ((w (s1.1+1)),x6))
 else
  some (.inr s1.2)
def jO (p0:(List au)):Option (List aV) :=
 (gB (jO.s1 p0) (0,[])).bind fun z7 =>
 some z7
def lU (p0:aV):Bool :=
 ((!(aB p0.Low (-1000) 1000)) || (!(aB p0.High (-1000) 1000)))
def bz.s1 (p0:(List aV)) (s1:Int):Option (Sum Int (Sum Unit Int)) :=
 if s1 < (p0.length:Int) then
  (at_ p0 s1).bind fun x3 =>
  if (lU x3)=true then
   some (.inr (.inr s1))
  else
   some (.inl (w (s1+1)))
 else
  some (.inr (.inl ()))
def bz (p0:(List aV)):Option Int :=
 (gB (bz.s1 p0) 0).bind fun z5=>match z5 with
 | .inl v6 =>
  some (-1)
 | .inr r7=>some r7
def dX (p0:(List aV)):Option Bool :=
 (bz p0).bind fun x1 =>
 some (decide (x1≥0))
def jM (p0:(List Int)) (b0:Int):Bool×Int :=
 ((decide ((w (b0+1)) > 200)),(w (b0+1)))
def iH.s1 (p0:ah) (p1:(List Int)) (s1:Int×Int):Option (Sum (Int×Int) Int) :=
 if s1.2 < (p0.Coefs.length:Int) then
  (at_ p0.Coefs s1.2).bind fun x3 =>
  (at_ p1 s1.2).bind fun x4 =>
  some (.inl ((w (s1.1+(w (x3 * x4)))),(w (s1.2+1))))
 else
  some (.inr s1.1)
def iH (p0:ah) (p1:(List Int)):Option Int :=
 (gB (iH.s1 p0 p1) (p0.Const,0)).bind fun z5 =>
 some z5
def nR (p0:(List Int)):Option (List Int) :=
 (cut p0 0 (p0.length:Int)).bind fun x1 =>
 some x1
def aJ.s1 (p0:(List au)) (p1:(List Int)) (self23:(List au)→(List Int)→Int→Option (Bool×Int)) (s4:Int×Int):Option (Sum (Int×Int) (Sum Int (Bool×Int))) :=
 (at_ p0 (p1.length:Int)).bind fun x5 =>
 (iH (ah.mk x5.High.Coefs x5.High.Const) p1).bind fun x6 =>
 if s4.1≤x6 then
  (nR p1).bind fun x8 =>
  (app (x8:List Int) ([s4.1]:List Int)).bind fun x9 =>
  (self23 p0 x9 s4.2).bind fun x10 =>
  if x10.1=true then
   some (.inr (.inr (true,x10.2)))
  else
   some (.inl ((w (s4.1+1)),x10.2))
 else
  some (.inr (.inl s4.2))
def aJ.F (self23:(List au)→(List Int)→Int→Option (Bool×Int)) (p0:(List au)) (p1:(List Int)) (b0:Int):Option (Bool×Int) :=
 if (p1.length:Int)=(p0.length:Int) then
  some ((jM p1 b0).1,(jM p1 b0).2)
 else
  (at_ p0 (p1.length:Int)).bind fun x2 =>
  (iH (ah.mk x2.Low.Coefs x2.Low.Const) p1).bind fun x3 =>
  (gB (aJ.s1 p0 p1 self23) (x3,b0)).bind fun z12=>match z12 with
  | .inl v13 =>
   some (false,v13)
  | .inr r14=>some r14
def aJ.N:Nat→(List au)→(List Int)→Int→Option (Bool×Int)
 | 0=>fun _ _ _=>none
 | n+1=>aJ.F (aJ.N n)
def aJ (p0:(List au)) (p1:(List Int)) (b0:Int):Option (Bool×Int):=lim fun n=>aJ.N n p0 p1 b0
def oN (p0:(List au)):Option (Int×Int) :=
 (dW [(aA.mk (decide ((p0.length:Int) > 0)) 17),(aA.mk (decide ((p0.length:Int)≤3)) 8)]).bind fun x1 =>
 if ¬ x1=0 then
  some (0,x1)
 else
  (aY p0).bind fun x3 =>
  if ¬ x3.2=0 then
   some (x3.1,x3.2)
  else
   (jO p0).bind fun x5 =>
   (dX x5).bind fun x6 =>
   if x6=true then
    some (0,8)
   else
    (aJ p0 [] 0).bind fun x8 =>
    (dW [(aA.mk (!x8.1) 8)]).bind fun x9 =>
    some (0,x9)
def oW (p0:(List au)):Option Int :=
 (oN p0).bind fun x1 =>
 some x1.2
def slices_Clone_int (p0:(List Int)):Option (List Int) :=
 (app ([]:List Int) p0).bind fun x1 =>
 some x1
def uB (p0:(List Int)) (b1:(List (List Int))):Option (Bool×List (List Int)) :=
 (slices_Clone_int p0).bind fun x1 =>
 (app b1 ([x1]:List (List Int))).bind fun x2 =>
 some (false,x2)
def bJ.s1 (p0:(List au)) (p1:(List Int)) (self28:(List au)→(List Int)→(List (List Int))→Option (Bool×List (List Int))) (s5:Int×List (List Int)):Option (Sum (Int×List (List Int)) (List (List Int))) :=
 (at_ p0 (p1.length:Int)).bind fun x6 =>
 (iH (ah.mk x6.High.Coefs x6.High.Const) p1).bind fun x7 =>
 if s5.1≤x7 then
  (nR p1).bind fun x9 =>
  (app (x9:List Int) ([s5.1]:List Int)).bind fun x10 =>
  (self28 p0 x10 s5.2).bind fun x11 =>
  if x11.1=true then
   none
  else
   some (.inl ((w (s5.1+1)),x11.2))
 else
  some (.inr s5.2)
def bJ.F (self28:(List au)→(List Int)→(List (List Int))→Option (Bool×List (List Int))) (p0:(List au)) (p1:(List Int)) (b1:(List (List Int))):Option (Bool×List (List Int)) :=
 if (p1.length:Int)=(p0.length:Int) then
  (uB p1 b1).bind fun x2 =>
  some (x2.1,x2.2)
 else
  (at_ p0 (p1.length:Int)).bind fun x3 =>
  (iH (ah.mk x3.Low.Coefs x3.Low.Const) p1).bind fun x4 =>
  (gB (bJ.s1 p0 p1 self28) (x4,b1)).bind fun z13 =>
  some (false,z13)
def bJ.N:Nat→(List au)→(List Int)→(List (List Int))→Option (Bool×List (List Int))
 | 0=>fun _ _ _=>none
 | n+1=>bJ.F (bJ.N n)
def bJ (p0:(List au)) (p1:(List Int)) (b1:(List (List Int))):Option (Bool×List (List Int)):=lim fun n=>bJ.N n p0 p1 b1
def rO (p0:(List au)):Option (List (List Int)) :=
 (bJ p0 [] []).bind fun x1 =>
 some x1.2
def vC (p0:(List au)):Option ((List (List Int))×Int) :=
 (oW p0).bind fun x1 =>
 if ¬ x1=0 then
  none
 else
  (rO p0).bind fun x3 =>
  some (x3,0)
def qj:(List ai) :=
 [(ai.mk 0 [(dK 0 [1,0]),(dK 0 [0,1])] true),(ai.mk 0 [(dK (-1) [1,0]),(dK 0 [0,1])] false)]
def oG (p0:Int) (p1:ah) (p2:Int):Option Int :=
 (kK p1 p2).bind fun x1 =>
 some x1
def bn.s1 (p0:(List ah)) (p1_0:Int) (s1:Int):Option (Sum Int (Sum Unit (Int×Int))) :=
 if s1 < (p0.length:Int) then
  (at_ p0 s1).bind fun x3 =>
  (oG s1 x3 p1_0).bind fun x4 =>
  if ¬ x4=0 then
   some (.inr (.inr (s1,x4)))
  else
   some (.inl (w (s1+1)))
 else
  some (.inr (.inl ()))
def bn (p0:(List ah)) (p1_0:Int):Option (Int×Int) :=
 (gB (bn.s1 p0 p1_0) 0).bind fun z6=>match z6 with
 | .inl v7 =>
  some (0,0)
 | .inr r8=>some r8
def oP (p0:ai) (p1:Int):Option Int :=
 (dW [(aA.mk (aB p0.Array 0 9) 2),(aA.mk (aB (p0.Subscripts.length:Int) 1 7) 32)]).bind fun x1 =>
 if x1=0 then
  (bn p0.Subscripts p1).bind fun x3 =>
  some x3.2
 else
  some x1
def oC (p0:Int) (p1:ai) (p2:(List au)):Option Int :=
 (oP p1 (p2.length:Int)).bind fun x1 =>
 some x1
def bg.s1 (p0:(List ai)) (p1_0:(List au)) (s1:Int):Option (Sum Int (Sum Unit (Int×Int))) :=
 if s1 < (p0.length:Int) then
  (at_ p0 s1).bind fun x3 =>
  (oC s1 x3 p1_0).bind fun x4 =>
  if ¬ x4=0 then
   some (.inr (.inr (s1,x4)))
  else
   some (.inl (w (s1+1)))
 else
  some (.inr (.inl ()))
def bg (p0:(List ai)) (p1_0:(List au)):Option (Int×Int) :=
 (gB (bg.s1 p0 p1_0) 0).bind fun z6=>match z6 with
 | .inl v7 =>
  some (0,0)
 | .inr r8=>some r8
def oM (p0:(List au)) (p1:(List ai)):Option (Int×Int) :=
 (oW p0).bind fun x1 =>
 (dW [(aA.mk (decide ((p1.length:Int)≤8)) 8)]).bind fun x2 =>
 (gK [x1,x2]).bind fun x3 =>
 if ¬ x3=0 then
  some (0,x3)
 else
  (bg p1 p0).bind fun x5 =>
  some (x5.1,x5.2)
def nD (p0:(List au)) (p1:(List ai)) (p2:Int) (p3:Int):Option Int :=
 (oM p0 p1).bind fun x1 =>
 (dW [(aA.mk ((aB p2 0 (w ((p1.length:Int) - 1)))&&(aB p3 0 (w ((p1.length:Int) - 1)))) 6)]).bind fun x4 =>
 (gK [x1.2,x4]).bind fun x5 =>
 some x5
def ig (p0:ai) (p1:ai):Bool :=
 (((p0.Array==p1.Array)&&((p0.Subscripts.length:Int)==(p1.Subscripts.length:Int)))&&(p0.Write || p1.Write))
def jG.s1 (p0:ai) (p1:(List Int)) (s1:Int×List Int):Option (Sum (Int×List Int) (List Int)) :=
 if s1.1 < (p0.Subscripts.length:Int) then
  (at_ p0.Subscripts s1.1).bind fun x3 =>
  (iH x3 p1).bind fun x4 =>
  (app s1.2 ([x4]:List Int)).bind fun x5 =>
  some (.inl ((w (s1.1+1)),x5))
 else
  some (.inr s1.2)
def jG (p0:ai) (p1:(List Int)):Option (List Int) :=
 (gB (jG.s1 p0 p1) (0,[])).bind fun z6 =>
 some z6
def slices_Equal_int.s1 (p0:(List Int)) (p1:(List Int)) (s2:Int):Option (Sum Int (Sum Unit Bool)) :=
 if s2 < (p0.length:Int) then
  (at_ p0 s2).bind fun x4 =>
  (at_ p1 s2).bind fun x5 =>
  if ¬ x4=x5 then
   some (.inr (.inr false))
  else
   some (.inl (w (s2+1)))
 else
  some (.inr (.inl ()))
def slices_Equal_int (p0:(List Int)) (p1:(List Int)):Option Bool :=
 if ¬ (p0.length:Int)=(p1.length:Int) then
  none
 else
  (gB (slices_Equal_int.s1 p0 p1) 0).bind fun z7=>match z7 with
  | .inl v8 =>
   some true
  | .inr r9=>some r9
def kz.s1 (p0:(List Int)) (p1:(List Int)) (s1:Int×List Int):Option (Sum (Int×List Int) (List Int)) :=
 if s1.1 < (p0.length:Int) then
  (at_ p0 s1.1).bind fun x3 =>
  (at_ p1 s1.1).bind fun x4 =>
  (app s1.2 ([(w (x3 - x4))]:List Int)).bind fun x5 =>
  some (.inl ((w (s1.1+1)),x5))
 else
  some (.inr s1.2)
def kz (p0:(List Int)) (p1:(List Int)):Option (List Int) :=
 (gB (kz.s1 p0 p1) (0,[])).bind fun z6 =>
 some z6
def cmp_isNaN_int (p0:Int):Bool :=
 (p0 != p0)
def cmp_Compare_int (p0:Int) (p1:Int):Option Int :=
 if (cmp_isNaN_int p0)=true then
  none
 else
  if (cmp_isNaN_int p1)=true then
   none
  else
   if p0 < p1 then
    none
   else
    if p0 > p1 then
     some 1
    else
     some 0
def qY.s1 (p0:(List Int)) (s1:Int×List Int):Option (Sum (Int×List Int) (List Int)) :=
 if s1.1 < (p0.length:Int) then
  (at_ p0 s1.1).bind fun x3 =>
  (cmp_Compare_int x3 0).bind fun x4 =>
  (app s1.2 ([x4]:List Int)).bind fun x5 =>
  some (.inl ((w (s1.1+1)),x5))
 else
  some (.inr s1.2)
def qY (p0:(List Int)):Option (List Int) :=
 (gB (qY.s1 p0) (0,[])).bind fun z6 =>
 some z6
def jE.s1 (p0:(List Int)) (p1:(List Int)) (s1:Int):Option (Sum Int Unit) :=
 if s1 < (p0.length:Int) then
  (at_ p0 s1).bind fun x3 =>
  if s1≥(p1.length:Int) then
   none
  else
   (at_ p1 s1).bind fun x5 =>
   (cmp_Compare_int x3 x5).bind fun x6 =>
   if ¬ x6=0 then
    none
   else
    some (.inl (w (s1+1)))
 else
  some (.inr ())
def jE (p0:(List Int)) (p1:(List Int)):Option Int :=
 (gB (jE.s1 p0 p1) 0).bind fun z8 =>
 if (p0.length:Int) < (p1.length:Int) then
  none
 else
  some 0
def ku (p0:aF) (p1:(List Int)):Option Int :=
 (jE p0.Signs p1).bind fun x1 =>
 some x1
def bC.s1 (p1:(List Int)) (b0:(List aF)) (s1:Int×Int):Option (Sum (Int×Int) Int) :=
 if s1.1 < s1.2 then
  (shr .u64 (IntKind.u64.wrap (w (s1.1+s1.2))) 1).bind fun x3 =>
  (at_ b0 (w x3)).bind fun x4 =>
  (ku x4 p1).bind fun x5 =>
  if x5 < 0 then
   none
  else
   some (.inl (s1.1,(w x3)))
 else
  some (.inr s1.1)
def bC (p1:(List Int)) (b0:(List aF)):Option (Int×Bool) :=
 (gB (bC.s1 p1 b0) (0,(b0.length:Int))).bind fun z7 =>
 if z7 < (b0.length:Int) then
  (at_ b0 z7).bind fun x9 =>
  (ku x9 p1).bind fun x10 =>
  some (z7,(x10==0))
 else
  some (z7,false)
def lG (p1:Int) (p2:(List aF)) (b0:(List aF)):Option (List aF):=Eo b0 p1 p2
def lD (p0:(List Int)) (p1:(List Int)) (b1:(List aF)):Option (List aF) :=
 (kz p1 p0).bind fun x1 =>
 (qY x1).bind fun x2 =>
 (bC x2 b1).bind fun x3 =>
 if ¬ (x3.2=true) then
  (slices_Clone_int p0).bind fun x5 =>
  (slices_Clone_int p1).bind fun x6 =>
  (lG x3.1 [(aF.mk x2 x5 x6)] b1).bind fun x7 =>
  some x7
 else
  some b1
def bY.s2 (p2:bG) (x2:ai) (x4:(List (List Int))) (s5:Int×List aF) (x7:(List Int)) (x8:(List Int)) (s9:Int×List aF):Option (Sum (Int×List aF) (List aF)) :=
 if s9.1 < (x4.length:Int) then
  if s9.1 > s5.1 then
   (at_ x4 s9.1).bind fun x12 =>
   (jG x2 x12).bind fun x13 =>
   (slices_Equal_int x8 x13).bind fun x14 =>
   if x14=true then
    (at_ x4 s9.1).bind fun x16 =>
    (lD x7 x16 s9.2).bind fun x17 =>
    some (.inl ((w (s9.1+1)),x17))
   else
    some (.inl ((w (s9.1+1)),s9.2))
  else
   if p2.From < p2.To then
    (at_ x4 s9.1).bind fun x19 =>
    (jG x2 x19).bind fun x20 =>
    (slices_Equal_int x8 x20).bind fun x21 =>
    if x21=true then
     (at_ x4 s9.1).bind fun x23 =>
     (lD x7 x23 s9.2).bind fun x24 =>
     some (.inl ((w (s9.1+1)),x24))
    else
     some (.inl ((w (s9.1+1)),s9.2))
   else
    none
 else
  some (.inr s9.2)
def bY.s1 (p2:bG) (x1:ai) (x2:ai) (x4:(List (List Int))) (s5:Int×List aF):Option (Sum (Int×List aF) (List aF)) :=
 if s5.1 < (x4.length:Int) then
  (at_ x4 s5.1).bind fun x7 =>
  (jG x1 x7).bind fun x8 =>
  (gB (bY.s2 p2 x2 x4 s5 x7 x8) (s5.1,s5.2)).bind fun z25 =>
  some (.inl ((w (s5.1+1)),z25))
 else
  some (.inr s5.2)
def bY (p0:(List au)) (p1:(List ai)) (p2:bG) (b1:(List aF)):Option (List aF) :=
 (at_ p1 p2.From).bind fun x1 =>
 (at_ p1 p2.To).bind fun x2 =>
 if ¬ ((ig x1 x2)=true) then
  none
 else
  (rO p0).bind fun x4 =>
  (gB (bY.s1 p2 x1 x2 x4) (0,b1)).bind fun z27 =>
  some z27
def qH (p0:(List au)) (p1:(List ai)) (p2:bG):Option ((List aF)×Int) :=
 (nD p0 p1 p2.From p2.To).bind fun x1 =>
 if ¬ x1=0 then
  none
 else
  (bY p0 p1 p2 []).bind fun x3 =>
  some (x3,0)
def bZ.s1 (p1:(List Int)) (b0:(List (List Int))) (s1:Int×Int):Option (Sum (Int×Int) Int) :=
 if s1.1 < s1.2 then
  (shr .u64 (IntKind.u64.wrap (w (s1.1+s1.2))) 1).bind fun x3 =>
  (at_ b0 (w x3)).bind fun x4 =>
  (jE x4 p1).bind fun x5 =>
  if x5 < 0 then
   none
  else
   some (.inl (s1.1,(w x3)))
 else
  some (.inr s1.1)
def bZ (p1:(List Int)) (b0:(List (List Int))):Option (Int×Bool) :=
 (gB (bZ.s1 p1 b0) (0,(b0.length:Int))).bind fun z7 =>
 if z7 < (b0.length:Int) then
  (at_ b0 z7).bind fun x9 =>
  (jE x9 p1).bind fun x10 =>
  some (z7,(x10==0))
 else
  some (z7,false)
def tJ (p1:Int) (p2:(List (List Int))) (b0:(List (List Int))):Option (List (List Int)):=Eo b0 p1 p2
def mW (p0:(List Int)) (p1:(List Int)) (b1:(List (List Int))):Option (List (List Int)) :=
 (kz p1 p0).bind fun x1 =>
 (bZ x1 b1).bind fun x2 =>
 if ¬ (x2.2=true) then
  (tJ x2.1 [x1] b1).bind fun x4 =>
  some x4
 else
  some b1
def dD.s2 (p2:bG) (x2:ai) (x4:(List (List Int))) (s5:Int×List (List Int)) (x7:(List Int)) (x8:(List Int)) (s9:Int×List (List Int)):Option (Sum (Int×List (List Int)) (List (List Int))) :=
 if s9.1 < (x4.length:Int) then
  if s9.1 > s5.1 then
   (at_ x4 s9.1).bind fun x12 =>
   (jG x2 x12).bind fun x13 =>
   (slices_Equal_int x8 x13).bind fun x14 =>
   if x14=true then
    (at_ x4 s9.1).bind fun x16 =>
    (mW x7 x16 s9.2).bind fun x17 =>
    some (.inl ((w (s9.1+1)),x17))
   else
    some (.inl ((w (s9.1+1)),s9.2))
  else
   if p2.From < p2.To then
    (at_ x4 s9.1).bind fun x19 =>
    (jG x2 x19).bind fun x20 =>
    (slices_Equal_int x8 x20).bind fun x21 =>
    if x21=true then
     (at_ x4 s9.1).bind fun x23 =>
     (mW x7 x23 s9.2).bind fun x24 =>
     some (.inl ((w (s9.1+1)),x24))
    else
     some (.inl ((w (s9.1+1)),s9.2))
   else
    none
 else
  some (.inr s9.2)
def dD.s1 (p2:bG) (x1:ai) (x2:ai) (x4:(List (List Int))) (s5:Int×List (List Int)):Option (Sum (Int×List (List Int)) (List (List Int))) :=
 if s5.1 < (x4.length:Int) then
  (at_ x4 s5.1).bind fun x7 =>
  (jG x1 x7).bind fun x8 =>
  (gB (dD.s2 p2 x2 x4 s5 x7 x8) (s5.1,s5.2)).bind fun z25 =>
  some (.inl ((w (s5.1+1)),z25))
 else
  some (.inr s5.2)
def dD (p0:(List au)) (p1:(List ai)) (p2:bG) (b1:(List (List Int))):Option (List (List Int)) :=
 (at_ p1 p2.From).bind fun x1 =>
 (at_ p1 p2.To).bind fun x2 =>
 if ¬ ((ig x1 x2)=true) then
  none
 else
  (rO p0).bind fun x4 =>
  (gB (dD.s1 p2 x1 x2 x4) (0,b1)).bind fun z27 =>
  some z27
def rM (p0:(List au)) (p1:(List ai)) (p2:bG):Option ((List (List Int))×Int) :=
 (nD p0 p1 p2.From p2.To).bind fun x1 =>
 if ¬ x1=0 then
  none
 else
  (dD p0 p1 p2 []).bind fun x3 =>
  some (x3,0)
def uq:aK :=
 (aK.mk 2 [(ae.mk [1,0] 0 false),(ae.mk [(-1),0] 3 false),(ae.mk [0,1] 0 false),(ae.mk [0,(-1)] 3 false),(ae.mk [1,1] (-7) false)])
def qO (p0:Int):Bool :=
 (!(aB p0 (-1000) 1000))
def eX.s1 (p0:(List Int)) (s1:Int):Option (Sum Int Unit) :=
 if s1 < (p0.length:Int) then
  (at_ p0 s1).bind fun x3 =>
  if (qO x3)=true then
   none
  else
   some (.inl (w (s1+1)))
 else
  some (.inr ())
def eX (p0:(List Int)):Option Int :=
 (gB (eX.s1 p0) 0).bind fun z5 =>
 some (-1)
def jb (p0:(List Int)):Option Bool :=
 (eX p0).bind fun x1 =>
 some (decide (x1≥0))
def xQ (p0:ae) (p1:Int):Option Int :=
 (jb p0.Coefs).bind fun x1 =>
 if ¬ (x1=true) then
  (dW [(aA.mk ((p0.Coefs.length:Int)==p1) 10),(aA.mk (aB p0.Const (-100000) 100000) 2)]).bind fun x3 =>
  some x3
 else
  none
def pW (p0:Int) (p1:ae) (p2:aK):Option Int :=
 (xQ p1 p2.Vars).bind fun x1 =>
 some x1
def dC.s1 (p0:(List ae)) (p1_0:aK) (s1:Int):Option (Sum Int Unit) :=
 if s1 < (p0.length:Int) then
  (at_ p0 s1).bind fun x3 =>
  (pW s1 x3 p1_0).bind fun x4 =>
  if ¬ x4=0 then
   none
  else
   some (.inl (w (s1+1)))
 else
  some (.inr ())
def dC (p0:(List ae)) (p1_0:aK):Option (Int×Int) :=
 (gB (dC.s1 p0 p1_0) 0).bind fun z6 =>
 some (0,0)
def rJ (p0:aK):Option (Int×Int) :=
 (dW [(aA.mk (aB p0.Vars 1 8) 2),(aA.mk (decide ((p0.Rows.length:Int)≤60)) 8)]).bind fun x1 =>
 if ¬ x1=0 then
  none
 else
  (dC p0.Rows p0).bind fun x3 =>
  some (x3.1,x3.2)
def qP (p0:aK):Option Int :=
 (rJ p0).bind fun x1 =>
 some x1.2
def oZ.s1 (p0:(List aj)) (s19:Int×Int):Option (Sum (Int×Int) Int) :=
 if s19.2 < (p0.length:Int) then
  (at_ p0 s19.2).bind fun x21 =>
  if ¬ x21.Kind=2 then
   some (.inl (s19.1,(w (s19.2+1))))
  else
   none
 else
  some (.inr s19.1)
def oZ (p0:(List aj)) (p1:Int):Option Int :=
 (at_ p0 p1).bind fun x1 =>
 if ¬ ((aB x1.Kind 0 2)=true) then
  none
 else
  (gB (oZ.s1 p0) (0,0)).bind fun z23 =>
  (dW [(aA.mk ((((x1.Kind==1) || (x1.Divisor==0))&&((x1.Kind==2) || ((((x1.Var==0)&&(x1.At==0))&&(x1.Left==0))&&(x1.Right==0))))&&((!(x1.Kind==2)) || ((x1.Weights.length:Int)==0))) 3),(aA.mk ((!(x1.Kind==2)) || ((aB x1.Left (w (p1+1)) (w ((p0.length:Int) - 1)))&&(aB x1.Right (w (p1+1)) (w ((p0.length:Int) - 1))))) 2),(aA.mk ((p1==0) || (z23==1)) 19)]).bind fun x30 =>
  some x30
def qF (p0:Int) (p1:aj) (p2:(List aj)):Option Int :=
 (oZ p2 p0).bind fun x1 =>
 some x1
def dA.s1 (p0:(List aj)) (p1_0:(List aj)) (s1:Int):Option (Sum Int Unit) :=
 if s1 < (p0.length:Int) then
  (at_ p0 s1).bind fun x3 =>
  (qF s1 x3 p1_0).bind fun x4 =>
  if ¬ x4=0 then
   none
  else
   some (.inl (w (s1+1)))
 else
  some (.inr ())
def dA (p0:(List aj)) (p1_0:(List aj)):Option (Int×Int) :=
 (gB (dA.s1 p0 p1_0) 0).bind fun z6 =>
 some (0,0)
def lC (p0:Int):Bool :=
 (!(aB p0 (-1000000) 1000000))
def dO.s1 (p0:(List Int)) (s1:Int):Option (Sum Int Unit) :=
 if s1 < (p0.length:Int) then
  (at_ p0 s1).bind fun x3 =>
  if (lC x3)=true then
   none
  else
   some (.inl (w (s1+1)))
 else
  some (.inr ())
def dO (p0:(List Int)):Option Int :=
 (gB (dO.s1 p0) 0).bind fun z5 =>
 some (-1)
def iE (p0:(List Int)):Option Bool :=
 (dO p0).bind fun x1 =>
 some (decide (x1≥0))
def pG (p1:Int):Option (List ae):=if 0≤p1∧p1≤16777216 then some [] else none
def fZ.s1 (p0:(List (List ae))) (s1:Int×Int):Option (Sum (Int×Int) Int) :=
 if s1.2 < (p0.length:Int) then
  (at_ p0 s1.2).bind fun x3 =>
  if (w (s1.1+(x3.length:Int))) < 0 then
   none
  else
   some (.inl ((w (s1.1+(x3.length:Int))),(w (s1.2+1))))
 else
  some (.inr s1.1)
def fZ.s2 (p0:(List (List ae))) (s7:Int×List ae):Option (Sum (Int×List ae) (List ae)) :=
 if s7.1 < (p0.length:Int) then
  (at_ p0 s7.1).bind fun x9 =>
  (app s7.2 x9).bind fun x10 =>
  some (.inl ((w (s7.1+1)),x10))
 else
  some (.inr s7.2)
def fZ (p0:(List (List ae))):Option (List ae) :=
 (gB (fZ.s1 p0) (0,0)).bind fun z5 =>
 (pG z5).bind fun x6 =>
 (gB (fZ.s2 p0) (0,x6)).bind fun z11 =>
 some z11
def iK.s2 (x8:Int) (x17:ae) (s18:Int×List Int):Option (Sum (Int×List Int) (List Int)) :=
 if s18.1 < (x17.Coefs.length:Int) then
  (at_ x17.Coefs s18.1).bind fun x20 =>
  (at_ s18.2 s18.1).bind fun x21 =>
  (at_ s18.2 s18.1).bind fun x22 =>
  some (.inl ((w (s18.1+1)),(s18.2.set s18.1.toNat (w (x21+(w (x8 * x20)))))))
 else
  some (.inr s18.2)
def iK.s1 (x1:aj) (x4:(List ae)) (s6:Int×Int×List Int):Option (Sum (Int×Int×List Int) (Int×List Int)) :=
 if s6.1 < (x1.Weights.length:Int) then
  (at_ x1.Weights s6.1).bind fun x8 =>
  (at_ x4 s6.1).bind fun x9 =>
  if ((!x9.Equal)&&((decide (x8 < 0)) || ((x1.Kind==1)&&(x8 != 0))))=true then
   none
  else
   (at_ x4 s6.1).bind fun x17 =>
   (gB (iK.s2 x8 x17) (0,s6.2.2)).bind fun z23 =>
   (at_ x4 s6.1).bind fun x24 =>
   some (.inl ((w (s6.1+1)),(w (s6.2.1+(w (x8 * x24.Const)))),z23))
 else
  some (.inr (s6.2.1,s6.2.2))
def iK (p1:Int) (pb0_0:Int) (pb0_1:(List ae)) (pb0_2:(List aj)) (b1:(List (List ae))):Option (ae×Bool) :=
 (at_ pb0_2 p1).bind fun x1 =>
 (G9 pb0_0 0).bind fun x2 =>
 (at_ b1 p1).bind fun x3 =>
 (fZ [pb0_1,x3]).bind fun x4 =>
 if ¬ (x1.Weights.length:Int)=(x4.length:Int) then
  none
 else
  (gB (iK.s1 x1 x4) (0,0,x2)).bind fun z26 =>
  some ((ae.mk z26.2 z26.1 false),true)
def kJ (p0:Int):Bool :=
 (p0 != 0)
def dJ.s1 (p0:(List Int)) (s1:Int):Option (Sum Int Unit) :=
 if s1 < (p0.length:Int) then
  (at_ p0 s1).bind fun x3 =>
  if (kJ x3)=true then
   none
  else
   some (.inl (w (s1+1)))
 else
  some (.inr ())
def dJ (p0:(List Int)):Option Int :=
 (gB (dJ.s1 p0) 0).bind fun z5 =>
 some (-1)
def gZ (p0:(List Int)):Option Bool :=
 (dJ p0).bind fun x1 =>
 some (decide (x1≥0))
def pg (p1:Int) (pb0_0:Int) (pb0_1:(List ae)) (pb0_2:(List aj)) (b1:(List (List ae))):Option Bool :=
 (at_ pb0_2 p1).bind fun x1 =>
 if x1.Kind=2 then
  none
 else
  (iK p1 pb0_0 pb0_1 pb0_2 b1).bind fun x3 =>
  if ¬ (x3.2=true) then
   none
  else
   if x1.Kind=0 then
    if x3.1.Const < 0 then
     (gZ x3.1.Coefs).bind fun x7 =>
     some (!x7)
    else
     none
   else
    none
def qG (p0:Int) (p1:aj) (pb1_0:Int) (pb1_1:(List ae)) (pb1_2:(List aj)) (b2:(List (List ae))):Option Int :=
 (iE p1.Weights).bind fun x1 =>
 if (x1 || (!(aB p1.At (-100000) 100000)))=true then
  none
 else
  (pg p0 pb1_0 pb1_1 pb1_2 b2).bind fun x5 =>
  (dW [(aA.mk x5 19)]).bind fun x6 =>
  some x6
def dB.s1 (p0:(List aj)) (pb1_0:Int) (pb1_1:(List ae)) (pb1_2:(List aj)) (b2:(List (List ae))) (s1:Int):Option (Sum Int Unit) :=
 if s1 < (p0.length:Int) then
  (at_ p0 s1).bind fun x3 =>
  (qG s1 x3 pb1_0 pb1_1 pb1_2 b2).bind fun x4 =>
  if ¬ x4=0 then
   none
  else
   some (.inl (w (s1+1)))
 else
  some (.inr ())
def dB (p0:(List aj)) (pb1_0:Int) (pb1_1:(List ae)) (pb1_2:(List aj)) (b2:(List (List ae))):Option (Int×Int) :=
 (gB (dB.s1 p0 pb1_0 pb1_1 pb1_2 b2) 0).bind fun z6 =>
 some (0,0)
def sK (p0:aK) (p1:(List aj)):Option (Int×Int) :=
 (qP p0).bind fun x1 =>
 (dW [(aA.mk (decide ((p1.length:Int) > 0)) 17),(aA.mk (decide ((p1.length:Int)≤4000)) 8)]).bind fun x2 =>
 (gK [x1,x2]).bind fun x3 =>
 if ¬ x3=0 then
  none
 else
  (dA p1 p1).bind fun x5 =>
  if ¬ x5.2=0 then
   none
  else
   (G9 (p1.length:Int) []).bind fun x7 =>
   (dB p1 p0.Vars p0.Rows p1 x7).bind fun x8 =>
   if ¬ x8.2=0 then
    none
   else
    some ((p1.length:Int),0)
def sO.s1 (p0:ae) (s1:Int×Int×Int):Option (Sum (Int×Int×Int) (Int×Int)) :=
 if s1.2.2 < (p0.Coefs.length:Int) then
  (at_ p0.Coefs s1.2.2).bind fun x3 =>
  if ¬ x3=0 then
   some (.inl (s1.2.2,(w (s1.2.1+1)),(w (s1.2.2+1))))
  else
   some (.inl (s1.1,s1.2.1,(w (s1.2.2+1))))
 else
  some (.inr (s1.1,s1.2.1))
def sO (p0:ae):Option (Int×Bool) :=
 (gB (sO.s1 p0) (0,0,0)).bind fun z5 =>
 some (z5.1,(z5.2==1))
def vZ (p0:Int) (p1:Int):Option Int :=
 (quo .i64 p0 p1).bind fun x1 =>
 (rem p0 p1).bind fun x2 =>
 if ((x2 != 0)&&((decide (p0 < 0)) != (decide (p1 < 0))))=true then
  none
 else
  some x1
def qX.s1 (p0:aK) (s3:Int×List bD×List bD):Option (Sum (Int×List bD×List bD) (List bD×List bD)) :=
 if s3.1 < (p0.Rows.length:Int) then
  (at_ p0.Rows s3.1).bind fun x5 =>
  (sO x5).bind fun x6 =>
  if (x5.Equal || (!x6.2))=true then
   some (.inl ((w (s3.1+1)),s3.2.1,s3.2.2))
  else
   (at_ x5.Coefs x6.1).bind fun x10 =>
   if x10 > 0 then
    (vZ x5.Const x10).bind fun x12 =>
    (at_ s3.2.1 x6.1).bind fun x13 =>
    if ¬ (x13.known=true) then
     (at_ s3.2.1 x6.1).bind fun x15 =>
     some (.inl ((w (s3.1+1)),(s3.2.1.set x6.1.toNat (bD.mk true (w (0 - x12)) s3.1)),s3.2.2))
    else
     none
   else
    (vZ x5.Const (w (0 - x10))).bind fun x16 =>
    (at_ s3.2.2 x6.1).bind fun x17 =>
    if ¬ (x17.known=true) then
     (at_ s3.2.2 x6.1).bind fun x19 =>
     some (.inl ((w (s3.1+1)),s3.2.1,(s3.2.2.set x6.1.toNat (bD.mk true x16 s3.1))))
    else
     none
 else
  some (.inr (s3.2.1,s3.2.2))
def qX (p0:aK):Option dw :=
 (G9 p0.Vars (bD.mk false 0 0)).bind fun x1 =>
 (G9 p0.Vars (bD.mk false 0 0)).bind fun x2 =>
 (gB (qX.s1 p0) (0,x1,x2)).bind fun z20 =>
 some (dw.mk z20.1 z20.2)
def qw (p0:bD):Bool :=
 (!p0.known)
def dH.s1 (p0:(List bD)) (s1:Int):Option (Sum Int Unit) :=
 if s1 < (p0.length:Int) then
  (at_ p0 s1).bind fun x3 =>
  if (qw x3)=true then
   none
  else
   some (.inl (w (s1+1)))
 else
  some (.inr ())
def dH (p0:(List bD)):Option Int :=
 (gB (dH.s1 p0) 0).bind fun z5 =>
 some (-1)
def eY (p0:(List bD)):Option Bool :=
 (dH p0).bind fun x1 =>
 some (decide (x1≥0))
def wG (p0:aK):Option (dw×Int) :=
 (qP p0).bind fun x1 =>
 if ¬ x1=0 then
  none
 else
  (qX p0).bind fun x3 =>
  (eY x3.low).bind fun x4 =>
  if ¬ (x4=true) then
   (eY x3.high).bind fun x6 =>
   (dW [(aA.mk (!x6) 21)]).bind fun x7 =>
   some (x3,x7)
  else
   none
def mP.s1 (p0:dw) (s1:Int):Option (Sum Int Unit) :=
 if s1 < (p0.low.length:Int) then
  (at_ p0.low s1).bind fun x3 =>
  (at_ p0.high s1).bind fun x4 =>
  if x3.n > x4.n then
   none
  else
   some (.inl (w (s1+1)))
 else
  some (.inr ())
def mP (p0:dw):Option (Int×Bool) :=
 (gB (mP.s1 p0) 0).bind fun z6 =>
 some (0,false)
def pO (p1:aj) (pb0_0:Int) (pb0_1:(List ae)) (pb0_3:Bool) (b1:(List aj)):Option (Int×List aj×Bool) :=
 (app b1 ([p1]:List aj)).bind fun x1 =>
 some ((w ((x1.length:Int) - 1)),x1,(pb0_3 || (decide ((x1.length:Int) > 4000))))
def sU (p1:Int) (p2:(List (Int×Int))) (pb0_0:Int) (pb0_1:(List ae)) (pb0_3:Bool) (b1:(List aj)):Option (List aj×Bool) :=
 (G9 p1 0).bind fun x1 =>
 (G8 x1 p2).bind fun x2 =>
 (pO (aj.mk 0 x2 0 0 0 0 0) pb0_0 pb0_1 pb0_3 b1).bind fun x3 =>
 some (x3.2.1,x3.2.2)
def nM.s1 (p0:dw) (p1:ae) (s1:Int×Int×Int):Option (Sum (Int×Int×Int) (Int×Int)) :=
 if s1.2.2 < (p1.Coefs.length:Int) then
  (at_ p1.Coefs s1.2.2).bind fun x3 =>
  (at_ p0.low s1.2.2).bind fun x4 =>
  (at_ p0.high s1.2.2).bind fun x5 =>
  (at_ p0.low s1.2.2).bind fun x6 =>
  (at_ p0.high s1.2.2).bind fun x7 =>
  some (.inl ((w (s1.1+(mn (w (x3 * x4.n)) (w (x3 * x5.n))))),(w (s1.2.1+(mx (w (x3 * x6.n)) (w (x3 * x7.n))))),(w (s1.2.2+1))))
 else
  some (.inr (s1.1,s1.2.1))
def nM (p0:dw) (p1:ae):Option (Int×Int) :=
 (gB (nM.s1 p0 p1) (p1.Const,p1.Const,0)).bind fun z8 =>
 some (z8.1,z8.2)
def jQ.s2 (s4:Int×Int):Option (Sum (Int×Int) Int) :=
 if s4.2=0 then
  some (.inr s4.1)
 else
  (rem s4.1 s4.2).bind fun x6 =>
  some (.inl (s4.2,x6))
def jQ.s1 (p0:ae) (s1:Int×Int):Option (Sum (Int×Int) Int) :=
 if s1.2 < (p0.Coefs.length:Int) then
  (at_ p0.Coefs s1.2).bind fun x3 =>
  (gB jQ.s2 (s1.1,(mx x3 (w (0 - x3))))).bind fun z7 =>
  some (.inl (z7,(w (s1.2+1))))
 else
  some (.inr s1.1)
def jQ (p0:ae):Option Int :=
 (gB (jQ.s1 p0) (0,0)).bind fun z9 =>
 some z9
def vF (p0:ae):Option Bool :=
 (jQ p0).bind fun x1 =>
 if p0.Equal=true then
  none
 else
  some false
def eu.s3 (p1:dw) (x5:ae) (a7:Int) (s8:Int×List (Int×Int)):Option (Sum (Int×List (Int×Int)) (List (Int×Int))) :=
 if s8.1 < (x5.Coefs.length:Int) then
  (at_ x5.Coefs s8.1).bind fun x10 =>
  if (w (x10 * a7)) > 0 then
   (at_ p1.high s8.1).bind fun x12 =>
   some (.inl ((w (s8.1+1)),(RY s8.2 x12.row (w (((Q3 s8.2 x12.row).getD 0)+(w (x10 * a7)))))))
  else
   if (w (x10 * a7)) < 0 then
    (at_ p1.low s8.1).bind fun x14 =>
    some (.inl ((w (s8.1+1)),(RY s8.2 x14.row (w (((Q3 s8.2 x14.row).getD 0) - (w (x10 * a7)))))))
   else
    some (.inl ((w (s8.1+1)),s8.2))
 else
  some (.inr s8.2)
def eu.j2 (p1:dw) (p2:Int) (pb0_0:Int) (pb0_1:(List ae)) (pb0_3:Bool) (b1:(List aj)) (s3:Int) (x5:ae) (a7:Int):Option (Sum Int (Sum Unit (Bool×List aj×Bool))) :=
 (gB (eu.s3 p1 x5 a7) (0,(RY ([]:List (Int×Int)) s3 a7))).bind fun z15 =>
 (sU p2 z15 pb0_0 pb0_1 pb0_3 b1).bind fun x16 =>
 some (.inr (.inr (true,x16.1,x16.2)))
def eu.s1 (p1:dw) (p2:Int) (pb0_0:Int) (pb0_1:(List ae)) (pb0_3:Bool) (b1:(List aj)) (s3:Int):Option (Sum Int (Sum Unit (Bool×List aj×Bool))) :=
 if s3 < (pb0_1.length:Int) then
  (at_ pb0_1 s3).bind fun x5 =>
  (nM p1 x5).bind fun x6 =>
  if x6.2 < 0 then
   eu.j2 p1 p2 pb0_0 pb0_1 pb0_3 b1 s3 x5 1
  else
   if (x5.Equal&&(decide (x6.1 > 0)))=true then
    eu.j2 p1 p2 pb0_0 pb0_1 pb0_3 b1 s3 x5 (-1)
   else
    (vF x5).bind fun x11 =>
    if x11=true then
     (G9 p2 0).bind fun x13 =>
     (at_ x13 s3).bind fun x14 =>
     (jQ x5).bind fun x15 =>
     (pO (aj.mk 1 (x13.set s3.toNat 1) x15 0 0 0 0) pb0_0 pb0_1 pb0_3 b1).bind fun x16 =>
     some (.inr (.inr (true,x16.2.1,x16.2.2)))
    else
     some (.inl (w (s3+1)))
 else
  some (.inr (.inl ()))
def eu (p1:dw) (p2:Int) (pb0_0:Int) (pb0_1:(List ae)) (pb0_3:Bool) (b1:(List aj)):Option (Bool×List aj×Bool) :=
 (mP p1).bind fun x1 =>
 if x1.2=true then
  none
 else
  (gB (eu.s1 p1 p2 pb0_0 pb0_1 pb0_3 b1) 0).bind fun z18=>match z18 with
  | .inl v19 =>
   some (false,b1,pb0_3)
  | .inr r20=>some r20
def qI (p1:dw) (p2:Int) (pb0_0:Int) (pb0_1:(List ae)) (pb0_3:Bool) (b1:(List aj)):Option ((List Int)×List aj×Bool) :=
 if pb0_3=true then
  none
 else
  (eu p1 p2 pb0_0 pb0_1 pb0_3 b1).bind fun x2 =>
  if x2.1=true then
   some ([],x2.2.1,x2.2.2)
  else
   none
def iC.j2 (pb0_1:(List ae)) (s1:Int) (x3:Int) (a6:Bool×Int×Int):Option (Sum Int Unit) :=
 (at_ pb0_1 a6.2.2).bind fun x7 =>
 (at_ x7.Coefs x3).bind fun x8 =>
 if ((x8==1) || (x8==(-1)))=true then
  some (.inl (w (s1+1)))
 else
  none
def iC.s1 (p1:dw) (pb0_0:Int) (pb0_1:(List ae)) (s1:Int):Option (Sum Int Unit) :=
 if s1 < (w (2 * pb0_0)) then
  (quo .i64 s1 2).bind fun x3 =>
  (at_ p1.low x3).bind fun x4 =>
  (rem s1 2).bind fun x5 =>
  if x5=1 then
   (at_ p1.high x3).bind fun x7 =>
   iC.j2 pb0_1 s1 x3 (x7.known,x7.n,x7.row)
  else
   iC.j2 pb0_1 s1 x3 (x4.known,x4.n,x4.row)
 else
  some (.inr ())
def iC (p1:dw) (p2:Int) (p3:Int) (pb0_0:Int) (pb0_1:(List ae)) (pb0_3:Bool) (b1:(List aj)):Option ((List Int)×List aj×Bool) :=
 (gB (iC.s1 p1 pb0_0 pb0_1) p3).bind fun z12 =>
 (qI p1 p2 pb0_0 pb0_1 pb0_3 b1).bind fun x13 =>
 some (x13.1,x13.2.1,x13.2.2)
def zg (p0:aK):Option (kF×Int) :=
 (wG p0).bind fun x1 =>
 if ¬ x1.2=0 then
  none
 else
  (iC x1.1 (p0.Rows.length:Int) 0 p0.Vars p0.Rows false []).bind fun x3 =>
  if ¬ ((x3.1.isEmpty)=true) then
   none
  else
   if x3.2.2=true then
    none
   else
    some ((kF.mk [] x3.2.1),0)
def dV.F (self101:(List Int)→(List Int)→Option Bool) (p0:(List Int)) (p1:(List Int)):Option Bool :=
 if (((p0.length:Int)==0) || ((p1.length:Int)==0))=true then
  some (decide ((p0.length:Int) < (p1.length:Int)))
 else
  (at_ p0 0).bind fun x4 =>
  (at_ p1 0).bind fun x5 =>
  if x4 < x5 then
   some true
  else
   (at_ p0 0).bind fun x7 =>
   (at_ p1 0).bind fun x8 =>
   if x7=x8 then
    (cut p0 1 (p0.length:Int)).bind fun x10 =>
    (cut p1 1 (p1.length:Int)).bind fun x11 =>
    (self101 x10 x11).bind fun x12 =>
    some x12
   else
    some false
def dV.N:Nat→(List Int)→(List Int)→Option Bool
 | 0=>fun _ _=>none
 | n+1=>dV.F (dV.N n)
def dV (p0:(List Int)) (p1:(List Int)):Option Bool:=lim fun n=>dV.N n p0 p1
def rH (p0:(List Int)) (p1:(List Int)):Option Bool :=
 if (p0.length:Int)=(p1.length:Int) then
  (dV p0 p1).bind fun x2 =>
  if ¬ (x2=true) then
   (dV p1 p0).bind fun x4 =>
   some (!x4)
  else
   some false
 else
  some false
def ve.s1 (p0:(List (List Int))) (p1:(List (List Int))) (s1:Bool×Int):Option (Sum (Bool×Int) Bool) :=
 if s1.2 < (p0.length:Int) then
  if s1.1=true then
   (at_ p0 s1.2).bind fun x4 =>
   (at_ p1 s1.2).bind fun x5 =>
   (rH x4 x5).bind fun x6 =>
   some (.inl (x6,(w (s1.2+1))))
  else
   none
 else
  some (.inr s1.1)
def ve (p0:(List (List Int))) (p1:(List (List Int))):Option Bool :=
 (gB (ve.s1 p0 p1) (((p0.length:Int)==(p1.length:Int)),0)).bind fun z7 =>
 some z7
def yl:Option Bool :=
 (vC jI).bind fun x1 =>
 (qH jI qj (bG.mk 0 1)).bind fun x2 =>
 (rM jI qj (bG.mk 0 1)).bind fun x3 =>
 (sK uq [(aj.mk 0 [0,1,0,1,1] 0 0 0 0 0)]).bind fun x4 =>
 (zg uq).bind fun x5 =>
 if ((x1.2==0)&&((x1.1.length:Int)==10))=true then
  (at_ x1.1 2).bind fun x9 =>
  (rH x9 [2,2]).bind fun x10 =>
  if ((x10&&(x2.2==0))&&((x2.1.length:Int)==1))=true then
   (at_ x2.1 0).bind fun x16 =>
   (rH x16.Signs [1,0]).bind fun x17 =>
   if x17=true then
    (at_ x2.1 0).bind fun x19 =>
    (rH x19.Sink [2,1]).bind fun x20 =>
    if (x20&&(x3.2==0))=true then
     (ve x3.1 [[1,0]]).bind fun x24 =>
     some (((((x24&&(x4.2==0))&&(x4.1==1))&&(x5.2==0))&&((x5.1.Point.length:Int)==0))&&(decide ((x5.1.Proof.length:Int) > 0)))
    else
     none
   else
    none
  else
   none
 else
  none
def fK (p0:ah):Bool :=
 (decide ((p0.Coefs.length:Int)≤10))
def jk.s1 (p0:(List au)) (s4:Int):Option (Sum Int (Sum Unit Bool)) :=
 if s4 < (p0.length:Int) then
  (at_ p0 s4).bind fun x6 =>
  if ¬ ((fK (ah.mk x6.Low.Coefs x6.Low.Const))=true) then
   some (.inr (.inr false))
  else
   (at_ p0 s4).bind fun x8 =>
   if ¬ ((fK (ah.mk x8.High.Coefs x8.High.Const))=true) then
    some (.inr (.inr false))
   else
    some (.inl (w (s4+1)))
 else
  some (.inr (.inl ()))
def jk.s3 (p1:(List ai)) (s12:Int) (s16:Int):Option (Sum Int (Sum Unit Bool)) :=
 (at_ p1 s12).bind fun x17 =>
 if s16 < (x17.Subscripts.length:Int) then
  (at_ p1 s12).bind fun x19 =>
  (at_ x19.Subscripts s16).bind fun x20 =>
  if ¬ ((fK x20)=true) then
   some (.inr (.inr false))
  else
   some (.inl (w (s16+1)))
 else
  some (.inr (.inl ()))
def jk.s2 (p1:(List ai)) (s12:Int):Option (Sum Int (Sum Unit Bool)) :=
 if s12 < (p1.length:Int) then
  (at_ p1 s12).bind fun x14 =>
  if (x14.Subscripts.length:Int) > 9 then
   some (.inr (.inr false))
  else
   (gB (jk.s3 p1 s12) 0).bind fun z22=>match z22 with
   | .inl v23 =>
    some (.inl (w (s12+1)))
   | .inr r24=>some (.inr (.inr r24))
 else
  some (.inr (.inl ()))
def jk (p0:(List au)) (p1:(List ai)):Option Bool :=
 if ((decide ((p0.length:Int) > 5)) || (decide ((p1.length:Int) > 10)))=true then
  some false
 else
  (gB (jk.s1 p0) 0).bind fun z10=>match z10 with
  | .inl v11 =>
   (gB (jk.s2 p1) 0).bind fun z25=>match z25 with
   | .inl v26 =>
    some true
   | .inr r27=>some r27
  | .inr r28=>some r28
def kG (p0:(List Int)):Option (List Int) :=
 (G9 (p0.length:Int) 0).bind fun x1 =>
 some (copied x1 p0)
def kL (p0:ah):Option ah :=
 (kG p0.Coefs).bind fun x1 =>
 some (ah.mk x1 p0.Const)
def jq.s1 (p0:(List au)) (s1:Int×List au):Option (Sum (Int×List au) (List au)) :=
 if s1.1 < (p0.length:Int) then
  (at_ p0 s1.1).bind fun x3 =>
  (kL (ah.mk x3.Low.Coefs x3.Low.Const)).bind fun x4 =>
  (at_ p0 s1.1).bind fun x5 =>
  (kL (ah.mk x5.High.Coefs x5.High.Const)).bind fun x6 =>
  (app s1.2 ([(au.mk x4 x6)]:List au)).bind fun x7 =>
  some (.inl ((w (s1.1+1)),x7))
 else
  some (.inr s1.2)
def jq (p0:(List au)):Option (List au) :=
 (gB (jq.s1 p0) (0,[])).bind fun z8 =>
 some z8
def gm.s2 (p0:(List ai)) (s1:Int×List ai) (s5:Int×List ah):Option (Sum (Int×List ah) (List ah)) :=
 (at_ p0 s1.1).bind fun x6 =>
 if s5.1 < (x6.Subscripts.length:Int) then
  (at_ p0 s1.1).bind fun x8 =>
  (at_ x8.Subscripts s5.1).bind fun x9 =>
  (kL x9).bind fun x10 =>
  (app s5.2 ([x10]:List ah)).bind fun x11 =>
  some (.inl ((w (s5.1+1)),x11))
 else
  some (.inr s5.2)
def gm.s1 (p0:(List ai)) (s1:Int×List ai):Option (Sum (Int×List ai) (List ai)) :=
 if s1.1 < (p0.length:Int) then
  (at_ p0 s1.1).bind fun x3 =>
  (at_ p0 s1.1).bind fun x4 =>
  (gB (gm.s2 p0 s1) (0,[])).bind fun z12 =>
  (app s1.2 ([(ai.mk x3.Array z12 x4.Write)]:List ai)).bind fun x13 =>
  some (.inl ((w (s1.1+1)),x13))
 else
  some (.inr s1.2)
def gm (p0:(List ai)):Option (List ai) :=
 (gB (gm.s1 p0) (0,[])).bind fun z15 =>
 some z15
def oQ (p0:Int):Bool :=
 (!(aB p0 (-1) 1))
def bP.s1 (p0:(List Int)) (s1:Int):Option (Sum Int (Sum Unit Int)) :=
 if s1 < (p0.length:Int) then
  (at_ p0 s1).bind fun x3 =>
  if (oQ x3)=true then
   some (.inr (.inr s1))
  else
   some (.inl (w (s1+1)))
 else
  some (.inr (.inl ()))
def bP (p0:(List Int)):Option Int :=
 (gB (bP.s1 p0) 0).bind fun z5=>match z5 with
 | .inl v6 =>
  some (-1)
 | .inr r7=>some r7
def fE (p0:(List Int)):Option Bool :=
 (bP p0).bind fun x1 =>
 some (decide (x1≥0))
def oU (p0:Int):Bool :=
 (p0 != 0)
def bH.s1 (p0:(List Int)) (s1:Int):Option (Sum Int (Sum Unit Int)) :=
 if s1 < (p0.length:Int) then
  (at_ p0 s1).bind fun x3 =>
  if (oU x3)=true then
   some (.inr (.inr s1))
  else
   some (.inl (w (s1+1)))
 else
  some (.inr (.inl ()))
def bH (p0:(List Int)):Option Int :=
 (gB (bH.s1 p0) 0).bind fun z5=>match z5 with
 | .inl v6 =>
  some (-1)
 | .inr r7=>some r7
def jJ.j1 (p0:(List au)) (p1:(List ai)) (p2:aT) (x3:Bool) (a5:Bool):Option Int :=
 (at_ p1 p2.From).bind fun x6 =>
 (at_ p1 p2.To).bind fun x7 =>
 (dW [(aA.mk (ig x6 x7) 13),(aA.mk ((p2.Signs.length:Int)==(p0.length:Int)) 10),(aA.mk (!x3) 2),(aA.mk a5 9)]).bind fun x8 =>
 some x8
def jJ (p0:(List au)) (p1:(List ai)) (p2:aT):Option Int :=
 (nD p0 p1 p2.From p2.To).bind fun x1 =>
 if ¬ x1=0 then
  some x1
 else
  (fE p2.Signs).bind fun x3 =>
  (bH p2.Signs).bind fun x4 =>
  if x4≥0 then
   (at_ p2.Signs (mx 0 x4)).bind fun x6 =>
   jJ.j1 p0 p1 p2 x3 ((decide (x6 > 0)) || ((decide (x4 < 0))&&(decide (p2.From < p2.To))))
  else
   jJ.j1 p0 p1 p2 x3 ((decide (x4 < 0))&&(decide (p2.From < p2.To)))
def jv (pb0_0:Int) (b1:(List ae)):Option ae :=
 (G9 pb0_0 0).bind fun x1 =>
 some (ae.mk x1 0 false)
def iD.s1 (p1:ah) (p2:Int) (p3:Int) (s2:Int×List Int):Option (Sum (Int×List Int) (List Int)) :=
 if s2.1 < (p1.Coefs.length:Int) then
  (at_ p1.Coefs s2.1).bind fun x4 =>
  (at_ s2.2 (w (p2+s2.1))).bind fun x5 =>
  some (.inl ((w (s2.1+1)),(s2.2.set (w (p2+s2.1)).toNat (w (p3 * x4)))))
 else
  some (.inr s2.2)
def iD (p1:ah) (p2:Int) (p3:Int) (pb0_0:Int) (b1:(List ae)):Option ae :=
 (jv pb0_0 b1).bind fun x1 =>
 (gB (iD.s1 p1 p2 p3) (0,x1.Coefs)).bind fun z6 =>
 some (ae.mk z6 (w (p3 * p1.Const)) x1.Equal)
def ik (p1:ae) (pb0_0:Int) (b1:(List ae)):Option (List ae) :=
 (app b1 ([p1]:List ae)).bind fun x1 =>
 some x1
def fV.s1 (p1:(List au)) (p2:Int) (pb0_0:Int) (s1:Int×List ae):Option (Sum (Int×List ae) (List ae)) :=
 if s1.1 < (p1.length:Int) then
  (at_ p1 s1.1).bind fun x3 =>
  (iD (ah.mk x3.Low.Coefs x3.Low.Const) p2 (-1) pb0_0 s1.2).bind fun x4 =>
  (iD (ah.mk x3.High.Coefs x3.High.Const) p2 1 pb0_0 s1.2).bind fun x5 =>
  (at_ x4.Coefs (w (p2+s1.1))).bind fun x6 =>
  (at_ x4.Coefs (w (p2+s1.1))).bind fun x7 =>
  (at_ x5.Coefs (w (p2+s1.1))).bind fun x8 =>
  (at_ x5.Coefs (w (p2+s1.1))).bind fun x9 =>
  (ik (ae.mk (x4.Coefs.set (w (p2+s1.1)).toNat (w (x6+1))) x4.Const x4.Equal) pb0_0 s1.2).bind fun x10 =>
  (ik (ae.mk (x5.Coefs.set (w (p2+s1.1)).toNat (w (x8 - 1))) x5.Const x5.Equal) pb0_0 x10).bind fun x11 =>
  some (.inl ((w (s1.1+1)),x11))
 else
  some (.inr s1.2)
def fV (p1:(List au)) (p2:Int) (pb0_0:Int) (b1:(List ae)):Option (List ae) :=
 (gB (fV.s1 p1 p2 pb0_0) (0,b1)).bind fun z12 =>
 some z12
def fG.s1 (p1:(List aV)) (p2:Int) (pb0_0:Int) (s1:Int×List ae):Option (Sum (Int×List ae) (List ae)) :=
 if s1.1 < (p1.length:Int) then
  (at_ p1 s1.1).bind fun x3 =>
  (jv pb0_0 s1.2).bind fun x4 =>
  (jv pb0_0 s1.2).bind fun x5 =>
  (at_ x4.Coefs (w (p2+s1.1))).bind fun x6 =>
  (at_ x5.Coefs (w (p2+s1.1))).bind fun x7 =>
  (ik (ae.mk (x4.Coefs.set (w (p2+s1.1)).toNat 1) (w (0 - x3.Low)) x4.Equal) pb0_0 s1.2).bind fun x8 =>
  (ik (ae.mk (x5.Coefs.set (w (p2+s1.1)).toNat (-1)) x3.High x5.Equal) pb0_0 x8).bind fun x9 =>
  some (.inl ((w (s1.1+1)),x9))
 else
  some (.inr s1.2)
def fG (p1:(List aV)) (p2:Int) (pb0_0:Int) (b1:(List ae)):Option (List ae) :=
 (gB (fG.s1 p1 p2 pb0_0) (0,b1)).bind fun z10 =>
 some z10
def bT.s2 (p0:(List au)) (x16:ae) (s17:Int×List Int):Option (Sum (Int×List Int) (List Int)) :=
 if s17.1 < (w (2 * (p0.length:Int))) then
  (at_ x16.Coefs s17.1).bind fun x19 =>
  (at_ s17.2 s17.1).bind fun x20 =>
  some (.inl ((w (s17.1+1)),(s17.2.set s17.1.toNat x19)))
 else
  some (.inr s17.2)
def bT.s1 (p0:(List au)) (p1:(List ai)) (p2:aT) (x9:ai) (s10:Int×List ae):Option (Sum (Int×List ae) (List ae)) :=
 if s10.1 < (x9.Subscripts.length:Int) then
  (at_ x9.Subscripts s10.1).bind fun x12 =>
  (iD x12 0 1 (w (2 * (p0.length:Int))) s10.2).bind fun x13 =>
  (at_ p1 p2.To).bind fun x14 =>
  (at_ x14.Subscripts s10.1).bind fun x15 =>
  (iD x15 (p0.length:Int) (-1) (w (2 * (p0.length:Int))) s10.2).bind fun x16 =>
  (gB (bT.s2 p0 x16) ((p0.length:Int),x13.Coefs)).bind fun z21 =>
  (ik (ae.mk z21 (w (x13.Const+x16.Const)) true) (w (2 * (p0.length:Int))) s10.2).bind fun x22 =>
  some (.inl ((w (s10.1+1)),x22))
 else
  some (.inr s10.2)
def bT.s3 (p0:(List au)) (p2:aT) (s25:Int×List ae):Option (Sum (Int×List ae) (List ae)) :=
 if s25.1 < (p2.Signs.length:Int) then
  (at_ p2.Signs s25.1).bind fun x27 =>
  (jv (w (2 * (p0.length:Int))) s25.2).bind fun x28 =>
  (at_ x28.Coefs s25.1).bind fun x29 =>
  (at_ (x28.Coefs.set s25.1.toNat (-1)) (w ((p0.length:Int)+s25.1))).bind fun x30 =>
  if x27=0 then
   (ik (ae.mk ((x28.Coefs.set s25.1.toNat (-1)).set (w ((p0.length:Int)+s25.1)).toNat 1) 0 (x27==0)) (w (2 * (p0.length:Int))) s25.2).bind fun x32 =>
   some (.inl ((w (s25.1+1)),x32))
  else
   if x27=(-1) then
    (at_ ((x28.Coefs.set s25.1.toNat (-1)).set (w ((p0.length:Int)+s25.1)).toNat 1) s25.1).bind fun x34 =>
    (at_ (((x28.Coefs.set s25.1.toNat (-1)).set (w ((p0.length:Int)+s25.1)).toNat 1).set s25.1.toNat 1) (w ((p0.length:Int)+s25.1))).bind fun x35 =>
    (ik (ae.mk ((((x28.Coefs.set s25.1.toNat (-1)).set (w ((p0.length:Int)+s25.1)).toNat 1).set s25.1.toNat 1).set (w ((p0.length:Int)+s25.1)).toNat (-1)) (-1) (x27==0)) (w (2 * (p0.length:Int))) s25.2).bind fun x36 =>
    some (.inl ((w (s25.1+1)),x36))
   else
    (ik (ae.mk ((x28.Coefs.set s25.1.toNat (-1)).set (w ((p0.length:Int)+s25.1)).toNat 1) (-1) (x27==0)) (w (2 * (p0.length:Int))) s25.2).bind fun x37 =>
    some (.inl ((w (s25.1+1)),x37))
 else
  some (.inr s25.2)
def bT (p0:(List au)) (p1:(List ai)) (p2:aT):Option (aK×Int) :=
 (jJ p0 p1 p2).bind fun x1 =>
 if ¬ x1=0 then
  some ((aK.mk 0 []),x1)
 else
  (fV p0 0 (w (2 * (p0.length:Int))) []).bind fun x3 =>
  (fV p0 (p0.length:Int) (w (2 * (p0.length:Int))) x3).bind fun x4 =>
  (jO p0).bind fun x5 =>
  (fG x5 0 (w (2 * (p0.length:Int))) x4).bind fun x6 =>
  (jO p0).bind fun x7 =>
  (fG x7 (p0.length:Int) (w (2 * (p0.length:Int))) x6).bind fun x8 =>
  (at_ p1 p2.From).bind fun x9 =>
  (gB (bT.s1 p0 p1 p2 x9) (0,x8)).bind fun z24 =>
  (gB (bT.s3 p0 p2) (0,z24)).bind fun z38 =>
  some ((aK.mk (w (2 * (p0.length:Int))) z38),0)
def gp (p0:Int) (p1:Int) (p2:Int):Bool :=
 (!((decide (p0 < p1)) || (decide (p0 > p2))))
def gU.s1 (p0:ah) (p1:Int) (s2:Int):Option (Sum Int (Sum Unit Int)) :=
 if s2 < p1 then
  (at_ p0.Coefs s2).bind fun x4 =>
  if ¬ ((gp x4 (-8) 8)=true) then
   some (.inr (.inr 2))
  else
   some (.inl (w (s2+1)))
 else
  some (.inr (.inl ()))
def gU (p0:ah) (p1:Int):Option Int :=
 if ¬ (p0.Coefs.length:Int)=p1 then
  some 10
 else
  (gB (gU.s1 p0 p1) 0).bind fun z6=>match z6 with
  | .inl v7 =>
   if ¬ ((gp p0.Const (-64) 64)=true) then
    some 2
   else
    some 0
  | .inr r9=>some r9
def je.s1 (p0:ah) (p1:(List aV)) (s1:Int×Int×Int):Option (Sum (Int×Int×Int) (Int×Int)) :=
 if s1.1 < (p0.Coefs.length:Int) then
  (at_ p0.Coefs s1.1).bind fun x3 =>
  (at_ p1 s1.1).bind fun x4 =>
  (at_ p0.Coefs s1.1).bind fun x5 =>
  (at_ p1 s1.1).bind fun x6 =>
  some (.inl ((w (s1.1+1)),(w (s1.2.1+(mn (w (x3 * x4.Low)) (w (x5 * x6.High))))),(w (s1.2.2+(mx (w (x3 * x4.Low)) (w (x5 * x6.High)))))))
 else
  some (.inr (s1.2.1,s1.2.2))
def je (p0:ah) (p1:(List aV)):Option aV :=
 (gB (je.s1 p0 p1) (0,p0.Const,p0.Const)).bind fun z7 =>
 some (aV.mk z7.1 z7.2)
def lh.s1 (p0:(List au)) (s1:Int×List aV):Option (Sum (Int×List aV) (List aV)) :=
 if s1.1 < (p0.length:Int) then
  (at_ p0 s1.1).bind fun x3 =>
  (je (ah.mk x3.Low.Coefs x3.Low.Const) s1.2).bind fun x4 =>
  (at_ p0 s1.1).bind fun x5 =>
  (je (ah.mk x5.High.Coefs x5.High.Const) s1.2).bind fun x6 =>
  (app s1.2 ([(aV.mk x4.Low x6.High)]:List aV)).bind fun x7 =>
  some (.inl ((w (s1.1+1)),x7))
 else
  some (.inr s1.2)
def lh (p0:(List au)):Option (List aV) :=
 (gB (lh.s1 p0) (0,[])).bind fun z8 =>
 some z8
def ja.s1 (p0:ah) (p1:(List Int)) (s1:Int×Int):Option (Sum (Int×Int) Int) :=
 if s1.2 < (p0.Coefs.length:Int) then
  (at_ p0.Coefs s1.2).bind fun x3 =>
  (at_ p1 s1.2).bind fun x4 =>
  some (.inl ((w (s1.1+(w (x3 * x4)))),(w (s1.2+1))))
 else
  some (.inr s1.1)
def ja (p0:ah) (p1:(List Int)):Option Int :=
 (gB (ja.s1 p0 p1) (p0.Const,0)).bind fun z5 =>
 some z5
def di.s1 (p0:(List au)) (p1:(List Int)) (self134:(List au)→(List Int)→(List (List Int))→Option (List (List Int))) (x5:Int) (s8:Int×List (List Int)):Option (Sum (Int×List (List Int)) (List (List Int))) :=
 if ((decide (s8.1≤x5))&&(decide ((s8.2.length:Int)≤200)))=true then
  (kG p1).bind fun x12 =>
  (app x12 ([s8.1]:List Int)).bind fun x13 =>
  (self134 p0 x13 s8.2).bind fun x14 =>
  some (.inl ((w (s8.1+1)),x14))
 else
  some (.inr s8.2)
def di.F (self134:(List au)→(List Int)→(List (List Int))→Option (List (List Int))) (p0:(List au)) (p1:(List Int)) (b0:(List (List Int))):Option (List (List Int)) :=
 if (p1.length:Int)=(p0.length:Int) then
  (kG p1).bind fun x2 =>
  (app b0 ([x2]:List (List Int))).bind fun x3 =>
  some x3
 else
  (at_ p0 (p1.length:Int)).bind fun x4 =>
  (ja (ah.mk x4.High.Coefs x4.High.Const) p1).bind fun x5 =>
  (at_ p0 (p1.length:Int)).bind fun x6 =>
  (ja (ah.mk x6.Low.Coefs x6.Low.Const) p1).bind fun x7 =>
  (gB (di.s1 p0 p1 self134 x5) (x7,b0)).bind fun z15 =>
  some z15
def di.N:Nat→(List au)→(List Int)→(List (List Int))→Option (List (List Int))
 | 0=>fun _ _ _=>none
 | n+1=>di.F (di.N n)
def di (p0:(List au)) (p1:(List Int)) (b0:(List (List Int))):Option (List (List Int)):=lim fun n=>di.N n p0 p1 b0
def kU.s1 (p0:(List au)) (p1:(List Int)) (x5:Int) (s8:Int×List (List Int)):Option (Sum (Int×List (List Int)) (List (List Int))) :=
 if ((decide (s8.1≤x5))&&(decide ((s8.2.length:Int)≤200)))=true then
  (kG p1).bind fun x12 =>
  (app x12 ([s8.1]:List Int)).bind fun x13 =>
  (di p0 x13 s8.2).bind fun x14 =>
  some (.inl ((w (s8.1+1)),x14))
 else
  some (.inr s8.2)
def kU (p0:(List au)) (p1:(List Int)):Option (List (List Int)) :=
 if (p1.length:Int)=(p0.length:Int) then
  (kG p1).bind fun x2 =>
  (app ([]:List (List Int)) ([x2]:List (List Int))).bind fun x3 =>
  some x3
 else
  (at_ p0 (p1.length:Int)).bind fun x4 =>
  (ja (ah.mk x4.High.Coefs x4.High.Const) p1).bind fun x5 =>
  (at_ p0 (p1.length:Int)).bind fun x6 =>
  (ja (ah.mk x6.Low.Coefs x6.Low.Const) p1).bind fun x7 =>
  (gB (kU.s1 p0 p1 x5) (x7,[])).bind fun z15 =>
  some z15
def uu (p0:(List au)):Option (List (List Int)) :=
 (kU p0 []).bind fun x1 =>
 some x1
def fO.s1 (p0:(List au)) (s3:Int):Option (Sum Int (Sum Unit (Int×Int))) :=
 if s3 < (p0.length:Int) then
  (at_ p0 s3).bind fun x5 =>
  (gU (ah.mk x5.Low.Coefs x5.Low.Const) s3).bind fun x6 =>
  if ¬ x6=0 then
   some (.inr (.inr (s3,x6)))
  else
   (at_ p0 s3).bind fun x8 =>
   (gU (ah.mk x8.High.Coefs x8.High.Const) s3).bind fun x9 =>
   if ¬ x9=0 then
    some (.inr (.inr (s3,x9)))
   else
    some (.inl (w (s3+1)))
 else
  some (.inr (.inl ()))
def fO.s2 (x13:(List aV)) (s14:Int):Option (Sum Int (Sum Unit (Int×Int))) :=
 if s14 < (x13.length:Int) then
  (at_ x13 s14).bind fun x16 =>
  if ¬ ((gp x16.Low (-1000) 1000)=true) then
   some (.inr (.inr (0,8)))
  else
   (at_ x13 s14).bind fun x18 =>
   if ¬ ((gp x18.High (-1000) 1000)=true) then
    some (.inr (.inr (0,8)))
   else
    some (.inl (w (s14+1)))
 else
  some (.inr (.inl ()))
def fO (p0:(List au)):Option (Int×Int) :=
 if (p0.length:Int)=0 then
  some (0,17)
 else
  if (p0.length:Int) > 3 then
   some (0,8)
  else
   (gB (fO.s1 p0) 0).bind fun z11=>match z11 with
   | .inl v12 =>
    (lh p0).bind fun x13 =>
    (gB (fO.s2 x13) 0).bind fun z20=>match z20 with
    | .inl v21 =>
     (uu p0).bind fun x22 =>
     if (x22.length:Int) > 200 then
      some (0,8)
     else
      some (0,0)
    | .inr r24=>some r24
   | .inr r25=>some r25
def uY (p0:(List au)):Option Int :=
 (fO p0).bind fun x1 =>
 some x1.2
def fM.s2 (p0:(List au)) (p1:(List ai)) (s4:Int) (s10:Int):Option (Sum Int (Sum Unit (Int×Int))) :=
 (at_ p1 s4).bind fun x11 =>
 if s10 < (x11.Subscripts.length:Int) then
  (at_ p1 s4).bind fun x13 =>
  (at_ x13.Subscripts s10).bind fun x14 =>
  (gU x14 (p0.length:Int)).bind fun x15 =>
  if ¬ x15=0 then
   some (.inr (.inr (s4,x15)))
  else
   some (.inl (w (s10+1)))
 else
  some (.inr (.inl ()))
def fM.s1 (p0:(List au)) (p1:(List ai)) (s4:Int):Option (Sum Int (Sum Unit (Int×Int))) :=
 if s4 < (p1.length:Int) then
  (at_ p1 s4).bind fun x6 =>
  if ¬ ((gp x6.Array 0 9)=true) then
   some (.inr (.inr (s4,2)))
  else
   (at_ p1 s4).bind fun x8 =>
   if ¬ ((gp (x8.Subscripts.length:Int) 1 7)=true) then
    some (.inr (.inr (s4,32)))
   else
    (gB (fM.s2 p0 p1 s4) 0).bind fun z17=>match z17 with
    | .inl v18 =>
     some (.inl (w (s4+1)))
    | .inr r19=>some (.inr (.inr r19))
 else
  some (.inr (.inl ()))
def fM (p0:(List au)) (p1:(List ai)):Option (Int×Int) :=
 (uY p0).bind fun x1 =>
 if ¬ x1=0 then
  some (0,x1)
 else
  if (p1.length:Int) > 8 then
   some (0,8)
  else
   (gB (fM.s1 p0 p1) 0).bind fun z20=>match z20 with
   | .inl v21 =>
    some (0,0)
   | .inr r22=>some r22
def rV (p0:(List au)) (p1:(List ai)):Option Int :=
 (fM p0 p1).bind fun x1 =>
 some x1.2
def rW (p0:(List au)) (p1:(List ai)) (p2:Int) (p3:Int):Option Int :=
 (rV p0 p1).bind fun x1 =>
 if ¬ x1=0 then
  some x1
 else
  if ((!(gp p2 0 (w ((p1.length:Int) - 1)))) || (!(gp p3 0 (w ((p1.length:Int) - 1)))))=true then
   some 6
  else
   some 0
def xB (p0:ai) (p1:ai):Bool :=
 (((p0.Array==p1.Array)&&((p0.Subscripts.length:Int)==(p1.Subscripts.length:Int)))&&(p0.Write || p1.Write))
def jR.s1 (p0:(List Int)) (s1:Int):Option (Sum Int (Sum Unit Bool)) :=
 if s1 < (p0.length:Int) then
  (at_ p0 s1).bind fun x3 =>
  if ¬ x3=0 then
   (at_ p0 s1).bind fun x5 =>
   some (.inr (.inr (decide (x5 > 0))))
  else
   some (.inl (w (s1+1)))
 else
  some (.inr (.inl ()))
def jR (p0:(List Int)) (p1:Int) (p2:Int):Option Bool :=
 (gB (jR.s1 p0) 0).bind fun z6=>match z6 with
 | .inl v7 =>
  some (decide (p1 < p2))
 | .inr r8=>some r8
def kS.s1 (p2:aT) (s7:Int):Option (Sum Int (Sum Unit Int)) :=
 if s7 < (p2.Signs.length:Int) then
  (at_ p2.Signs s7).bind fun x9 =>
  if ¬ ((gp x9 (-1) 1)=true) then
   some (.inr (.inr 2))
  else
   some (.inl (w (s7+1)))
 else
  some (.inr (.inl ()))
def kS (p0:(List au)) (p1:(List ai)) (p2:aT):Option Int :=
 (rW p0 p1 p2.From p2.To).bind fun x1 =>
 if ¬ x1=0 then
  some x1
 else
  (at_ p1 p2.From).bind fun x3 =>
  (at_ p1 p2.To).bind fun x4 =>
  if ¬ ((xB x3 x4)=true) then
   some 13
  else
   if ¬ (p2.Signs.length:Int)=(p0.length:Int) then
    some 10
   else
    (gB (kS.s1 p2) 0).bind fun z11=>match z11 with
    | .inl v12 =>
     (jR p2.Signs p2.From p2.To).bind fun x13 =>
     if ¬ (x13=true) then
      some 9
     else
      some 0
    | .inr r15=>some r15
def iO.s1 (p0:aK) (p1:aK) (s4:Int):Option (Sum Int (Sum Unit Bool)) :=
 if s4 < (p0.Rows.length:Int) then
  (at_ p0.Rows s4).bind fun x6 =>
  (at_ p1.Rows s4).bind fun x7 =>
  (rH x6.Coefs x7.Coefs).bind fun x8 =>
  if ¬ (x8=true) then
   some (.inr (.inr false))
  else
   (at_ p0.Rows s4).bind fun x10 =>
   (at_ p1.Rows s4).bind fun x11 =>
   if ¬ x10.Const=x11.Const then
    some (.inr (.inr false))
   else
    (at_ p0.Rows s4).bind fun x13 =>
    (at_ p1.Rows s4).bind fun x14 =>
    if (x13.Equal != x14.Equal)=true then
     some (.inr (.inr false))
    else
     some (.inl (w (s4+1)))
 else
  some (.inr (.inl ()))
def iO (p0:aK) (p1:aK):Option Bool :=
 if ((p0.Vars != p1.Vars) || ((p0.Rows.length:Int) != (p1.Rows.length:Int)))=true then
  some false
 else
  (gB (iO.s1 p0 p1) 0).bind fun z16=>match z16 with
  | .inl v17 =>
   some true
  | .inr r18=>some r18
def jf.s1 (p1:Int) (p2:Int) (p3:ah) (s2:Int×List Int):Option (Sum (Int×List Int) (List Int)) :=
 if s2.1 < (p3.Coefs.length:Int) then
  (at_ p3.Coefs s2.1).bind fun x4 =>
  (at_ s2.2 (w (p1+s2.1))).bind fun x5 =>
  some (.inl ((w (s2.1+1)),(s2.2.set (w (p1+s2.1)).toNat (w (p2 * x4)))))
 else
  some (.inr s2.2)
def jf (p0:Int) (p1:Int) (p2:Int) (p3:ah):Option ae :=
 (G9 p0 0).bind fun x1 =>
 (gB (jf.s1 p1 p2 p3) (0,x1)).bind fun z6 =>
 some (ae.mk z6 (w (p2 * p3.Const)) false)
def mV (p0_1:Int) (p0_2:Bool) (p1:Int) (p2:Int) (b0:(List Int)):Option (ae×List Int) :=
 (at_ b0 p1).bind fun x1 =>
 (at_ b0 p1).bind fun x2 =>
 some ((ae.mk (b0.set p1.toNat (w (x1+p2))) p0_1 p0_2),(b0.set p1.toNat (w (x1+p2))))
def ui (p0:Int):Int :=
 if p0 < 0 then
  (w (0 - p0))
 else
  p0
def aZ.s2 (p0:(List au)) (s1:Int×List ae) (s3:Int×List ae):Option (Sum (Int×List ae) (List ae)) :=
 if s3.1 < (p0.length:Int) then
  (at_ p0 s3.1).bind fun x5 =>
  (jf (w (2 * (p0.length:Int))) (w (s1.1 * (p0.length:Int))) (-1) (ah.mk x5.Low.Coefs x5.Low.Const)).bind fun x6 =>
  (mV x6.Const x6.Equal (w ((w (s1.1 * (p0.length:Int)))+s3.1)) 1 x6.Coefs).bind fun x7 =>
  (at_ p0 s3.1).bind fun x8 =>
  (jf (w (2 * (p0.length:Int))) (w (s1.1 * (p0.length:Int))) 1 (ah.mk x8.High.Coefs x8.High.Const)).bind fun x9 =>
  (mV x9.Const x9.Equal (w ((w (s1.1 * (p0.length:Int)))+s3.1)) (-1) x9.Coefs).bind fun x10 =>
  (app s3.2 ([(ae.mk x7.2 x7.1.Const x7.1.Equal),(ae.mk x10.2 x10.1.Const x10.1.Equal)]:List ae)).bind fun x11 =>
  some (.inl ((w (s3.1+1)),x11))
 else
  some (.inr s3.2)
def aZ.s1 (p0:(List au)) (s1:Int×List ae):Option (Sum (Int×List ae) (List ae)) :=
 if s1.1 < 2 then
  (gB (aZ.s2 p0 s1) (0,s1.2)).bind fun z12 =>
  some (.inl ((w (s1.1+1)),z12))
 else
  some (.inr s1.2)
def aZ.s3 (p0:(List au)) (x15:(List aV)) (s16:Int×List ae):Option (Sum (Int×List ae) (List ae)) :=
 if s16.1 < (w (2 * (p0.length:Int))) then
  (rem s16.1 (p0.length:Int)).bind fun x18 =>
  (at_ x15 x18).bind fun x19 =>
  (jf (w (2 * (p0.length:Int))) 0 1 (ah.mk [] (w (0 - x19.Low)))).bind fun x20 =>
  (mV x20.Const x20.Equal s16.1 1 x20.Coefs).bind fun x21 =>
  (rem s16.1 (p0.length:Int)).bind fun x22 =>
  (at_ x15 x22).bind fun x23 =>
  (jf (w (2 * (p0.length:Int))) 0 1 (ah.mk [] x23.High)).bind fun x24 =>
  (mV x24.Const x24.Equal s16.1 (-1) x24.Coefs).bind fun x25 =>
  (app s16.2 ([(ae.mk x21.2 x21.1.Const x21.1.Equal),(ae.mk x25.2 x25.1.Const x25.1.Equal)]:List ae)).bind fun x26 =>
  some (.inl ((w (s16.1+1)),x26))
 else
  some (.inr s16.2)
def aZ.s5 (p0:(List au)) (x29:ai) (s30:Int×List ae) (s34:Int×Int×Bool×List Int):Option (Sum (Int×Int×Bool×List Int) (Int×Bool×List Int)) :=
 if s34.1 < (p0.length:Int) then
  (at_ x29.Subscripts s30.1).bind fun x36 =>
  (at_ x36.Coefs s34.1).bind fun x37 =>
  (mV s34.2.1 s34.2.2.1 (w ((p0.length:Int)+s34.1)) (w (0 - x37)) s34.2.2.2).bind fun x38 =>
  some (.inl ((w (s34.1+1)),x38.1.Const,x38.1.Equal,x38.2))
 else
  some (.inr (s34.2.1,s34.2.2.1,s34.2.2.2))
def aZ.s4 (p0:(List au)) (x28:ai) (x29:ai) (s30:Int×List ae):Option (Sum (Int×List ae) (List ae)) :=
 if s30.1 < (x28.Subscripts.length:Int) then
  (at_ x28.Subscripts s30.1).bind fun x32 =>
  (jf (w (2 * (p0.length:Int))) 0 1 x32).bind fun x33 =>
  (gB (aZ.s5 p0 x29 s30) (0,x33.Const,x33.Equal,x33.Coefs)).bind fun z39 =>
  (at_ x29.Subscripts s30.1).bind fun x40 =>
  (app s30.2 ([(ae.mk z39.2.2 (w (z39.1 - x40.Const)) true)]:List ae)).bind fun x41 =>
  some (.inl ((w (s30.1+1)),x41))
 else
  some (.inr s30.2)
def aZ.j7 (p0:(List au)) (s44:Int×List ae) (x46:Int) (a47:Int):Option (Sum (Int×List ae) (List ae)) :=
 (jf (w (2 * (p0.length:Int))) 0 1 (ah.mk [] (w (0 - (ui x46))))).bind fun x48 =>
 (mV x48.Const x48.Equal (w ((p0.length:Int)+s44.1)) a47 x48.Coefs).bind fun x49 =>
 (mV x49.1.Const x49.1.Equal s44.1 (w (0 - a47)) x49.2).bind fun x50 =>
 (app s44.2 ([(ae.mk x50.2 x50.1.Const (x46==0))]:List ae)).bind fun x51 =>
 some (.inl ((w (s44.1+1)),x51))
def aZ.s6 (p0:(List au)) (p2:aT) (s44:Int×List ae):Option (Sum (Int×List ae) (List ae)) :=
 if s44.1 < (p0.length:Int) then
  (at_ p2.Signs s44.1).bind fun x46 =>
  if x46 < 0 then
   aZ.j7 p0 s44 x46 (-1)
  else
   aZ.j7 p0 s44 x46 1
 else
  some (.inr s44.2)
def aZ (p0:(List au)) (p1:(List ai)) (p2:aT):Option aK :=
 (gB (aZ.s1 p0) (0,[])).bind fun z14 =>
 (lh p0).bind fun x15 =>
 (gB (aZ.s3 p0 x15) (0,z14)).bind fun z27 =>
 (at_ p1 p2.From).bind fun x28 =>
 (at_ p1 p2.To).bind fun x29 =>
 (gB (aZ.s4 p0 x28 x29) (0,z27)).bind fun z43 =>
 (gB (aZ.s6 p0 p2) (0,z43)).bind fun z52 =>
 some (aK.mk (w (2 * (p0.length:Int))) z52)
def oI (p0:(List au)) (p1:(List ai)) (p2:aT):Option Bool :=
 (yl).bind fun x1 =>
 if ¬ (x1=true) then
  some false
 else
  (jk p0 p1).bind fun x3 =>
  if ((!x3) || (decide ((p2.Signs.length:Int) > 10)))=true then
   some true
  else
   (jq p0).bind fun x7 =>
   (gm p1).bind fun x8 =>
   (kG p2.Signs).bind fun x9 =>
   (bT x7 x8 (aT.mk p2.From p2.To x9)).bind fun x10 =>
   (kS p0 p1 p2).bind fun x11 =>
   if ¬ x11=0 then
    if x10.2=x11 then
     (iO x10.1 (aK.mk 0 [])).bind fun x14 =>
     some x14
    else
     some false
   else
    if x10.2=0 then
     (aZ p0 p1 p2).bind fun x16 =>
     (iO x10.1 x16).bind fun x17 =>
     some x17
    else
     some false
end Go.Sh
