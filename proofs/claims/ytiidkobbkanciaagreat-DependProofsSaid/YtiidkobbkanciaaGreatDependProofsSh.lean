/- Functions of the program in plain form: printed by a program of this session. Not trusted: the walks show that the program does what they say. -/
import Derived.Test.YtiidkobbkanciaaGreatKit4
set_option linter.all false
namespace Go.Sh
open Go.Lx
set_option linter.unusedVariables false
structure api_LinRow where
 Coefs : (List Int)
 Const : Int
 Equal : Bool
 deriving DecidableEq
structure api_LinSystem where
 Vars : Int
 Rows : (List api_LinRow)
 deriving DecidableEq
structure api_LinNode where
 Kind : Int
 Weights : (List Int)
 Divisor : Int
 Var : Int
 At : Int
 Left : Int
 Right : Int
 deriving DecidableEq
structure api_Affine where
 Coefs : (List Int)
 Const : Int
 deriving DecidableEq
structure api_Loop where
 Low : api_Affine
 High : api_Affine
 deriving DecidableEq
structure depend_rule where
 holds : Bool
 code : Int
 deriving DecidableEq
structure api_Hull where
 Low : Int
 High : Int
 deriving DecidableEq
structure api_Access where
 Array : Int
 Subscripts : (List api_Affine)
 Write : Bool
 deriving DecidableEq
structure api_DependPair where
 From : Int
 To : Int
 deriving DecidableEq
structure api_Dependence where
 Signs : (List Int)
 Source : (List Int)
 Sink : (List Int)
 deriving DecidableEq
structure arr2_Int where
 e0 : Int
 e1 : Int
 deriving DecidableEq
structure depend_checker where
 x : api_LinSystem
 p : (List api_LinNode)
 rows : (List (List api_LinRow))
 deriving DecidableEq
structure api_LinAnswer where
 Point : (List Int)
 Proof : (List api_LinNode)
 deriving DecidableEq
structure depend_side where
 known : Bool
 n : Int
 row : Int
 deriving DecidableEq
structure depend_box where
 low : (List depend_side)
 high : (List depend_side)
 deriving DecidableEq
structure depend_solver where
 x : api_LinSystem
 proof : (List api_LinNode)
 full : Bool
 deriving DecidableEq
def law27_Form (p0 : Int) (p1 : (List Int)) : api_Affine :=
 (api_Affine.mk p1 p0)
def law27_Triangle : (List api_Loop) :=
 [(api_Loop.mk (law27_Form 1 []) (law27_Form 4 [])), (api_Loop.mk (law27_Form 1 [0]) (law27_Form 0 [1]))]
def depend_broken.s1 (p0 : (List depend_rule)) (s1 : Int) : Option (Sum Int (Sum Unit Int)) :=
 if s1 < (p0.length : Int) then
  (at_ p0 s1).bind fun x3 =>
  if ¬ (x3.holds = true) then
   some (.inr (.inr x3.code))
  else
   some (.inl (w (s1 + 1)))
 else
  some (.inr (.inl ()))
def depend_broken (p0 : (List depend_rule)) : Option Int :=
 (loopO (depend_broken.s1 p0) 0).bind fun z5 => match z5 with
 | .inl v6 =>
  some 0
 | .inr r7 => some r7
def depend_inside (p0 : Int) (p1 : Int) (p2 : Int) : Bool :=
 ((decide (p0 ≥ p1)) && (decide (p0 ≤ p2)))
def depend_formErr_c1 (p0 : Int) : Bool :=
 (!(depend_inside p0 (-8) 8))
def slices_IndexFunc_int__depend_formErr_c1.s1 (p0 : (List Int)) (s1 : Int) : Option (Sum Int Unit) :=
 if s1 < (p0.length : Int) then
  (at_ p0 s1).bind fun x3 =>
  if (depend_formErr_c1 x3) = true then
   none
  else
   some (.inl (w (s1 + 1)))
 else
  some (.inr ())
def slices_IndexFunc_int__depend_formErr_c1 (p0 : (List Int)) : Option Int :=
 (loopO (slices_IndexFunc_int__depend_formErr_c1.s1 p0) 0).bind fun z5 =>
 some (-1)
def slices_ContainsFunc_int__depend_formErr_c1 (p0 : (List Int)) : Option Bool :=
 (slices_IndexFunc_int__depend_formErr_c1 p0).bind fun x1 =>
 some (decide (x1 ≥ 0))
def depend_formErr (p0 : api_Affine) (p1 : Int) : Option Int :=
 (slices_ContainsFunc_int__depend_formErr_c1 p0.Coefs).bind fun x1 =>
 if ¬ (x1 = true) then
  (depend_broken [(depend_rule.mk ((p0.Coefs.length : Int) == p1) 10), (depend_rule.mk (depend_inside p0.Const (-64) 64) 2)]).bind fun x3 =>
  some x3
 else
  none
def cmp_Or_api_Errno.s1 (p0 : (List Int)) (s1 : Int) : Option (Sum Int (Sum Unit Int)) :=
 if s1 < (p0.length : Int) then
  (at_ p0 s1).bind fun x3 =>
  if ¬ x3 = 0 then
   some (.inr (.inr x3))
  else
   some (.inl (w (s1 + 1)))
 else
  some (.inr (.inl ()))
def cmp_Or_api_Errno (p0 : (List Int)) : Option Int :=
 (loopO (cmp_Or_api_Errno.s1 p0) 0).bind fun z5 => match z5 with
 | .inl v6 =>
  some 0
 | .inr r7 => some r7
def depend_CheckNest_c1 (p0 : Int) (p1 : api_Loop) : Option Int :=
 (depend_formErr (api_Affine.mk p1.Low.Coefs p1.Low.Const) p0).bind fun x1 =>
 (depend_formErr (api_Affine.mk p1.High.Coefs p1.High.Const) p0).bind fun x2 =>
 (cmp_Or_api_Errno [x1, x2]).bind fun x3 =>
 some x3
def depend_firstBad_api_Loop__depend_CheckNest_c1.s1 (p0 : (List api_Loop)) (s1 : Int) : Option (Sum Int Unit) :=
 if s1 < (p0.length : Int) then
  (at_ p0 s1).bind fun x3 =>
  (depend_CheckNest_c1 s1 x3).bind fun x4 =>
  if ¬ x4 = 0 then
   none
  else
   some (.inl (w (s1 + 1)))
 else
  some (.inr ())
def depend_firstBad_api_Loop__depend_CheckNest_c1 (p0 : (List api_Loop)) : Option (Int × Int) :=
 (loopO (depend_firstBad_api_Loop__depend_CheckNest_c1.s1 p0) 0).bind fun z6 =>
 some (0, 0)
def depend_least.s1 (p0 : api_Affine) (p1 : (List api_Hull)) (s1 : Int × Int) : Option (Sum (Int × Int) Int) :=
 if s1.2 < (p0.Coefs.length : Int) then
  (at_ p0.Coefs s1.2).bind fun x3 =>
  (at_ p1 s1.2).bind fun x4 =>
  (at_ p1 s1.2).bind fun x5 =>
  some (.inl ((w (s1.1 + (mn (w (x3 * x4.Low)) (w (x3 * x5.High))))), (w (s1.2 + 1))))
 else
  some (.inr s1.1)
def depend_least (p0 : api_Affine) (p1 : (List api_Hull)) : Option Int :=
 (loopO (depend_least.s1 p0 p1) (p0.Const, 0)).bind fun z6 =>
 some z6
def depend_greatest.s1 (p0 : api_Affine) (p1 : (List api_Hull)) (s1 : Int × Int) : Option (Sum (Int × Int) Int) :=
 if s1.2 < (p0.Coefs.length : Int) then
  (at_ p0.Coefs s1.2).bind fun x3 =>
  (at_ p1 s1.2).bind fun x4 =>
  (at_ p1 s1.2).bind fun x5 =>
  some (.inl ((w (s1.1 + (mx (w (x3 * x4.Low)) (w (x3 * x5.High))))), (w (s1.2 + 1))))
 else
  some (.inr s1.1)
def depend_greatest (p0 : api_Affine) (p1 : (List api_Hull)) : Option Int :=
 (loopO (depend_greatest.s1 p0 p1) (p0.Const, 0)).bind fun z6 =>
 some z6
def depend_hulls.s1 (p0 : (List api_Loop)) (s1 : Int × List api_Hull) : Option (Sum (Int × List api_Hull) (List api_Hull)) :=
 if s1.1 < (p0.length : Int) then
  (at_ p0 s1.1).bind fun x3 =>
  (depend_least (api_Affine.mk x3.Low.Coefs x3.Low.Const) s1.2).bind fun x4 =>
  (depend_greatest (api_Affine.mk x3.High.Coefs x3.High.Const) s1.2).bind fun x5 =>
  (app s1.2 ([(api_Hull.mk x4 x5)] : List api_Hull)).bind fun x6 =>
  some (.inl ((w (s1.1 + 1)), x6))
 else
  some (.inr s1.2)
def depend_hulls (p0 : (List api_Loop)) : Option (List api_Hull) :=
 (loopO (depend_hulls.s1 p0) (0, [])).bind fun z7 =>
 some z7
def depend_CheckNest_c2 (p0 : api_Hull) : Bool :=
 ((!(depend_inside p0.Low (-1000) 1000)) || (!(depend_inside p0.High (-1000) 1000)))
def slices_IndexFunc_api_Hull__depend_CheckNest_c2.s1 (p0 : (List api_Hull)) (s1 : Int) : Option (Sum Int Unit) :=
 if s1 < (p0.length : Int) then
  (at_ p0 s1).bind fun x3 =>
  if (depend_CheckNest_c2 x3) = true then
   none
  else
   some (.inl (w (s1 + 1)))
 else
  some (.inr ())
def slices_IndexFunc_api_Hull__depend_CheckNest_c2 (p0 : (List api_Hull)) : Option Int :=
 (loopO (slices_IndexFunc_api_Hull__depend_CheckNest_c2.s1 p0) 0).bind fun z5 =>
 some (-1)
def slices_ContainsFunc_api_Hull__depend_CheckNest_c2 (p0 : (List api_Hull)) : Option Bool :=
 (slices_IndexFunc_api_Hull__depend_CheckNest_c2 p0).bind fun x1 =>
 some (decide (x1 ≥ 0))
def depend_CheckNest_c3 (p0 : (List Int)) (b0 : Int) : Bool × Int :=
 ((decide ((w (b0 + 1)) > 200)), (w (b0 + 1)))
def depend_value.s1 (p0 : api_Affine) (p1 : (List Int)) (s1 : Int × Int) : Option (Sum (Int × Int) Int) :=
 if s1.2 < (p0.Coefs.length : Int) then
  (at_ p0.Coefs s1.2).bind fun x3 =>
  (at_ p1 s1.2).bind fun x4 =>
  some (.inl ((w (s1.1 + (w (x3 * x4)))), (w (s1.2 + 1))))
 else
  some (.inr s1.1)
def depend_value (p0 : api_Affine) (p1 : (List Int)) : Option Int :=
 (loopO (depend_value.s1 p0 p1) (p0.Const, 0)).bind fun z5 =>
 some z5
def slices_Clip_int (p0 : (List Int)) : Option (List Int) :=
 (cut p0 0 (p0.length : Int)).bind fun x1 =>
 some x1
def depend_walk__depend_CheckNest_c3.s1 (p0 : (List api_Loop)) (p1 : (List Int)) (self23 : (List api_Loop) → (List Int) → Int → Option (Bool × Int)) (s4 : Int × Int) : Option (Sum (Int × Int) Int) :=
 (at_ p0 (p1.length : Int)).bind fun x5 =>
 (depend_value (api_Affine.mk x5.High.Coefs x5.High.Const) p1).bind fun x6 =>
 if s4.1 ≤ x6 then
  (slices_Clip_int p1).bind fun x8 =>
  (app (x8 : List Int) ([s4.1] : List Int)).bind fun x9 =>
  (self23 p0 x9 s4.2).bind fun x10 =>
  if x10.1 = true then
   none
  else
   some (.inl ((w (s4.1 + 1)), x10.2))
 else
  some (.inr s4.2)
def depend_walk__depend_CheckNest_c3.F (self23 : (List api_Loop) → (List Int) → Int → Option (Bool × Int)) (p0 : (List api_Loop)) (p1 : (List Int)) (b0 : Int) : Option (Bool × Int) :=
 if (p1.length : Int) = (p0.length : Int) then
  some ((depend_CheckNest_c3 p1 b0).1, (depend_CheckNest_c3 p1 b0).2)
 else
  (at_ p0 (p1.length : Int)).bind fun x2 =>
  (depend_value (api_Affine.mk x2.Low.Coefs x2.Low.Const) p1).bind fun x3 =>
  (loopO (depend_walk__depend_CheckNest_c3.s1 p0 p1 self23) (x3, b0)).bind fun z12 =>
  some (false, z12)
def depend_walk__depend_CheckNest_c3.N : Nat → (List api_Loop) → (List Int) → Int → Option (Bool × Int)
 | 0 => fun _ _ _ => none
 | n + 1 => depend_walk__depend_CheckNest_c3.F (depend_walk__depend_CheckNest_c3.N n)
def depend_walk__depend_CheckNest_c3 (p0 : (List api_Loop)) (p1 : (List Int)) (b0 : Int) : Option (Bool × Int) := lim fun n => depend_walk__depend_CheckNest_c3.N n p0 p1 b0
def depend_CheckNest (p0 : (List api_Loop)) : Option (Int × Int) :=
 (depend_broken [(depend_rule.mk (decide ((p0.length : Int) > 0)) 17), (depend_rule.mk (decide ((p0.length : Int) ≤ 3)) 8)]).bind fun x1 =>
 if ¬ x1 = 0 then
  none
 else
  (depend_firstBad_api_Loop__depend_CheckNest_c1 p0).bind fun x3 =>
  if ¬ x3.2 = 0 then
   none
  else
   (depend_hulls p0).bind fun x5 =>
   (slices_ContainsFunc_api_Hull__depend_CheckNest_c2 x5).bind fun x6 =>
   if x6 = true then
    none
   else
    (depend_walk__depend_CheckNest_c3 p0 [] 0).bind fun x8 =>
    (depend_broken [(depend_rule.mk (!x8.1) 8)]).bind fun x9 =>
    some (0, x9)
def depend_nestErr (p0 : (List api_Loop)) : Option Int :=
 (depend_CheckNest p0).bind fun x1 =>
 some x1.2
def slices_Clone_int (p0 : (List Int)) : Option (List Int) :=
 (app ([] : List Int) p0).bind fun x1 =>
 some x1
def depend_points_c1 (p0 : (List Int)) (b1 : (List (List Int))) : Option (Bool × List (List Int)) :=
 (slices_Clone_int p0).bind fun x1 =>
 (app b1 ([x1] : List (List Int))).bind fun x2 =>
 some (false, x2)
def depend_walk__depend_points_c1.s1 (p0 : (List api_Loop)) (p1 : (List Int)) (self28 : (List api_Loop) → (List Int) → (List (List Int)) → Option (Bool × List (List Int))) (s5 : Int × List (List Int)) : Option (Sum (Int × List (List Int)) (List (List Int))) :=
 (at_ p0 (p1.length : Int)).bind fun x6 =>
 (depend_value (api_Affine.mk x6.High.Coefs x6.High.Const) p1).bind fun x7 =>
 if s5.1 ≤ x7 then
  (slices_Clip_int p1).bind fun x9 =>
  (app (x9 : List Int) ([s5.1] : List Int)).bind fun x10 =>
  (self28 p0 x10 s5.2).bind fun x11 =>
  if x11.1 = true then
   none
  else
   some (.inl ((w (s5.1 + 1)), x11.2))
 else
  some (.inr s5.2)
def depend_walk__depend_points_c1.F (self28 : (List api_Loop) → (List Int) → (List (List Int)) → Option (Bool × List (List Int))) (p0 : (List api_Loop)) (p1 : (List Int)) (b1 : (List (List Int))) : Option (Bool × List (List Int)) :=
 if (p1.length : Int) = (p0.length : Int) then
  (depend_points_c1 p1 b1).bind fun x2 =>
  some (x2.1, x2.2)
 else
  (at_ p0 (p1.length : Int)).bind fun x3 =>
  (depend_value (api_Affine.mk x3.Low.Coefs x3.Low.Const) p1).bind fun x4 =>
  (loopO (depend_walk__depend_points_c1.s1 p0 p1 self28) (x4, b1)).bind fun z13 =>
  some (false, z13)
def depend_walk__depend_points_c1.N : Nat → (List api_Loop) → (List Int) → (List (List Int)) → Option (Bool × List (List Int))
 | 0 => fun _ _ _ => none
 | n + 1 => depend_walk__depend_points_c1.F (depend_walk__depend_points_c1.N n)
def depend_walk__depend_points_c1 (p0 : (List api_Loop)) (p1 : (List Int)) (b1 : (List (List Int))) : Option (Bool × List (List Int)) := lim fun n => depend_walk__depend_points_c1.N n p0 p1 b1
def depend_points (p0 : (List api_Loop)) : Option (List (List Int)) :=
 (depend_walk__depend_points_c1 p0 [] []).bind fun x1 =>
 some x1.2
def depend_PointsOf (p0 : (List api_Loop)) : Option ((List (List Int)) × Int) :=
 (depend_nestErr p0).bind fun x1 =>
 if ¬ x1 = 0 then
  none
 else
  (depend_points p0).bind fun x3 =>
  some (x3, 0)
def law27_Shift : (List api_Access) :=
 [(api_Access.mk 0 [(law27_Form 0 [1, 0]), (law27_Form 0 [0, 1])] true), (api_Access.mk 0 [(law27_Form (-1) [1, 0]), (law27_Form 0 [0, 1])] false)]
def depend_accessErr_c1 (p0 : Int) (p1 : api_Affine) (p2 : Int) : Option Int :=
 (depend_formErr p1 p2).bind fun x1 =>
 some x1
def depend_firstBad_api_Affine__depend_accessErr_c1.s1 (p0 : (List api_Affine)) (p1_0 : Int) (s1 : Int) : Option (Sum Int Unit) :=
 if s1 < (p0.length : Int) then
  (at_ p0 s1).bind fun x3 =>
  (depend_accessErr_c1 s1 x3 p1_0).bind fun x4 =>
  if ¬ x4 = 0 then
   none
  else
   some (.inl (w (s1 + 1)))
 else
  some (.inr ())
def depend_firstBad_api_Affine__depend_accessErr_c1 (p0 : (List api_Affine)) (p1_0 : Int) : Option (Int × Int) :=
 (loopO (depend_firstBad_api_Affine__depend_accessErr_c1.s1 p0 p1_0) 0).bind fun z6 =>
 some (0, 0)
def depend_accessErr (p0 : api_Access) (p1 : Int) : Option Int :=
 (depend_broken [(depend_rule.mk (depend_inside p0.Array 0 9) 2), (depend_rule.mk (depend_inside (p0.Subscripts.length : Int) 1 7) 32)]).bind fun x1 =>
 if x1 = 0 then
  (depend_firstBad_api_Affine__depend_accessErr_c1 p0.Subscripts p1).bind fun x3 =>
  some x3.2
 else
  none
def depend_CheckBody_c1 (p0 : Int) (p1 : api_Access) (p2 : (List api_Loop)) : Option Int :=
 (depend_accessErr p1 (p2.length : Int)).bind fun x1 =>
 some x1
def depend_firstBad_api_Access__depend_CheckBody_c1.s1 (p0 : (List api_Access)) (p1_0 : (List api_Loop)) (s1 : Int) : Option (Sum Int Unit) :=
 if s1 < (p0.length : Int) then
  (at_ p0 s1).bind fun x3 =>
  (depend_CheckBody_c1 s1 x3 p1_0).bind fun x4 =>
  if ¬ x4 = 0 then
   none
  else
   some (.inl (w (s1 + 1)))
 else
  some (.inr ())
def depend_firstBad_api_Access__depend_CheckBody_c1 (p0 : (List api_Access)) (p1_0 : (List api_Loop)) : Option (Int × Int) :=
 (loopO (depend_firstBad_api_Access__depend_CheckBody_c1.s1 p0 p1_0) 0).bind fun z6 =>
 some (0, 0)
def depend_CheckBody (p0 : (List api_Loop)) (p1 : (List api_Access)) : Option (Int × Int) :=
 (depend_nestErr p0).bind fun x1 =>
 (depend_broken [(depend_rule.mk (decide ((p1.length : Int) ≤ 8)) 8)]).bind fun x2 =>
 (cmp_Or_api_Errno [x1, x2]).bind fun x3 =>
 if ¬ x3 = 0 then
  none
 else
  (depend_firstBad_api_Access__depend_CheckBody_c1 p1 p0).bind fun x5 =>
  some (x5.1, x5.2)
def depend_pairErr (p0 : (List api_Loop)) (p1 : (List api_Access)) (p2 : Int) (p3 : Int) : Option Int :=
 (depend_CheckBody p0 p1).bind fun x1 =>
 (depend_broken [(depend_rule.mk ((depend_inside p2 0 (w ((p1.length : Int) - 1))) && (depend_inside p3 0 (w ((p1.length : Int) - 1)))) 6)]).bind fun x4 =>
 (cmp_Or_api_Errno [x1.2, x4]).bind fun x5 =>
 some x5
def depend_related (p0 : api_Access) (p1 : api_Access) : Bool :=
 (((p0.Array == p1.Array) && ((p0.Subscripts.length : Int) == (p1.Subscripts.length : Int))) && (p0.Write || p1.Write))
def depend_element.s1 (p0 : api_Access) (p1 : (List Int)) (s1 : Int × List Int) : Option (Sum (Int × List Int) (List Int)) :=
 if s1.1 < (p0.Subscripts.length : Int) then
  (at_ p0.Subscripts s1.1).bind fun x3 =>
  (depend_value x3 p1).bind fun x4 =>
  (app s1.2 ([x4] : List Int)).bind fun x5 =>
  some (.inl ((w (s1.1 + 1)), x5))
 else
  some (.inr s1.2)
def depend_element (p0 : api_Access) (p1 : (List Int)) : Option (List Int) :=
 (loopO (depend_element.s1 p0 p1) (0, [])).bind fun z6 =>
 some z6
def slices_Equal_int.s1 (p0 : (List Int)) (p1 : (List Int)) (s2 : Int) : Option (Sum Int (Sum Unit Bool)) :=
 if s2 < (p0.length : Int) then
  (at_ p0 s2).bind fun x4 =>
  (at_ p1 s2).bind fun x5 =>
  if ¬ x4 = x5 then
   some (.inr (.inr false))
  else
   some (.inl (w (s2 + 1)))
 else
  some (.inr (.inl ()))
def slices_Equal_int (p0 : (List Int)) (p1 : (List Int)) : Option Bool :=
 if ¬ (p0.length : Int) = (p1.length : Int) then
  none
 else
  (loopO (slices_Equal_int.s1 p0 p1) 0).bind fun z7 => match z7 with
  | .inl v8 =>
   some true
  | .inr r9 => some r9
def depend_difference.s1 (p0 : (List Int)) (p1 : (List Int)) (s1 : Int × List Int) : Option (Sum (Int × List Int) (List Int)) :=
 if s1.1 < (p0.length : Int) then
  (at_ p0 s1.1).bind fun x3 =>
  (at_ p1 s1.1).bind fun x4 =>
  (app s1.2 ([(w (x3 - x4))] : List Int)).bind fun x5 =>
  some (.inl ((w (s1.1 + 1)), x5))
 else
  some (.inr s1.2)
def depend_difference (p0 : (List Int)) (p1 : (List Int)) : Option (List Int) :=
 (loopO (depend_difference.s1 p0 p1) (0, [])).bind fun z6 =>
 some z6
def cmp_isNaN_int (p0 : Int) : Bool :=
 (p0 != p0)
def cmp_Compare_int (p0 : Int) (p1 : Int) : Option Int :=
 if (cmp_isNaN_int p0) = true then
  none
 else
  if (cmp_isNaN_int p1) = true then
   none
  else
   if p0 < p1 then
    none
   else
    if p0 > p1 then
     some 1
    else
     some 0
def depend_signs.s1 (p0 : (List Int)) (s1 : Int × List Int) : Option (Sum (Int × List Int) (List Int)) :=
 if s1.1 < (p0.length : Int) then
  (at_ p0 s1.1).bind fun x3 =>
  (cmp_Compare_int x3 0).bind fun x4 =>
  (app s1.2 ([x4] : List Int)).bind fun x5 =>
  some (.inl ((w (s1.1 + 1)), x5))
 else
  some (.inr s1.2)
def depend_signs (p0 : (List Int)) : Option (List Int) :=
 (loopO (depend_signs.s1 p0) (0, [])).bind fun z6 =>
 some z6
def slices_Compare_int.s1 (p0 : (List Int)) (p1 : (List Int)) (s1 : Int) : Option (Sum Int Unit) :=
 if s1 < (p0.length : Int) then
  (at_ p0 s1).bind fun x3 =>
  if s1 ≥ (p1.length : Int) then
   none
  else
   (at_ p1 s1).bind fun x5 =>
   (cmp_Compare_int x3 x5).bind fun x6 =>
   if ¬ x6 = 0 then
    none
   else
    some (.inl (w (s1 + 1)))
 else
  some (.inr ())
def slices_Compare_int (p0 : (List Int)) (p1 : (List Int)) : Option Int :=
 (loopO (slices_Compare_int.s1 p0 p1) 0).bind fun z8 =>
 if (p0.length : Int) < (p1.length : Int) then
  none
 else
  some 0
def depend_DependencesOf_c1_c1 (p0 : api_Dependence) (p1 : (List Int)) : Option Int :=
 (slices_Compare_int p0.Signs p1).bind fun x1 =>
 some x1
def slices_BinarySearchFunc_api_Dependence_int__depend_DependencesOf_c1_c1.s1 (p1 : (List Int)) (b0 : (List api_Dependence)) (s1 : Int × Int) : Option (Sum (Int × Int) Int) :=
 if s1.1 < s1.2 then
  (shr .u64 (IntKind.u64.wrap (w (s1.1 + s1.2))) 1).bind fun x3 =>
  (at_ b0 (w x3)).bind fun x4 =>
  (depend_DependencesOf_c1_c1 x4 p1).bind fun x5 =>
  if x5 < 0 then
   none
  else
   some (.inl (s1.1, (w x3)))
 else
  some (.inr s1.1)
def slices_BinarySearchFunc_api_Dependence_int__depend_DependencesOf_c1_c1 (p1 : (List Int)) (b0 : (List api_Dependence)) : Option (Int × Bool) :=
 (loopO (slices_BinarySearchFunc_api_Dependence_int__depend_DependencesOf_c1_c1.s1 p1 b0) (0, (b0.length : Int))).bind fun z7 =>
 if z7 < (b0.length : Int) then
  (at_ b0 z7).bind fun x9 =>
  (depend_DependencesOf_c1_c1 x9 p1).bind fun x10 =>
  some (z7, (x10 == 0))
 else
  some (z7, false)
def slices_Insert_api_Dependence (p1 : Int) (p2 : (List api_Dependence)) (b0 : (List api_Dependence)) : Option (List api_Dependence) := inserted b0 p1 p2
def depend_DependencesOf_c1 (p0 : (List Int)) (p1 : (List Int)) (b1 : (List api_Dependence)) : Option (List api_Dependence) :=
 (depend_difference p1 p0).bind fun x1 =>
 (depend_signs x1).bind fun x2 =>
 (slices_BinarySearchFunc_api_Dependence_int__depend_DependencesOf_c1_c1 x2 b1).bind fun x3 =>
 if ¬ (x3.2 = true) then
  (slices_Clone_int p0).bind fun x5 =>
  (slices_Clone_int p1).bind fun x6 =>
  (slices_Insert_api_Dependence x3.1 [(api_Dependence.mk x2 x5 x6)] b1).bind fun x7 =>
  some x7
 else
  some b1
def depend_pairs__depend_DependencesOf_c1.s2 (p2 : api_DependPair) (x2 : api_Access) (x4 : (List (List Int))) (s5 : Int × List api_Dependence) (x7 : (List Int)) (x8 : (List Int)) (s9 : Int × List api_Dependence) : Option (Sum (Int × List api_Dependence) (List api_Dependence)) :=
 if s9.1 < (x4.length : Int) then
  if s9.1 > s5.1 then
   (at_ x4 s9.1).bind fun x12 =>
   (depend_element x2 x12).bind fun x13 =>
   (slices_Equal_int x8 x13).bind fun x14 =>
   if x14 = true then
    (at_ x4 s9.1).bind fun x16 =>
    (depend_DependencesOf_c1 x7 x16 s9.2).bind fun x17 =>
    some (.inl ((w (s9.1 + 1)), x17))
   else
    some (.inl ((w (s9.1 + 1)), s9.2))
  else
   if p2.From < p2.To then
    (at_ x4 s9.1).bind fun x19 =>
    (depend_element x2 x19).bind fun x20 =>
    (slices_Equal_int x8 x20).bind fun x21 =>
    if x21 = true then
     (at_ x4 s9.1).bind fun x23 =>
     (depend_DependencesOf_c1 x7 x23 s9.2).bind fun x24 =>
     some (.inl ((w (s9.1 + 1)), x24))
    else
     some (.inl ((w (s9.1 + 1)), s9.2))
   else
    none
 else
  some (.inr s9.2)
def depend_pairs__depend_DependencesOf_c1.s1 (p2 : api_DependPair) (x1 : api_Access) (x2 : api_Access) (x4 : (List (List Int))) (s5 : Int × List api_Dependence) : Option (Sum (Int × List api_Dependence) (List api_Dependence)) :=
 if s5.1 < (x4.length : Int) then
  (at_ x4 s5.1).bind fun x7 =>
  (depend_element x1 x7).bind fun x8 =>
  (loopO (depend_pairs__depend_DependencesOf_c1.s2 p2 x2 x4 s5 x7 x8) (s5.1, s5.2)).bind fun z25 =>
  some (.inl ((w (s5.1 + 1)), z25))
 else
  some (.inr s5.2)
def depend_pairs__depend_DependencesOf_c1 (p0 : (List api_Loop)) (p1 : (List api_Access)) (p2 : api_DependPair) (b1 : (List api_Dependence)) : Option (List api_Dependence) :=
 (at_ p1 p2.From).bind fun x1 =>
 (at_ p1 p2.To).bind fun x2 =>
 if ¬ ((depend_related x1 x2) = true) then
  none
 else
  (depend_points p0).bind fun x4 =>
  (loopO (depend_pairs__depend_DependencesOf_c1.s1 p2 x1 x2 x4) (0, b1)).bind fun z27 =>
  some z27
def depend_DependencesOf (p0 : (List api_Loop)) (p1 : (List api_Access)) (p2 : api_DependPair) : Option ((List api_Dependence) × Int) :=
 (depend_pairErr p0 p1 p2.From p2.To).bind fun x1 =>
 if ¬ x1 = 0 then
  none
 else
  (depend_pairs__depend_DependencesOf_c1 p0 p1 p2 []).bind fun x3 =>
  some (x3, 0)
def slices_BinarySearchFunc_int_int__slices_Compare_int.s1 (p1 : (List Int)) (b0 : (List (List Int))) (s1 : Int × Int) : Option (Sum (Int × Int) Int) :=
 if s1.1 < s1.2 then
  (shr .u64 (IntKind.u64.wrap (w (s1.1 + s1.2))) 1).bind fun x3 =>
  (at_ b0 (w x3)).bind fun x4 =>
  (slices_Compare_int x4 p1).bind fun x5 =>
  if x5 < 0 then
   none
  else
   some (.inl (s1.1, (w x3)))
 else
  some (.inr s1.1)
def slices_BinarySearchFunc_int_int__slices_Compare_int (p1 : (List Int)) (b0 : (List (List Int))) : Option (Int × Bool) :=
 (loopO (slices_BinarySearchFunc_int_int__slices_Compare_int.s1 p1 b0) (0, (b0.length : Int))).bind fun z7 =>
 if z7 < (b0.length : Int) then
  (at_ b0 z7).bind fun x9 =>
  (slices_Compare_int x9 p1).bind fun x10 =>
  some (z7, (x10 == 0))
 else
  some (z7, false)
def slices_Insert_int (p1 : Int) (p2 : (List (List Int))) (b0 : (List (List Int))) : Option (List (List Int)) := inserted b0 p1 p2
def depend_DistancesOf_c1 (p0 : (List Int)) (p1 : (List Int)) (b1 : (List (List Int))) : Option (List (List Int)) :=
 (depend_difference p1 p0).bind fun x1 =>
 (slices_BinarySearchFunc_int_int__slices_Compare_int x1 b1).bind fun x2 =>
 if ¬ (x2.2 = true) then
  (slices_Insert_int x2.1 [x1] b1).bind fun x4 =>
  some x4
 else
  some b1
def depend_pairs__depend_DistancesOf_c1.s2 (p2 : api_DependPair) (x2 : api_Access) (x4 : (List (List Int))) (s5 : Int × List (List Int)) (x7 : (List Int)) (x8 : (List Int)) (s9 : Int × List (List Int)) : Option (Sum (Int × List (List Int)) (List (List Int))) :=
 if s9.1 < (x4.length : Int) then
  if s9.1 > s5.1 then
   (at_ x4 s9.1).bind fun x12 =>
   (depend_element x2 x12).bind fun x13 =>
   (slices_Equal_int x8 x13).bind fun x14 =>
   if x14 = true then
    (at_ x4 s9.1).bind fun x16 =>
    (depend_DistancesOf_c1 x7 x16 s9.2).bind fun x17 =>
    some (.inl ((w (s9.1 + 1)), x17))
   else
    some (.inl ((w (s9.1 + 1)), s9.2))
  else
   if p2.From < p2.To then
    (at_ x4 s9.1).bind fun x19 =>
    (depend_element x2 x19).bind fun x20 =>
    (slices_Equal_int x8 x20).bind fun x21 =>
    if x21 = true then
     (at_ x4 s9.1).bind fun x23 =>
     (depend_DistancesOf_c1 x7 x23 s9.2).bind fun x24 =>
     some (.inl ((w (s9.1 + 1)), x24))
    else
     some (.inl ((w (s9.1 + 1)), s9.2))
   else
    none
 else
  some (.inr s9.2)
def depend_pairs__depend_DistancesOf_c1.s1 (p2 : api_DependPair) (x1 : api_Access) (x2 : api_Access) (x4 : (List (List Int))) (s5 : Int × List (List Int)) : Option (Sum (Int × List (List Int)) (List (List Int))) :=
 if s5.1 < (x4.length : Int) then
  (at_ x4 s5.1).bind fun x7 =>
  (depend_element x1 x7).bind fun x8 =>
  (loopO (depend_pairs__depend_DistancesOf_c1.s2 p2 x2 x4 s5 x7 x8) (s5.1, s5.2)).bind fun z25 =>
  some (.inl ((w (s5.1 + 1)), z25))
 else
  some (.inr s5.2)
def depend_pairs__depend_DistancesOf_c1 (p0 : (List api_Loop)) (p1 : (List api_Access)) (p2 : api_DependPair) (b1 : (List (List Int))) : Option (List (List Int)) :=
 (at_ p1 p2.From).bind fun x1 =>
 (at_ p1 p2.To).bind fun x2 =>
 if ¬ ((depend_related x1 x2) = true) then
  none
 else
  (depend_points p0).bind fun x4 =>
  (loopO (depend_pairs__depend_DistancesOf_c1.s1 p2 x1 x2 x4) (0, b1)).bind fun z27 =>
  some z27
def depend_DistancesOf (p0 : (List api_Loop)) (p1 : (List api_Access)) (p2 : api_DependPair) : Option ((List (List Int)) × Int) :=
 (depend_pairErr p0 p1 p2.From p2.To).bind fun x1 =>
 if ¬ x1 = 0 then
  none
 else
  (depend_pairs__depend_DistancesOf_c1 p0 p1 p2 []).bind fun x3 =>
  some (x3, 0)
def law27_Far : api_LinSystem :=
 (api_LinSystem.mk 2 [(api_LinRow.mk [1, 0] 0 false), (api_LinRow.mk [(-1), 0] 3 false), (api_LinRow.mk [0, 1] 0 false), (api_LinRow.mk [0, (-1)] 3 false), (api_LinRow.mk [1, 1] (-7) false)])
def depend_rowErr_c1 (p0 : Int) : Bool :=
 (!(depend_inside p0 (-1000) 1000))
def slices_IndexFunc_int__depend_rowErr_c1.s1 (p0 : (List Int)) (s1 : Int) : Option (Sum Int (Sum Unit Int)) :=
 if s1 < (p0.length : Int) then
  (at_ p0 s1).bind fun x3 =>
  if (depend_rowErr_c1 x3) = true then
   some (.inr (.inr s1))
  else
   some (.inl (w (s1 + 1)))
 else
  some (.inr (.inl ()))
def slices_IndexFunc_int__depend_rowErr_c1 (p0 : (List Int)) : Option Int :=
 (loopO (slices_IndexFunc_int__depend_rowErr_c1.s1 p0) 0).bind fun z5 => match z5 with
 | .inl v6 =>
  some (-1)
 | .inr r7 => some r7
def slices_ContainsFunc_int__depend_rowErr_c1 (p0 : (List Int)) : Option Bool :=
 (slices_IndexFunc_int__depend_rowErr_c1 p0).bind fun x1 =>
 some (decide (x1 ≥ 0))
def depend_rowErr (p0 : api_LinRow) (p1 : Int) : Option Int :=
 (slices_ContainsFunc_int__depend_rowErr_c1 p0.Coefs).bind fun x1 =>
 if ¬ (x1 = true) then
  (depend_broken [(depend_rule.mk ((p0.Coefs.length : Int) == p1) 10), (depend_rule.mk (depend_inside p0.Const (-100000) 100000) 2)]).bind fun x3 =>
  some x3
 else
  (depend_broken [(depend_rule.mk ((p0.Coefs.length : Int) == p1) 10), (depend_rule.mk false 2)]).bind fun x4 =>
  some x4
def depend_CheckSystem_c1 (p0 : Int) (p1 : api_LinRow) (p2 : api_LinSystem) : Option Int :=
 (depend_rowErr p1 p2.Vars).bind fun x1 =>
 some x1
def depend_firstBad_api_LinRow__depend_CheckSystem_c1.s1 (p0 : (List api_LinRow)) (p1_0 : api_LinSystem) (s1 : Int) : Option (Sum Int (Sum Unit (Int × Int))) :=
 if s1 < (p0.length : Int) then
  (at_ p0 s1).bind fun x3 =>
  (depend_CheckSystem_c1 s1 x3 p1_0).bind fun x4 =>
  if ¬ x4 = 0 then
   some (.inr (.inr (s1, x4)))
  else
   some (.inl (w (s1 + 1)))
 else
  some (.inr (.inl ()))
def depend_firstBad_api_LinRow__depend_CheckSystem_c1 (p0 : (List api_LinRow)) (p1_0 : api_LinSystem) : Option (Int × Int) :=
 (loopO (depend_firstBad_api_LinRow__depend_CheckSystem_c1.s1 p0 p1_0) 0).bind fun z6 => match z6 with
 | .inl v7 =>
  some (0, 0)
 | .inr r8 => some r8
def depend_CheckSystem (p0 : api_LinSystem) : Option (Int × Int) :=
 (depend_broken [(depend_rule.mk (depend_inside p0.Vars 1 8) 2), (depend_rule.mk (decide ((p0.Rows.length : Int) ≤ 60)) 8)]).bind fun x1 =>
 if ¬ x1 = 0 then
  some (0, x1)
 else
  (depend_firstBad_api_LinRow__depend_CheckSystem_c1 p0.Rows p0).bind fun x3 =>
  some (x3.1, x3.2)
def depend_systemErr (p0 : api_LinSystem) : Option Int :=
 (depend_CheckSystem p0).bind fun x1 =>
 some x1.2
def depend_nodeErr.s2 (p1 : Int) (x21 : api_LinNode) (s23 : Int × Int) : Option (Sum (Int × Int) Int) :=
 if s23.2 < 2 then
  if s23.2 = 0 then
   if x21.Left = p1 then
    some (.inl ((w (s23.1 + 1)), (w (s23.2 + 1))))
   else
    some (.inl (s23.1, (w (s23.2 + 1))))
  else
   if s23.2 = 1 then
    if x21.Right = p1 then
     some (.inl ((w (s23.1 + 1)), (w (s23.2 + 1))))
    else
     some (.inl (s23.1, (w (s23.2 + 1))))
   else
    none
 else
  some (.inr s23.1)
def depend_nodeErr.s1 (p0 : (List api_LinNode)) (p1 : Int) (s19 : Int × Int) : Option (Sum (Int × Int) Int) :=
 if s19.2 < (p0.length : Int) then
  (at_ p0 s19.2).bind fun x21 =>
  if ¬ x21.Kind = 2 then
   some (.inl (s19.1, (w (s19.2 + 1))))
  else
   (loopO (depend_nodeErr.s2 p1 x21) (s19.1, 0)).bind fun z29 =>
   some (.inl (z29, (w (s19.2 + 1))))
 else
  some (.inr s19.1)
def depend_nodeErr (p0 : (List api_LinNode)) (p1 : Int) : Option Int :=
 (at_ p0 p1).bind fun x1 =>
 if ¬ ((depend_inside x1.Kind 0 2) = true) then
  some 15
 else
  (loopO (depend_nodeErr.s1 p0 p1) (0, 0)).bind fun z31 =>
  (depend_broken [(depend_rule.mk ((((x1.Kind == 1) || (x1.Divisor == 0)) && ((x1.Kind == 2) || ((((x1.Var == 0) && (x1.At == 0)) && (x1.Left == 0)) && (x1.Right == 0)))) && ((!(x1.Kind == 2)) || ((x1.Weights.length : Int) == 0))) 3), (depend_rule.mk ((!(x1.Kind == 2)) || ((depend_inside x1.Left (w (p1 + 1)) (w ((p0.length : Int) - 1))) && (depend_inside x1.Right (w (p1 + 1)) (w ((p0.length : Int) - 1))))) 2), (depend_rule.mk ((p1 == 0) || (z31 == 1)) 19)]).bind fun x38 =>
  some x38
def depend_CheckProof_c1 (p0 : Int) (p1 : api_LinNode) (p2 : (List api_LinNode)) : Option Int :=
 (depend_nodeErr p2 p0).bind fun x1 =>
 some x1
def depend_firstBad_api_LinNode__depend_CheckProof_c1.s1 (p0 : (List api_LinNode)) (p1_0 : (List api_LinNode)) (s1 : Int) : Option (Sum Int (Sum Unit (Int × Int))) :=
 if s1 < (p0.length : Int) then
  (at_ p0 s1).bind fun x3 =>
  (depend_CheckProof_c1 s1 x3 p1_0).bind fun x4 =>
  if ¬ x4 = 0 then
   some (.inr (.inr (s1, x4)))
  else
   some (.inl (w (s1 + 1)))
 else
  some (.inr (.inl ()))
def depend_firstBad_api_LinNode__depend_CheckProof_c1 (p0 : (List api_LinNode)) (p1_0 : (List api_LinNode)) : Option (Int × Int) :=
 (loopO (depend_firstBad_api_LinNode__depend_CheckProof_c1.s1 p0 p1_0) 0).bind fun z6 => match z6 with
 | .inl v7 =>
  some (0, 0)
 | .inr r8 => some r8
def depend_CheckProof_c2_c1 (p0 : Int) : Bool :=
 (!(depend_inside p0 (-1000000) 1000000))
def slices_IndexFunc_int__depend_CheckProof_c2_c1.s1 (p0 : (List Int)) (s1 : Int) : Option (Sum Int (Sum Unit Int)) :=
 if s1 < (p0.length : Int) then
  (at_ p0 s1).bind fun x3 =>
  if (depend_CheckProof_c2_c1 x3) = true then
   some (.inr (.inr s1))
  else
   some (.inl (w (s1 + 1)))
 else
  some (.inr (.inl ()))
def slices_IndexFunc_int__depend_CheckProof_c2_c1 (p0 : (List Int)) : Option Int :=
 (loopO (slices_IndexFunc_int__depend_CheckProof_c2_c1.s1 p0) 0).bind fun z5 => match z5 with
 | .inl v6 =>
  some (-1)
 | .inr r7 => some r7
def slices_ContainsFunc_int__depend_CheckProof_c2_c1 (p0 : (List Int)) : Option Bool :=
 (slices_IndexFunc_int__depend_CheckProof_c2_c1 p0).bind fun x1 =>
 some (decide (x1 ≥ 0))
def slices_Clone_api_LinRow (p0 : (List api_LinRow)) : Option (List api_LinRow) :=
 (app ([] : List api_LinRow) p0).bind fun x1 =>
 some x1
def slices_Grow_api_LinRow (p1 : Int) : Option (List api_LinRow) := if 0 ≤ p1 ∧ p1 ≤ 16777216 then some [] else none
def slices_Concat_api_LinRow.s1 (p0 : (List (List api_LinRow))) (s1 : Int × Int) : Option (Sum (Int × Int) Int) :=
 if s1.2 < (p0.length : Int) then
  (at_ p0 s1.2).bind fun x3 =>
  if (w (s1.1 + (x3.length : Int))) < 0 then
   none
  else
   some (.inl ((w (s1.1 + (x3.length : Int))), (w (s1.2 + 1))))
 else
  some (.inr s1.1)
def slices_Concat_api_LinRow.s2 (p0 : (List (List api_LinRow))) (s7 : Int × List api_LinRow) : Option (Sum (Int × List api_LinRow) (List api_LinRow)) :=
 if s7.1 < (p0.length : Int) then
  (at_ p0 s7.1).bind fun x9 =>
  (app s7.2 x9).bind fun x10 =>
  some (.inl ((w (s7.1 + 1)), x10))
 else
  some (.inr s7.2)
def slices_Concat_api_LinRow (p0 : (List (List api_LinRow))) : Option (List api_LinRow) :=
 (loopO (slices_Concat_api_LinRow.s1 p0) (0, 0)).bind fun z5 =>
 (slices_Grow_api_LinRow z5).bind fun x6 =>
 (loopO (slices_Concat_api_LinRow.s2 p0) (0, x6)).bind fun z11 =>
 some z11
def depend_checker_added.s2 (x8 : Int) (x17 : api_LinRow) (s18 : Int × List Int) : Option (Sum (Int × List Int) (List Int)) :=
 if s18.1 < (x17.Coefs.length : Int) then
  (at_ x17.Coefs s18.1).bind fun x20 =>
  (at_ s18.2 s18.1).bind fun x21 =>
  (at_ s18.2 s18.1).bind fun x22 =>
  some (.inl ((w (s18.1 + 1)), (s18.2.set s18.1.toNat (w (x21 + (w (x8 * x20)))))))
 else
  some (.inr s18.2)
def depend_checker_added.s1 (x1 : api_LinNode) (x4 : (List api_LinRow)) (s6 : Int × Int × List Int) : Option (Sum (Int × Int × List Int) (Sum (Int × List Int) (api_LinRow × Bool))) :=
 if s6.1 < (x1.Weights.length : Int) then
  (at_ x1.Weights s6.1).bind fun x8 =>
  (at_ x4 s6.1).bind fun x9 =>
  if ((!x9.Equal) && ((decide (x8 < 0)) || ((x1.Kind == 1) && (x8 != 0)))) = true then
   some (.inr (.inr ((api_LinRow.mk s6.2.2 s6.2.1 false), false)))
  else
   (at_ x4 s6.1).bind fun x17 =>
   (loopO (depend_checker_added.s2 x8 x17) (0, s6.2.2)).bind fun z23 =>
   (at_ x4 s6.1).bind fun x24 =>
   some (.inl ((w (s6.1 + 1)), (w (s6.2.1 + (w (x8 * x24.Const)))), z23))
 else
  some (.inr (.inl (s6.2.1, s6.2.2)))
def depend_checker_added (p1 : Int) (pb0_0 : Int) (pb0_1 : (List api_LinRow)) (pb0_2 : (List api_LinNode)) (b1 : (List (List api_LinRow))) : Option (api_LinRow × Bool) :=
 (at_ pb0_2 p1).bind fun x1 =>
 (mkSl pb0_0 0).bind fun x2 =>
 (at_ b1 p1).bind fun x3 =>
 (slices_Concat_api_LinRow [pb0_1, x3]).bind fun x4 =>
 if ¬ (x1.Weights.length : Int) = (x4.length : Int) then
  some ((api_LinRow.mk x2 0 false), false)
 else
  (loopO (depend_checker_added.s1 x1 x4) (0, 0, x2)).bind fun z26 => match z26 with
  | .inl v27 =>
   some ((api_LinRow.mk v27.2 v27.1 false), true)
  | .inr r28 => some r28
def depend_checker_isRight_c1 (p0 : Int) : Bool :=
 (p0 != 0)
def slices_IndexFunc_int__depend_checker_isRight_c1.s1 (p0 : (List Int)) (s1 : Int) : Option (Sum Int (Sum Unit Int)) :=
 if s1 < (p0.length : Int) then
  (at_ p0 s1).bind fun x3 =>
  if (depend_checker_isRight_c1 x3) = true then
   some (.inr (.inr s1))
  else
   some (.inl (w (s1 + 1)))
 else
  some (.inr (.inl ()))
def slices_IndexFunc_int__depend_checker_isRight_c1 (p0 : (List Int)) : Option Int :=
 (loopO (slices_IndexFunc_int__depend_checker_isRight_c1.s1 p0) 0).bind fun z5 => match z5 with
 | .inl v6 =>
  some (-1)
 | .inr r7 => some r7
def slices_ContainsFunc_int__depend_checker_isRight_c1 (p0 : (List Int)) : Option Bool :=
 (slices_IndexFunc_int__depend_checker_isRight_c1 p0).bind fun x1 =>
 some (decide (x1 ≥ 0))
def depend_checker_isRight_c2 (p0 : Int) (p1 : api_LinNode) : Option Bool :=
 (rem p0 p1.Divisor).bind fun x1 =>
 some (x1 != 0)
def slices_IndexFunc_int__depend_checker_isRight_c2.s1 (p0 : (List Int)) (p1_0 : api_LinNode) (s1 : Int) : Option (Sum Int (Sum Unit Int)) :=
 if s1 < (p0.length : Int) then
  (at_ p0 s1).bind fun x3 =>
  (depend_checker_isRight_c2 x3 p1_0).bind fun x4 =>
  if x4 = true then
   some (.inr (.inr s1))
  else
   some (.inl (w (s1 + 1)))
 else
  some (.inr (.inl ()))
def slices_IndexFunc_int__depend_checker_isRight_c2 (p0 : (List Int)) (p1_0 : api_LinNode) : Option Int :=
 (loopO (slices_IndexFunc_int__depend_checker_isRight_c2.s1 p0 p1_0) 0).bind fun z6 => match z6 with
 | .inl v7 =>
  some (-1)
 | .inr r8 => some r8
def slices_ContainsFunc_int__depend_checker_isRight_c2 (p0 : (List Int)) (p1_0 : api_LinNode) : Option Bool :=
 (slices_IndexFunc_int__depend_checker_isRight_c2 p0 p1_0).bind fun x1 =>
 some (decide (x1 ≥ 0))
def depend_checker_isRight (p1 : Int) (pb0_0 : Int) (pb0_1 : (List api_LinRow)) (pb0_2 : (List api_LinNode)) (b1 : (List (List api_LinRow))) : Option (Bool × List (List api_LinRow)) :=
 (at_ pb0_2 p1).bind fun x1 =>
 if x1.Kind = 2 then
  if ¬ ((depend_inside x1.Var 0 (w (pb0_0 - 1))) = true) then
   some (false, b1)
  else
   (mkSl pb0_0 0).bind fun x4 =>
   (mkSl pb0_0 0).bind fun x5 =>
   (at_ x4 x1.Var).bind fun x6 =>
   (at_ x5 x1.Var).bind fun x7 =>
   (at_ b1 p1).bind fun x8 =>
   (slices_Clone_api_LinRow x8).bind fun x9 =>
   (app x9 ([(api_LinRow.mk (x4.set x1.Var.toNat (-1)) x1.At false)] : List api_LinRow)).bind fun x10 =>
   (at_ b1 x1.Left).bind fun x11 =>
   (at_ (b1.set x1.Left.toNat x10) p1).bind fun x12 =>
   (slices_Clone_api_LinRow x12).bind fun x13 =>
   (app x13 ([(api_LinRow.mk (x5.set x1.Var.toNat 1) (w ((w (0 - x1.At)) - 1)) false)] : List api_LinRow)).bind fun x14 =>
   (at_ (b1.set x1.Left.toNat x10) x1.Right).bind fun x15 =>
   some (true, ((b1.set x1.Left.toNat x10).set x1.Right.toNat x14))
 else
  (depend_checker_added p1 pb0_0 pb0_1 pb0_2 b1).bind fun x16 =>
  if ¬ (x16.2 = true) then
   some (false, b1)
  else
   if x1.Kind = 0 then
    if x16.1.Const < 0 then
     (slices_ContainsFunc_int__depend_checker_isRight_c1 x16.1.Coefs).bind fun x20 =>
     some ((!x20), b1)
    else
     some (false, b1)
   else
    if x1.Divisor ≥ 2 then
     (rem x16.1.Const x1.Divisor).bind fun x22 =>
     if ¬ x22 = 0 then
      (slices_ContainsFunc_int__depend_checker_isRight_c2 x16.1.Coefs x1).bind fun x24 =>
      some ((!x24), b1)
     else
      some (false, b1)
    else
     some (false, b1)
def depend_CheckProof_c2 (p0 : Int) (p1 : api_LinNode) (pb1_0 : Int) (pb1_1 : (List api_LinRow)) (pb1_2 : (List api_LinNode)) (b2 : (List (List api_LinRow))) : Option (Int × List (List api_LinRow)) :=
 (slices_ContainsFunc_int__depend_CheckProof_c2_c1 p1.Weights).bind fun x1 =>
 if (x1 || (!(depend_inside p1.At (-100000) 100000))) = true then
  some (2, b2)
 else
  (depend_checker_isRight p0 pb1_0 pb1_1 pb1_2 b2).bind fun x5 =>
  (depend_broken [(depend_rule.mk x5.1 19)]).bind fun x6 =>
  some (x6, x5.2)
def depend_firstBad_api_LinNode__depend_CheckProof_c2.s1 (p0 : (List api_LinNode)) (pb1_0 : Int) (pb1_1 : (List api_LinRow)) (pb1_2 : (List api_LinNode)) (s1 : Int × List (List api_LinRow)) : Option (Sum (Int × List (List api_LinRow)) (Sum (List (List api_LinRow)) (Int × Int × List (List api_LinRow)))) :=
 if s1.1 < (p0.length : Int) then
  (at_ p0 s1.1).bind fun x3 =>
  (depend_CheckProof_c2 s1.1 x3 pb1_0 pb1_1 pb1_2 s1.2).bind fun x4 =>
  if ¬ x4.1 = 0 then
   some (.inr (.inr (s1.1, x4.1, x4.2)))
  else
   some (.inl ((w (s1.1 + 1)), x4.2))
 else
  some (.inr (.inl s1.2))
def depend_firstBad_api_LinNode__depend_CheckProof_c2 (p0 : (List api_LinNode)) (pb1_0 : Int) (pb1_1 : (List api_LinRow)) (pb1_2 : (List api_LinNode)) (b2 : (List (List api_LinRow))) : Option (Int × Int × List (List api_LinRow)) :=
 (loopO (depend_firstBad_api_LinNode__depend_CheckProof_c2.s1 p0 pb1_0 pb1_1 pb1_2) (0, b2)).bind fun z6 => match z6 with
 | .inl v7 =>
  some (0, 0, v7)
 | .inr r8 => some r8
def depend_CheckProof (p0 : api_LinSystem) (p1 : (List api_LinNode)) : Option (Int × Int) :=
 (depend_systemErr p0).bind fun x1 =>
 (depend_broken [(depend_rule.mk (decide ((p1.length : Int) > 0)) 17), (depend_rule.mk (decide ((p1.length : Int) ≤ 4000)) 8)]).bind fun x2 =>
 (cmp_Or_api_Errno [x1, x2]).bind fun x3 =>
 if ¬ x3 = 0 then
  some (0, x3)
 else
  (depend_firstBad_api_LinNode__depend_CheckProof_c1 p1 p1).bind fun x5 =>
  if ¬ x5.2 = 0 then
   some (x5.1, x5.2)
  else
   (mkSl (p1.length : Int) []).bind fun x7 =>
   (depend_firstBad_api_LinNode__depend_CheckProof_c2 p1 p0.Vars p0.Rows p1 x7).bind fun x8 =>
   if ¬ x8.2.1 = 0 then
    some (x8.1, x8.2.1)
   else
    some ((p1.length : Int), 0)
def depend_only.s1 (p0 : api_LinRow) (s1 : Int × Int × Int) : Option (Sum (Int × Int × Int) (Int × Int)) :=
 if s1.2.2 < (p0.Coefs.length : Int) then
  (at_ p0.Coefs s1.2.2).bind fun x3 =>
  if ¬ x3 = 0 then
   some (.inl (s1.2.2, (w (s1.2.1 + 1)), (w (s1.2.2 + 1))))
  else
   some (.inl (s1.1, s1.2.1, (w (s1.2.2 + 1))))
 else
  some (.inr (s1.1, s1.2.1))
def depend_only (p0 : api_LinRow) : Option (Int × Bool) :=
 (loopO (depend_only.s1 p0) (0, 0, 0)).bind fun z5 =>
 some (z5.1, (z5.2 == 1))
def depend_floor (p0 : Int) (p1 : Int) : Option Int :=
 (quo .i64 p0 p1).bind fun x1 =>
 (rem p0 p1).bind fun x2 =>
 if ((x2 != 0) && ((decide (p0 < 0)) != (decide (p1 < 0)))) = true then
  none
 else
  some x1
def depend_boxOf.s1 (p0 : api_LinSystem) (s3 : Int × List depend_side × List depend_side) : Option (Sum (Int × List depend_side × List depend_side) (List depend_side × List depend_side)) :=
 if s3.1 < (p0.Rows.length : Int) then
  (at_ p0.Rows s3.1).bind fun x5 =>
  (depend_only x5).bind fun x6 =>
  if (x5.Equal || (!x6.2)) = true then
   some (.inl ((w (s3.1 + 1)), s3.2.1, s3.2.2))
  else
   (at_ x5.Coefs x6.1).bind fun x10 =>
   if x10 > 0 then
    (depend_floor x5.Const x10).bind fun x12 =>
    (at_ s3.2.1 x6.1).bind fun x13 =>
    if ¬ (x13.known = true) then
     (at_ s3.2.1 x6.1).bind fun x15 =>
     some (.inl ((w (s3.1 + 1)), (s3.2.1.set x6.1.toNat (depend_side.mk true (w (0 - x12)) s3.1)), s3.2.2))
    else
     none
   else
    (depend_floor x5.Const (w (0 - x10))).bind fun x16 =>
    (at_ s3.2.2 x6.1).bind fun x17 =>
    if ¬ (x17.known = true) then
     (at_ s3.2.2 x6.1).bind fun x19 =>
     some (.inl ((w (s3.1 + 1)), s3.2.1, (s3.2.2.set x6.1.toNat (depend_side.mk true x16 s3.1))))
    else
     none
 else
  some (.inr (s3.2.1, s3.2.2))
def depend_boxOf (p0 : api_LinSystem) : Option depend_box :=
 (mkSl p0.Vars (depend_side.mk false 0 0)).bind fun x1 =>
 (mkSl p0.Vars (depend_side.mk false 0 0)).bind fun x2 =>
 (loopO (depend_boxOf.s1 p0) (0, x1, x2)).bind fun z20 =>
 some (depend_box.mk z20.1 z20.2)
def depend_openBox_c1 (p0 : depend_side) : Bool :=
 (!p0.known)
def slices_IndexFunc_depend_side__depend_openBox_c1.s1 (p0 : (List depend_side)) (s1 : Int) : Option (Sum Int Unit) :=
 if s1 < (p0.length : Int) then
  (at_ p0 s1).bind fun x3 =>
  if (depend_openBox_c1 x3) = true then
   none
  else
   some (.inl (w (s1 + 1)))
 else
  some (.inr ())
def slices_IndexFunc_depend_side__depend_openBox_c1 (p0 : (List depend_side)) : Option Int :=
 (loopO (slices_IndexFunc_depend_side__depend_openBox_c1.s1 p0) 0).bind fun z5 =>
 some (-1)
def slices_ContainsFunc_depend_side__depend_openBox_c1 (p0 : (List depend_side)) : Option Bool :=
 (slices_IndexFunc_depend_side__depend_openBox_c1 p0).bind fun x1 =>
 some (decide (x1 ≥ 0))
def depend_openBox (p0 : api_LinSystem) : Option (depend_box × Int) :=
 (depend_systemErr p0).bind fun x1 =>
 if ¬ x1 = 0 then
  none
 else
  (depend_boxOf p0).bind fun x3 =>
  (slices_ContainsFunc_depend_side__depend_openBox_c1 x3.low).bind fun x4 =>
  if ¬ (x4 = true) then
   (slices_ContainsFunc_depend_side__depend_openBox_c1 x3.high).bind fun x6 =>
   (depend_broken [(depend_rule.mk (!x6) 21)]).bind fun x7 =>
   some (x3, x7)
  else
   none
def depend_box_empty.s1 (p0 : depend_box) (s1 : Int) : Option (Sum Int Unit) :=
 if s1 < (p0.low.length : Int) then
  (at_ p0.low s1).bind fun x3 =>
  (at_ p0.high s1).bind fun x4 =>
  if x3.n > x4.n then
   none
  else
   some (.inl (w (s1 + 1)))
 else
  some (.inr ())
def depend_box_empty (p0 : depend_box) : Option (Int × Bool) :=
 (loopO (depend_box_empty.s1 p0) 0).bind fun z6 =>
 some (0, false)
def depend_solver_node (p1 : api_LinNode) (pb0_0 : Int) (pb0_1 : (List api_LinRow)) (pb0_3 : Bool) (b1 : (List api_LinNode)) : Option (Int × List api_LinNode × Bool) :=
 (app b1 ([p1] : List api_LinNode)).bind fun x1 =>
 some ((w ((x1.length : Int) - 1)), x1, (pb0_3 || (decide ((x1.length : Int) > 4000))))
def depend_solver_sum (p1 : Int) (p2 : (List (Int × Int))) (pb0_0 : Int) (pb0_1 : (List api_LinRow)) (pb0_3 : Bool) (b1 : (List api_LinNode)) : Option (List api_LinNode × Bool) :=
 (mkSl p1 0).bind fun x1 =>
 (mapPut x1 p2).bind fun x2 =>
 (depend_solver_node (api_LinNode.mk 0 x2 0 0 0 0 0) pb0_0 pb0_1 pb0_3 b1).bind fun x3 =>
 some (x3.2.1, x3.2.2)
def depend_box_ends.s1 (p0 : depend_box) (p1 : api_LinRow) (s1 : Int × Int × Int) : Option (Sum (Int × Int × Int) (Int × Int)) :=
 if s1.2.2 < (p1.Coefs.length : Int) then
  (at_ p1.Coefs s1.2.2).bind fun x3 =>
  (at_ p0.low s1.2.2).bind fun x4 =>
  (at_ p0.high s1.2.2).bind fun x5 =>
  (at_ p0.low s1.2.2).bind fun x6 =>
  (at_ p0.high s1.2.2).bind fun x7 =>
  some (.inl ((w (s1.1 + (mn (w (x3 * x4.n)) (w (x3 * x5.n))))), (w (s1.2.1 + (mx (w (x3 * x6.n)) (w (x3 * x7.n))))), (w (s1.2.2 + 1))))
 else
  some (.inr (s1.1, s1.2.1))
def depend_box_ends (p0 : depend_box) (p1 : api_LinRow) : Option (Int × Int) :=
 (loopO (depend_box_ends.s1 p0 p1) (p1.Const, p1.Const, 0)).bind fun z8 =>
 some (z8.1, z8.2)
def depend_divisor.s2 (s4 : Int × Int) : Option (Sum (Int × Int) Int) :=
 if s4.2 = 0 then
  some (.inr s4.1)
 else
  (rem s4.1 s4.2).bind fun x6 =>
  some (.inl (s4.2, x6))
def depend_divisor.s1 (p0 : api_LinRow) (s1 : Int × Int) : Option (Sum (Int × Int) Int) :=
 if s1.2 < (p0.Coefs.length : Int) then
  (at_ p0.Coefs s1.2).bind fun x3 =>
  (loopO depend_divisor.s2 (s1.1, (mx x3 (w (0 - x3))))).bind fun z7 =>
  some (.inl (z7, (w (s1.2 + 1))))
 else
  some (.inr s1.1)
def depend_divisor (p0 : api_LinRow) : Option Int :=
 (loopO (depend_divisor.s1 p0) (0, 0)).bind fun z9 =>
 some z9
def depend_gcdFails (p0 : api_LinRow) : Option Bool :=
 (depend_divisor p0).bind fun x1 =>
 if p0.Equal = true then
  none
 else
  some false
def depend_solver_refuted.s3 (p1 : depend_box) (x5 : api_LinRow) (a7 : Int) (s8 : Int × List (Int × Int)) : Option (Sum (Int × List (Int × Int)) (List (Int × Int))) :=
 if s8.1 < (x5.Coefs.length : Int) then
  (at_ x5.Coefs s8.1).bind fun x10 =>
  if (w (x10 * a7)) > 0 then
   (at_ p1.high s8.1).bind fun x12 =>
   some (.inl ((w (s8.1 + 1)), (mset s8.2 x12.row (w (((mget s8.2 x12.row).getD 0) + (w (x10 * a7)))))))
  else
   if (w (x10 * a7)) < 0 then
    (at_ p1.low s8.1).bind fun x14 =>
    some (.inl ((w (s8.1 + 1)), (mset s8.2 x14.row (w (((mget s8.2 x14.row).getD 0) - (w (x10 * a7)))))))
   else
    some (.inl ((w (s8.1 + 1)), s8.2))
 else
  some (.inr s8.2)
def depend_solver_refuted.j2 (p1 : depend_box) (p2 : Int) (pb0_0 : Int) (pb0_1 : (List api_LinRow)) (pb0_3 : Bool) (b1 : (List api_LinNode)) (s3 : Int) (x5 : api_LinRow) (a7 : Int) : Option (Sum Int (Sum Unit (Bool × List api_LinNode × Bool))) :=
 (loopO (depend_solver_refuted.s3 p1 x5 a7) (0, (mset ([] : List (Int × Int)) s3 a7))).bind fun z15 =>
 (depend_solver_sum p2 z15 pb0_0 pb0_1 pb0_3 b1).bind fun x16 =>
 some (.inr (.inr (true, x16.1, x16.2)))
def depend_solver_refuted.s1 (p1 : depend_box) (p2 : Int) (pb0_0 : Int) (pb0_1 : (List api_LinRow)) (pb0_3 : Bool) (b1 : (List api_LinNode)) (s3 : Int) : Option (Sum Int (Sum Unit (Bool × List api_LinNode × Bool))) :=
 if s3 < (pb0_1.length : Int) then
  (at_ pb0_1 s3).bind fun x5 =>
  (depend_box_ends p1 x5).bind fun x6 =>
  if x6.2 < 0 then
   depend_solver_refuted.j2 p1 p2 pb0_0 pb0_1 pb0_3 b1 s3 x5 1
  else
   if (x5.Equal && (decide (x6.1 > 0))) = true then
    depend_solver_refuted.j2 p1 p2 pb0_0 pb0_1 pb0_3 b1 s3 x5 (-1)
   else
    (depend_gcdFails x5).bind fun x11 =>
    if x11 = true then
     (mkSl p2 0).bind fun x13 =>
     (at_ x13 s3).bind fun x14 =>
     (depend_divisor x5).bind fun x15 =>
     (depend_solver_node (api_LinNode.mk 1 (x13.set s3.toNat 1) x15 0 0 0 0) pb0_0 pb0_1 pb0_3 b1).bind fun x16 =>
     some (.inr (.inr (true, x16.2.1, x16.2.2)))
    else
     some (.inl (w (s3 + 1)))
 else
  some (.inr (.inl ()))
def depend_solver_refuted (p1 : depend_box) (p2 : Int) (pb0_0 : Int) (pb0_1 : (List api_LinRow)) (pb0_3 : Bool) (b1 : (List api_LinNode)) : Option (Bool × List api_LinNode × Bool) :=
 (depend_box_empty p1).bind fun x1 =>
 if x1.2 = true then
  none
 else
  (loopO (depend_solver_refuted.s1 p1 p2 pb0_0 pb0_1 pb0_3 b1) 0).bind fun z18 => match z18 with
  | .inl v19 =>
   some (false, b1, pb0_3)
  | .inr r20 => some r20
def depend_solver_search (p1 : depend_box) (p2 : Int) (pb0_0 : Int) (pb0_1 : (List api_LinRow)) (pb0_3 : Bool) (b1 : (List api_LinNode)) : Option ((List Int) × List api_LinNode × Bool) :=
 if pb0_3 = true then
  none
 else
  (depend_solver_refuted p1 p2 pb0_0 pb0_1 pb0_3 b1).bind fun x2 =>
  if x2.1 = true then
   some ([], x2.2.1, x2.2.2)
  else
   none
def depend_solver_unit.j2 (pb0_1 : (List api_LinRow)) (s1 : Int) (x3 : Int) (a6 : Bool × Int × Int) : Option (Sum Int Unit) :=
 (at_ pb0_1 a6.2.2).bind fun x7 =>
 (at_ x7.Coefs x3).bind fun x8 =>
 if ((x8 == 1) || (x8 == (-1))) = true then
  some (.inl (w (s1 + 1)))
 else
  none
def depend_solver_unit.s1 (p1 : depend_box) (pb0_0 : Int) (pb0_1 : (List api_LinRow)) (s1 : Int) : Option (Sum Int Unit) :=
 if s1 < (w (2 * pb0_0)) then
  (quo .i64 s1 2).bind fun x3 =>
  (at_ p1.low x3).bind fun x4 =>
  (rem s1 2).bind fun x5 =>
  if x5 = 1 then
   (at_ p1.high x3).bind fun x7 =>
   depend_solver_unit.j2 pb0_1 s1 x3 (x7.known, x7.n, x7.row)
  else
   depend_solver_unit.j2 pb0_1 s1 x3 (x4.known, x4.n, x4.row)
 else
  some (.inr ())
def depend_solver_unit (p1 : depend_box) (p2 : Int) (p3 : Int) (pb0_0 : Int) (pb0_1 : (List api_LinRow)) (pb0_3 : Bool) (b1 : (List api_LinNode)) : Option ((List Int) × List api_LinNode × Bool) :=
 (loopO (depend_solver_unit.s1 p1 pb0_0 pb0_1) p3).bind fun z12 =>
 (depend_solver_search p1 p2 pb0_0 pb0_1 pb0_3 b1).bind fun x13 =>
 some (x13.1, x13.2.1, x13.2.2)
def depend_Solve (p0 : api_LinSystem) : Option (api_LinAnswer × Int) :=
 (depend_openBox p0).bind fun x1 =>
 if ¬ x1.2 = 0 then
  none
 else
  (depend_solver_unit x1.1 (p0.Rows.length : Int) 0 p0.Vars p0.Rows false []).bind fun x3 =>
  if ¬ ((x3.1.isEmpty) = true) then
   none
  else
   if x3.2.2 = true then
    none
   else
    some ((api_LinAnswer.mk [] x3.2.1), 0)
def base_Before.F (self105 : (List Int) → (List Int) → Option Bool) (p0 : (List Int)) (p1 : (List Int)) : Option Bool :=
 if (((p0.length : Int) == 0) || ((p1.length : Int) == 0)) = true then
  some (decide ((p0.length : Int) < (p1.length : Int)))
 else
  (at_ p0 0).bind fun x4 =>
  (at_ p1 0).bind fun x5 =>
  if x4 < x5 then
   none
  else
   (at_ p0 0).bind fun x7 =>
   (at_ p1 0).bind fun x8 =>
   if x7 = x8 then
    (cut p0 1 (p0.length : Int)).bind fun x10 =>
    (cut p1 1 (p1.length : Int)).bind fun x11 =>
    (self105 x10 x11).bind fun x12 =>
    some x12
   else
    none
def base_Before.N : Nat → (List Int) → (List Int) → Option Bool
 | 0 => fun _ _ => none
 | n + 1 => base_Before.F (base_Before.N n)
def base_Before (p0 : (List Int)) (p1 : (List Int)) : Option Bool := lim fun n => base_Before.N n p0 p1
def base_Ints (p0 : (List Int)) (p1 : (List Int)) : Option Bool :=
 if (p0.length : Int) = (p1.length : Int) then
  (base_Before p0 p1).bind fun x2 =>
  if ¬ (x2 = true) then
   (base_Before p1 p0).bind fun x4 =>
   some (!x4)
  else
   none
 else
  none
def base_Lists.s1 (p0 : (List (List Int))) (p1 : (List (List Int))) (s1 : Bool × Int) : Option (Sum (Bool × Int) Bool) :=
 if s1.2 < (p0.length : Int) then
  if s1.1 = true then
   (at_ p0 s1.2).bind fun x4 =>
   (at_ p1 s1.2).bind fun x5 =>
   (base_Ints x4 x5).bind fun x6 =>
   some (.inl (x6, (w (s1.2 + 1))))
  else
   none
 else
  some (.inr s1.1)
def base_Lists (p0 : (List (List Int))) (p1 : (List (List Int))) : Option Bool :=
 (loopO (base_Lists.s1 p0 p1) (((p0.length : Int) == (p1.length : Int)), 0)).bind fun z7 =>
 some z7
def law27_awake : Option Bool :=
 (depend_PointsOf law27_Triangle).bind fun x1 =>
 (depend_DependencesOf law27_Triangle law27_Shift (api_DependPair.mk 0 1)).bind fun x2 =>
 (depend_DistancesOf law27_Triangle law27_Shift (api_DependPair.mk 0 1)).bind fun x3 =>
 (depend_CheckProof law27_Far [(api_LinNode.mk 0 [0, 1, 0, 1, 1] 0 0 0 0 0)]).bind fun x4 =>
 (depend_Solve law27_Far).bind fun x5 =>
 if ((x1.2 == 0) && ((x1.1.length : Int) == 10)) = true then
  (at_ x1.1 2).bind fun x9 =>
  (base_Ints x9 [2, 2]).bind fun x10 =>
  if ((x10 && (x2.2 == 0)) && ((x2.1.length : Int) == 1)) = true then
   (at_ x2.1 0).bind fun x16 =>
   (base_Ints x16.Signs [1, 0]).bind fun x17 =>
   if x17 = true then
    (at_ x2.1 0).bind fun x19 =>
    (base_Ints x19.Sink [2, 1]).bind fun x20 =>
    if (x20 && (x3.2 == 0)) = true then
     (base_Lists x3.1 [[1, 0]]).bind fun x24 =>
     some (((((x24 && (x4.2 == 0)) && (x4.1 == 1)) && (x5.2 == 0)) && ((x5.1.Point.length : Int) == 0)) && (decide ((x5.1.Proof.length : Int) > 0)))
    else
     none
   else
    none
  else
   none
 else
  none
def law27_small.s1 (p0 : api_LinSystem) (s2 : Int) : Option (Sum Int (Sum Unit Bool)) :=
 if s2 < (p0.Rows.length : Int) then
  (at_ p0.Rows s2).bind fun x4 =>
  if (x4.Coefs.length : Int) > 10 then
   some (.inr (.inr false))
  else
   some (.inl (w (s2 + 1)))
 else
  some (.inr (.inl ()))
def law27_small (p0 : api_LinSystem) : Option Bool :=
 if (p0.Rows.length : Int) > 62 then
  some false
 else
  (loopO (law27_small.s1 p0) 0).bind fun z6 => match z6 with
  | .inl v7 =>
   some true
  | .inr r8 => some r8
def base_CopyInts (p0 : (List Int)) : Option (List Int) :=
 (mkSl (p0.length : Int) 0).bind fun x1 =>
 some (copied x1 p0)
def ref27_CopySystem.s1 (p0 : api_LinSystem) (s1 : Int × List api_LinRow) : Option (Sum (Int × List api_LinRow) (List api_LinRow)) :=
 if s1.1 < (p0.Rows.length : Int) then
  (at_ p0.Rows s1.1).bind fun x3 =>
  (base_CopyInts x3.Coefs).bind fun x4 =>
  (at_ p0.Rows s1.1).bind fun x5 =>
  (at_ p0.Rows s1.1).bind fun x6 =>
  (app s1.2 ([(api_LinRow.mk x4 x5.Const x6.Equal)] : List api_LinRow)).bind fun x7 =>
  some (.inl ((w (s1.1 + 1)), x7))
 else
  some (.inr s1.2)
def ref27_CopySystem (p0 : api_LinSystem) : Option api_LinSystem :=
 (loopO (ref27_CopySystem.s1 p0) (0, [])).bind fun z8 =>
 some (api_LinSystem.mk p0.Vars z8)
def ref27_CopyProof.s1 (p0 : (List api_LinNode)) (s1 : Int × List api_LinNode) : Option (Sum (Int × List api_LinNode) (List api_LinNode)) :=
 if s1.1 < (p0.length : Int) then
  (at_ p0 s1.1).bind fun x3 =>
  (base_CopyInts x3.Weights).bind fun x4 =>
  (app s1.2 ([(api_LinNode.mk x3.Kind x4 x3.Divisor x3.Var x3.At x3.Left x3.Right)] : List api_LinNode)).bind fun x5 =>
  some (.inl ((w (s1.1 + 1)), x5))
 else
  some (.inr s1.2)
def ref27_CopyProof (p0 : (List api_LinNode)) : Option (List api_LinNode) :=
 (loopO (ref27_CopyProof.s1 p0) (0, [])).bind fun z6 =>
 some z6
def base_Within (p0 : Int) (p1 : Int) (p2 : Int) : Bool :=
 (!((decide (p0 < p1)) || (decide (p0 > p2))))
def ref27_CheckSystem.s2 (p0 : api_LinSystem) (s3 : Int) (s7 : Int) : Option (Sum Int (Sum Unit (Int × Int))) :=
 if s7 < p0.Vars then
  (at_ p0.Rows s3).bind fun x9 =>
  (at_ x9.Coefs s7).bind fun x10 =>
  if ¬ ((base_Within x10 (-1000) 1000) = true) then
   some (.inr (.inr (s3, 2)))
  else
   some (.inl (w (s7 + 1)))
 else
  some (.inr (.inl ()))
def ref27_CheckSystem.s1 (p0 : api_LinSystem) (s3 : Int) : Option (Sum Int (Sum Unit (Int × Int))) :=
 if s3 < (p0.Rows.length : Int) then
  (at_ p0.Rows s3).bind fun x5 =>
  if ¬ (x5.Coefs.length : Int) = p0.Vars then
   some (.inr (.inr (s3, 10)))
  else
   (loopO (ref27_CheckSystem.s2 p0 s3) 0).bind fun z12 => match z12 with
   | .inl v13 =>
    (at_ p0.Rows s3).bind fun x14 =>
    if ¬ ((base_Within x14.Const (-100000) 100000) = true) then
     some (.inr (.inr (s3, 2)))
    else
     some (.inl (w (s3 + 1)))
   | .inr r16 => some (.inr (.inr r16))
 else
  some (.inr (.inl ()))
def ref27_CheckSystem (p0 : api_LinSystem) : Option (Int × Int) :=
 if ¬ ((base_Within p0.Vars 1 8) = true) then
  some (0, 2)
 else
  if (p0.Rows.length : Int) > 60 then
   some (0, 8)
  else
   (loopO (ref27_CheckSystem.s1 p0) 0).bind fun z17 => match z17 with
   | .inl v18 =>
    some (0, 0)
   | .inr r19 => some r19
def ref27_SystemErr (p0 : api_LinSystem) : Option Int :=
 (ref27_CheckSystem p0).bind fun x1 =>
 some x1.2
def ref27_parents.s1 (p0 : (List api_LinNode)) (s3 : Int × List Int) : Option (Sum (Int × List Int) (List Int)) :=
 if s3.1 < (p0.length : Int) then
  (at_ s3.2 s3.1).bind fun x5 =>
  some (.inl ((w (s3.1 + 1)), (s3.2.set s3.1.toNat (-1))))
 else
  some (.inr s3.2)
def ref27_parents.j4 (p0 : (List api_LinNode)) (s7 : Int × List Int × List Int) (s11 : Int × List Int × List Int) (a14 : Int) : Option (Sum (Int × List Int × List Int) (List Int × List Int)) :=
 if (base_Within a14 0 (w ((p0.length : Int) - 1))) = true then
  (at_ s11.2.2 a14).bind fun x16 =>
  (at_ s11.2.1 a14).bind fun x17 =>
  (at_ s11.2.2 a14).bind fun x18 =>
  some (.inl ((w (s11.1 + 1)), (s11.2.1.set a14.toNat s7.1), (s11.2.2.set a14.toNat (w (x16 + 1)))))
 else
  some (.inl ((w (s11.1 + 1)), s11.2.1, s11.2.2))
def ref27_parents.s3 (p0 : (List api_LinNode)) (s7 : Int × List Int × List Int) (s11 : Int × List Int × List Int) : Option (Sum (Int × List Int × List Int) (List Int × List Int)) :=
 if s11.1 < 2 then
  (at_ p0 s7.1).bind fun x13 =>
  if s11.1 = 1 then
   (at_ p0 s7.1).bind fun x15 =>
   ref27_parents.j4 p0 s7 s11 x15.Right
  else
   ref27_parents.j4 p0 s7 s11 x13.Left
 else
  some (.inr (s11.2.1, s11.2.2))
def ref27_parents.s2 (p0 : (List api_LinNode)) (s7 : Int × List Int × List Int) : Option (Sum (Int × List Int × List Int) (List Int × List Int)) :=
 if s7.1 < (p0.length : Int) then
  (at_ p0 s7.1).bind fun x9 =>
  if ¬ x9.Kind = 2 then
   some (.inl ((w (s7.1 + 1)), s7.2.1, s7.2.2))
  else
   (loopO (ref27_parents.s3 p0 s7) (0, s7.2.1, s7.2.2)).bind fun z19 =>
   some (.inl ((w (s7.1 + 1)), z19.1, z19.2))
 else
  some (.inr (s7.2.1, s7.2.2))
def ref27_parents (p0 : (List api_LinNode)) : Option ((List Int) × (List Int)) :=
 (mkSl (p0.length : Int) 0).bind fun x1 =>
 (mkSl (p0.length : Int) 0).bind fun x2 =>
 (loopO (ref27_parents.s1 p0) (0, x1)).bind fun z6 =>
 (loopO (ref27_parents.s2 p0) (0, z6, x2)).bind fun z21 =>
 some (z21.1, z21.2)
def ref27_formErr (p0 : api_LinNode) : Int :=
 if p0.Kind = 0 then
  if (((((p0.Divisor != 0) || (p0.Var != 0)) || (p0.At != 0)) || (p0.Left != 0)) || (p0.Right != 0)) = true then
   3
  else
   0
 else
  if p0.Kind = 1 then
   if ((((p0.Var != 0) || (p0.At != 0)) || (p0.Left != 0)) || (p0.Right != 0)) = true then
    3
   else
    0
  else
   if p0.Kind = 2 then
    if ((decide ((p0.Weights.length : Int) > 0)) || (p0.Divisor != 0)) = true then
     3
    else
     0
   else
    15
def ref27_known.F (self118 : api_LinSystem → (List api_LinNode) → (List Int) → Int → Option (List api_LinRow)) (p0 : api_LinSystem) (p1 : (List api_LinNode)) (p2 : (List Int)) (p3 : Int) : Option (List api_LinRow) :=
 (at_ p2 p3).bind fun x1 =>
 if x1 < 0 then
  (app ([] : List api_LinRow) p0.Rows).bind fun x3 =>
  some x3
 else
  (at_ p2 p3).bind fun x4 =>
  (at_ p1 x4).bind fun x5 =>
  (at_ p2 p3).bind fun x6 =>
  (self118 p0 p1 p2 x6).bind fun x7 =>
  (mkSl p0.Vars 0).bind fun x8 =>
  (at_ x8 x5.Var).bind fun x9 =>
  if x5.Right = p3 then
   (at_ (x8.set x5.Var.toNat (-1)) x5.Var).bind fun x11 =>
   (app x7 ([(api_LinRow.mk ((x8.set x5.Var.toNat (-1)).set x5.Var.toNat 1) (w ((w (0 - x5.At)) - 1)) false)] : List api_LinRow)).bind fun x12 =>
   some x12
  else
   (app x7 ([(api_LinRow.mk (x8.set x5.Var.toNat (-1)) x5.At false)] : List api_LinRow)).bind fun x13 =>
   some x13
def ref27_known.N : Nat → api_LinSystem → (List api_LinNode) → (List Int) → Int → Option (List api_LinRow)
 | 0 => fun _ _ _ _ => none
 | n + 1 => ref27_known.F (ref27_known.N n)
def ref27_known (p0 : api_LinSystem) (p1 : (List api_LinNode)) (p2 : (List Int)) (p3 : Int) : Option (List api_LinRow) := lim fun n => ref27_known.N n p0 p1 p2 p3
def ref27_right.s2 (p0 : api_LinSystem) (x3 : (List api_LinRow)) (s6 : Int × Int × List Int) (x8 : Int) (s17 : Int × List Int) : Option (Sum (Int × List Int) (List Int)) :=
 if s17.1 < p0.Vars then
  (at_ s17.2 s17.1).bind fun x19 =>
  (at_ x3 s6.1).bind fun x20 =>
  (at_ x20.Coefs s17.1).bind fun x21 =>
  (at_ s17.2 s17.1).bind fun x22 =>
  some (.inl ((w (s17.1 + 1)), (s17.2.set s17.1.toNat (w (x19 + (w (x8 * x21)))))))
 else
  some (.inr s17.2)
def ref27_right.s1 (p0 : api_LinSystem) (x1 : api_LinNode) (x3 : (List api_LinRow)) (s6 : Int × Int × List Int) : Option (Sum (Int × Int × List Int) (Sum (Int × List Int) Bool)) :=
 if s6.1 < (x3.length : Int) then
  (at_ x1.Weights s6.1).bind fun x8 =>
  (at_ x3 s6.1).bind fun x9 =>
  if ((!x9.Equal) && ((decide (x8 < 0)) || ((x1.Kind == 1) && (x8 != 0)))) = true then
   some (.inr (.inr false))
  else
   (loopO (ref27_right.s2 p0 x3 s6 x8) (0, s6.2.2)).bind fun z23 =>
   (at_ x3 s6.1).bind fun x24 =>
   some (.inl ((w (s6.1 + 1)), (w (s6.2.1 + (w (x8 * x24.Const)))), z23))
 else
  some (.inr (.inl (s6.2.1, s6.2.2)))
def ref27_right.s3 (p0 : api_LinSystem) (x1 : api_LinNode) (v27 : Int × List Int) (s31 : Int) : Option (Sum Int (Sum Unit Bool)) :=
 if s31 < p0.Vars then
  if x1.Kind = 0 then
   (at_ v27.2 s31).bind fun x34 =>
   if ¬ x34 = 0 then
    some (.inr (.inr false))
   else
    if x1.Kind = 1 then
     (at_ v27.2 s31).bind fun x37 =>
     (rem x37 x1.Divisor).bind fun x38 =>
     if ¬ x38 = 0 then
      some (.inr (.inr false))
     else
      some (.inl (w (s31 + 1)))
    else
     some (.inl (w (s31 + 1)))
  else
   if x1.Kind = 1 then
    (at_ v27.2 s31).bind fun x41 =>
    (rem x41 x1.Divisor).bind fun x42 =>
    if ¬ x42 = 0 then
     some (.inr (.inr false))
    else
     some (.inl (w (s31 + 1)))
   else
    some (.inl (w (s31 + 1)))
 else
  some (.inr (.inl ()))
def ref27_right (p0 : api_LinSystem) (p1 : (List api_LinNode)) (p2 : (List Int)) (p3 : Int) : Option Bool :=
 (at_ p1 p3).bind fun x1 =>
 if x1.Kind = 2 then
  some (base_Within x1.Var 0 (w (p0.Vars - 1)))
 else
  (ref27_known p0 p1 p2 p3).bind fun x3 =>
  if ¬ (x1.Weights.length : Int) = (x3.length : Int) then
   some false
  else
   (mkSl p0.Vars 0).bind fun x5 =>
   (loopO (ref27_right.s1 p0 x1 x3) (0, 0, x5)).bind fun z26 => match z26 with
   | .inl v27 =>
    if ((x1.Kind == 1) && (decide (x1.Divisor < 2))) = true then
     some false
    else
     (loopO (ref27_right.s3 p0 x1 v27) 0).bind fun z44 => match z44 with
     | .inl v45 =>
      if ((x1.Kind == 0) && (decide (v27.1 < 0))) = true then
       some true
      else
       if x1.Kind = 1 then
        (rem v27.1 x1.Divisor).bind fun x50 =>
        some (x50 != 0)
       else
        some false
     | .inr r51 => some r51
   | .inr r52 => some r52
def ref27_CheckProof.j2 (x5 : (List Int) × (List Int)) (s6 : Int) (a10 : Unit) : Option (Sum Int (Sum Unit (Int × Int))) :=
 if s6 > 0 then
  (at_ x5.2 s6).bind fun x12 =>
  if ¬ x12 = 1 then
   some (.inr (.inr (s6, 19)))
  else
   some (.inl (w (s6 + 1)))
 else
  some (.inl (w (s6 + 1)))
def ref27_CheckProof.s1 (p1 : (List api_LinNode)) (x5 : (List Int) × (List Int)) (s6 : Int) : Option (Sum Int (Sum Unit (Int × Int))) :=
 if s6 < (p1.length : Int) then
  (at_ p1 s6).bind fun x8 =>
  if ¬ (ref27_formErr x8) = 0 then
   some (.inr (.inr (s6, (ref27_formErr x8))))
  else
   (at_ p1 s6).bind fun x10 =>
   if x10.Kind = 2 then
    (at_ p1 s6).bind fun x12 =>
    if ¬ ((base_Within x12.Left (w (s6 + 1)) (w ((p1.length : Int) - 1))) = true) then
     some (.inr (.inr (s6, 2)))
    else
     (at_ p1 s6).bind fun x14 =>
     if ¬ ((base_Within x14.Right (w (s6 + 1)) (w ((p1.length : Int) - 1))) = true) then
      some (.inr (.inr (s6, 2)))
     else
      ref27_CheckProof.j2 x5 s6 ()
   else
    ref27_CheckProof.j2 x5 s6 ()
 else
  some (.inr (.inl ()))
def ref27_CheckProof.s4 (p1 : (List api_LinNode)) (s18 : Int) (s20 : Int) : Option (Sum Int (Sum Unit (Int × Int))) :=
 (at_ p1 s18).bind fun x21 =>
 if s20 < (x21.Weights.length : Int) then
  (at_ p1 s18).bind fun x23 =>
  (at_ x23.Weights s20).bind fun x24 =>
  if ¬ ((base_Within x24 (-1000000) 1000000) = true) then
   some (.inr (.inr (s18, 2)))
  else
   some (.inl (w (s20 + 1)))
 else
  some (.inr (.inl ()))
def ref27_CheckProof.s3 (p0 : api_LinSystem) (p1 : (List api_LinNode)) (x5 : (List Int) × (List Int)) (s18 : Int) : Option (Sum Int (Sum Unit (Int × Int))) :=
 if s18 < (p1.length : Int) then
  (loopO (ref27_CheckProof.s4 p1 s18) 0).bind fun z26 => match z26 with
  | .inl v27 =>
   (at_ p1 s18).bind fun x28 =>
   if ¬ ((base_Within x28.At (-100000) 100000) = true) then
    some (.inr (.inr (s18, 2)))
   else
    (ref27_right p0 p1 x5.1 s18).bind fun x30 =>
    if ¬ (x30 = true) then
     some (.inr (.inr (s18, 19)))
    else
     some (.inl (w (s18 + 1)))
  | .inr r32 => some (.inr (.inr r32))
 else
  some (.inr (.inl ()))
def ref27_CheckProof (p0 : api_LinSystem) (p1 : (List api_LinNode)) : Option (Int × Int) :=
 (ref27_SystemErr p0).bind fun x1 =>
 if ¬ x1 = 0 then
  some (0, x1)
 else
  if (p1.length : Int) = 0 then
   some (0, 17)
  else
   if (p1.length : Int) > 4000 then
    some (0, 8)
   else
    (ref27_parents p1).bind fun x5 =>
    (loopO (ref27_CheckProof.s1 p1 x5) 0).bind fun z16 => match z16 with
    | .inl v17 =>
     (loopO (ref27_CheckProof.s3 p0 p1 x5) 0).bind fun z33 => match z33 with
     | .inl v34 =>
      some ((p1.length : Int), 0)
     | .inr r35 => some r35
    | .inr r36 => some r36
def depend_Holds_c1 (p0 : Int) : Bool :=
 (!(depend_inside p0 (-100000) 100000))
def slices_IndexFunc_int__depend_Holds_c1.s1 (p0 : (List Int)) (s1 : Int) : Option (Sum Int (Sum Unit Int)) :=
 if s1 < (p0.length : Int) then
  (at_ p0 s1).bind fun x3 =>
  if (depend_Holds_c1 x3) = true then
   some (.inr (.inr s1))
  else
   some (.inl (w (s1 + 1)))
 else
  some (.inr (.inl ()))
def slices_IndexFunc_int__depend_Holds_c1 (p0 : (List Int)) : Option Int :=
 (loopO (slices_IndexFunc_int__depend_Holds_c1.s1 p0) 0).bind fun z5 => match z5 with
 | .inl v6 =>
  some (-1)
 | .inr r7 => some r7
def slices_ContainsFunc_int__depend_Holds_c1 (p0 : (List Int)) : Option Bool :=
 (slices_IndexFunc_int__depend_Holds_c1 p0).bind fun x1 =>
 some (decide (x1 ≥ 0))
def depend_at.s1 (p0 : api_LinRow) (p1 : (List Int)) (s1 : Int × Int) : Option (Sum (Int × Int) Int) :=
 if s1.2 < (p0.Coefs.length : Int) then
  (at_ p0.Coefs s1.2).bind fun x3 =>
  (at_ p1 s1.2).bind fun x4 =>
  some (.inl ((w (s1.1 + (w (x3 * x4)))), (w (s1.2 + 1))))
 else
  some (.inr s1.1)
def depend_at (p0 : api_LinRow) (p1 : (List Int)) : Option Int :=
 (loopO (depend_at.s1 p0 p1) (p0.Const, 0)).bind fun z5 =>
 some z5
def depend_Holds_c2 (p0 : api_LinRow) (p1 : (List Int)) : Option Bool :=
 (depend_at p0 p1).bind fun x1 =>
 some ((decide (x1 < 0)) || (p0.Equal && (decide (x1 > 0))))
def slices_IndexFunc_api_LinRow__depend_Holds_c2.s1 (p0 : (List api_LinRow)) (p1_0 : (List Int)) (s1 : Int) : Option (Sum Int (Sum Unit Int)) :=
 if s1 < (p0.length : Int) then
  (at_ p0 s1).bind fun x3 =>
  (depend_Holds_c2 x3 p1_0).bind fun x4 =>
  if x4 = true then
   some (.inr (.inr s1))
  else
   some (.inl (w (s1 + 1)))
 else
  some (.inr (.inl ()))
def slices_IndexFunc_api_LinRow__depend_Holds_c2 (p0 : (List api_LinRow)) (p1_0 : (List Int)) : Option Int :=
 (loopO (slices_IndexFunc_api_LinRow__depend_Holds_c2.s1 p0 p1_0) 0).bind fun z6 => match z6 with
 | .inl v7 =>
  some (-1)
 | .inr r8 => some r8
def slices_ContainsFunc_api_LinRow__depend_Holds_c2 (p0 : (List api_LinRow)) (p1_0 : (List Int)) : Option Bool :=
 (slices_IndexFunc_api_LinRow__depend_Holds_c2 p0 p1_0).bind fun x1 =>
 some (decide (x1 ≥ 0))
def depend_Holds (p0 : api_LinSystem) (p1 : (List Int)) : Option (Bool × Int) :=
 (slices_ContainsFunc_int__depend_Holds_c1 p1).bind fun x1 =>
 (depend_systemErr p0).bind fun x2 =>
 (depend_broken [(depend_rule.mk ((p1.length : Int) == p0.Vars) 10), (depend_rule.mk (!x1) 2)]).bind fun x3 =>
 (cmp_Or_api_Errno [x2, x3]).bind fun x4 =>
 if ¬ x4 = 0 then
  some (false, x4)
 else
  (slices_ContainsFunc_api_LinRow__depend_Holds_c2 p0.Rows p1).bind fun x6 =>
  some ((!x6), 0)
def law27_DependProofs.s1 (p1 : (List api_LinNode)) (s9 : Int) : Option (Sum Int (Sum Unit Bool)) :=
 if s9 < (p1.length : Int) then
  (at_ p1 s9).bind fun x11 =>
  if (x11.Weights.length : Int) > 90 then
   some (.inr (.inr true))
  else
   some (.inl (w (s9 + 1)))
 else
  some (.inr (.inl ()))
def law27_DependProofs (p0 : api_LinSystem) (p1 : (List api_LinNode)) (p2 : (List Int)) : Option Bool :=
 (law27_awake).bind fun x1 =>
 if ¬ (x1 = true) then
  some false
 else
  (law27_small p0).bind fun x3 =>
  if (((!x3) || (decide ((p1.length : Int) > 30))) || (decide ((p2.length : Int) > 10))) = true then
   some true
  else
   (loopO (law27_DependProofs.s1 p1) 0).bind fun z13 => match z13 with
   | .inl v14 =>
    (ref27_CopySystem p0).bind fun x15 =>
    (ref27_CopyProof p1).bind fun x16 =>
    (depend_CheckProof x15 x16).bind fun x17 =>
    (ref27_CheckProof p0 p1).bind fun x18 =>
    if ¬ x18.2 = 0 then
     some ((x17.2 == x18.2) && (x17.1 == x18.1))
    else
     if ((x17.2 != 0) || (x17.1 != x18.1)) = true then
      some false
     else
      (ref27_CopySystem p0).bind fun x25 =>
      (base_CopyInts p2).bind fun x26 =>
      (depend_Holds x25 x26).bind fun x27 =>
      some ((x27.2 != 0) || (!x27.1))
   | .inr r30 => some r30
end Go.Sh
