/- Functions of the program in plain form: printed by a program of this session. Not trusted: the walks show that the program does what they say. -/
import Derived.Test.YtndpfldakcdbiaaKit4
set_option linter.all false
namespace Go.Sh
open Go.Lx
set_option linter.unusedVariables false
structure api_Bound where
  Low : Int
  High : Int
  deriving DecidableEq
structure api_Array where
  Bounds : (List api_Bound)
  Elements : (List Int)
  deriving DecidableEq
structure shapes_rule where
  holds : Bool
  code : Int
  deriving DecidableEq
structure api_Subscript where
  Kind : Int
  Low : Int
  High : Int
  Step : Int
  List : (List Int)
  deriving DecidableEq
structure api_Section where
  Extents : (List Int)
  Offsets : (List Int)
  ManyOne : Bool
  deriving DecidableEq
structure api_Reshape where
  Shape : (List Int)
  Order : (List Int)
  Pad : (List Int)
  deriving DecidableEq
def law15_Example : api_Array :=
  (api_Array.mk [(api_Bound.mk 1 2), (api_Bound.mk 0 2)] [1, 2, 3, 4, 5, 6])
def shapes_inside (p0 : Int) (p1 : Int) (p2 : Int) : Bool :=
  ((decide (p0 ≥ p1)) && (decide (p0 ≤ p2)))
def shapes_isNumber (p0 : Int) : Bool :=
  (shapes_inside p0 (-2147483647) 2147483647)
def shapes_boundsErr_c1 (p0 : api_Bound) : Bool :=
  ((!(shapes_isNumber p0.Low)) || (!(shapes_isNumber p0.High)))
def slices_IndexFunc_api_Bound__shapes_boundsErr_c1.s1 (p0 : (List api_Bound)) (s1 : Int) : Option (Sum Int (Sum Unit Int)) :=
  if s1 < (p0.length : Int) then
    (at_ p0 s1).bind fun x3 =>
    if (shapes_boundsErr_c1 x3) = true then
      some (.inr (.inr s1))
    else
      some (.inl (w (s1 + 1)))
  else
    some (.inr (.inl ()))
def slices_IndexFunc_api_Bound__shapes_boundsErr_c1 (p0 : (List api_Bound)) : Option Int :=
  (loopO (slices_IndexFunc_api_Bound__shapes_boundsErr_c1.s1 p0) 0).bind fun z5 => match z5 with
  | .inl v6 =>
    some (-1)
  | .inr r7 => some r7
def slices_ContainsFunc_api_Bound__shapes_boundsErr_c1 (p0 : (List api_Bound)) : Option Bool :=
  (slices_IndexFunc_api_Bound__shapes_boundsErr_c1 p0).bind fun x1 =>
  some (decide (x1 ≥ 0))
def shapes_extent (p0 : api_Bound) : Int :=
  (mx 0 (w ((w (p0.High - p0.Low)) + 1)))
def shapes_boundsErr_c2 (p0 : api_Bound) : Bool :=
  (decide ((shapes_extent p0) > 512))
def slices_IndexFunc_api_Bound__shapes_boundsErr_c2.s1 (p0 : (List api_Bound)) (s1 : Int) : Option (Sum Int (Sum Unit Int)) :=
  if s1 < (p0.length : Int) then
    (at_ p0 s1).bind fun x3 =>
    if (shapes_boundsErr_c2 x3) = true then
      some (.inr (.inr s1))
    else
      some (.inl (w (s1 + 1)))
  else
    some (.inr (.inl ()))
def slices_IndexFunc_api_Bound__shapes_boundsErr_c2 (p0 : (List api_Bound)) : Option Int :=
  (loopO (slices_IndexFunc_api_Bound__shapes_boundsErr_c2.s1 p0) 0).bind fun z5 => match z5 with
  | .inl v6 =>
    some (-1)
  | .inr r7 => some r7
def slices_ContainsFunc_api_Bound__shapes_boundsErr_c2 (p0 : (List api_Bound)) : Option Bool :=
  (slices_IndexFunc_api_Bound__shapes_boundsErr_c2 p0).bind fun x1 =>
  some (decide (x1 ≥ 0))
def shapes_extents.s1 (p0 : (List api_Bound)) (s1 : Int × List Int) : Option (Sum (Int × List Int) (List Int)) :=
  if s1.1 < (p0.length : Int) then
    (at_ p0 s1.1).bind fun x3 =>
    (app s1.2 ([(shapes_extent x3)] : List Int)).bind fun x4 =>
    some (.inl ((w (s1.1 + 1)), x4))
  else
    some (.inr s1.2)
def shapes_extents (p0 : (List api_Bound)) : Option (List Int) :=
  (loopO (shapes_extents.s1 p0) (0, [])).bind fun z5 =>
  some z5
def slices_Index_int.s1 (p0 : (List Int)) (p1 : Int) (s1 : Int) : Option (Sum Int (Sum Unit Int)) :=
  if s1 < (p0.length : Int) then
    (at_ p0 s1).bind fun x3 =>
    if p1 = x3 then
      some (.inr (.inr s1))
    else
      some (.inl (w (s1 + 1)))
  else
    some (.inr (.inl ()))
def slices_Index_int (p0 : (List Int)) (p1 : Int) : Option Int :=
  (loopO (slices_Index_int.s1 p0 p1) 0).bind fun z5 => match z5 with
  | .inl v6 =>
    some (-1)
  | .inr r7 => some r7
def slices_Contains_int (p0 : (List Int)) (p1 : Int) : Option Bool :=
  (slices_Index_int p0 p1).bind fun x1 =>
  some (decide (x1 ≥ 0))
def shapes_product.s1 (p0 : (List Int)) (s1 : Int × Int) : Option (Sum (Int × Int) Int) :=
  if s1.2 < (p0.length : Int) then
    (at_ p0 s1.2).bind fun x3 =>
    some (.inl ((mn (w (s1.1 * (mn x3 513))) 513), (w (s1.2 + 1))))
  else
    some (.inr s1.1)
def shapes_product (p0 : (List Int)) : Option Int :=
  (loopO (shapes_product.s1 p0) (1, 0)).bind fun z4 =>
  (slices_Contains_int p0 0).bind fun x5 =>
  if x5 = true then
    some 0
  else
    some z4
def shapes_size (p0 : (List api_Bound)) : Option Int :=
  (shapes_extents p0).bind fun x1 =>
  (shapes_product x1).bind fun x2 =>
  some x2
def shapes_broken.s1 (p0 : (List shapes_rule)) (s1 : Int) : Option (Sum Int (Sum Unit Int)) :=
  if s1 < (p0.length : Int) then
    (at_ p0 s1).bind fun x3 =>
    if ¬ (x3.holds = true) then
      some (.inr (.inr x3.code))
    else
      some (.inl (w (s1 + 1)))
  else
    some (.inr (.inl ()))
def shapes_broken (p0 : (List shapes_rule)) : Option Int :=
  (loopO (shapes_broken.s1 p0) 0).bind fun z5 => match z5 with
  | .inl v6 =>
    some 0
  | .inr r7 => some r7
def shapes_boundsErr (p0 : (List api_Bound)) : Option Int :=
  if (p0.length : Int) > 7 then
    some 32
  else
    (slices_ContainsFunc_api_Bound__shapes_boundsErr_c1 p0).bind fun x2 =>
    if x2 = true then
      some 2
    else
      (slices_ContainsFunc_api_Bound__shapes_boundsErr_c2 p0).bind fun x4 =>
      if ¬ (x4 = true) then
        (shapes_size p0).bind fun x6 =>
        (shapes_broken [(shapes_rule.mk (decide (x6 ≤ 512)) 8)]).bind fun x7 =>
        some x7
      else
        (shapes_broken [(shapes_rule.mk false 8)]).bind fun x8 =>
        some x8
def cmp_Or_api_Errno.s1 (p0 : (List Int)) (s1 : Int) : Option (Sum Int (Sum Unit Int)) :=
  if s1 < (p0.length : Int) then
    (at_ p0 s1).bind fun x3 =>
    if ¬ x3 = 0 then
      some (.inr (.inr x3))
    else
      some (.inl (w (s1 + 1)))
  else
    some (.inr (.inl ()))
def cmp_Or_api_Errno (p0 : (List Int)) : Option Int :=
  (loopO (cmp_Or_api_Errno.s1 p0) 0).bind fun z5 => match z5 with
  | .inl v6 =>
    some 0
  | .inr r7 => some r7
def shapes_strides.s1 (p0 : (List Int)) (s1 : Int × Int × List Int) : Option (Sum (Int × Int × List Int) (List Int)) :=
  if s1.2.1 < (p0.length : Int) then
    (at_ p0 s1.2.1).bind fun x3 =>
    (app s1.2.2 ([s1.1] : List Int)).bind fun x4 =>
    some (.inl ((w (s1.1 * x3)), (w (s1.2.1 + 1)), x4))
  else
    some (.inr s1.2.2)
def shapes_strides (p0 : (List Int)) : Option (List Int) :=
  (loopO (shapes_strides.s1 p0) (1, 0, [])).bind fun z5 =>
  some z5
def shapes_OffsetOf.s1 (p0 : (List api_Bound)) (p1 : (List Int)) (x6 : (List Int)) (s7 : Int × Int) : Option (Sum (Int × Int) (Sum Int (Int × Int))) :=
  if s7.2 < (p1.length : Int) then
    (at_ p1 s7.2).bind fun x9 =>
    (at_ p0 s7.2).bind fun x10 =>
    (at_ p0 s7.2).bind fun x11 =>
    if ¬ ((shapes_inside x9 x10.Low x11.High) = true) then
      some (.inr (.inr (0, 33)))
    else
      (at_ x6 s7.2).bind fun x13 =>
      (at_ p0 s7.2).bind fun x14 =>
      some (.inl ((w (s7.1 + (w (x13 * (w (x9 - x14.Low)))))), (w (s7.2 + 1))))
  else
    some (.inr (.inl s7.1))
def shapes_OffsetOf (p0 : (List api_Bound)) (p1 : (List Int)) : Option (Int × Int) :=
  (shapes_boundsErr p0).bind fun x1 =>
  (shapes_broken [(shapes_rule.mk ((p1.length : Int) == (p0.length : Int)) 32)]).bind fun x2 =>
  (cmp_Or_api_Errno [x1, x2]).bind fun x3 =>
  if ¬ x3 = 0 then
    some (0, x3)
  else
    (shapes_extents p0).bind fun x5 =>
    (shapes_strides x5).bind fun x6 =>
    (loopO (shapes_OffsetOf.s1 p0 p1 x6) (0, 0)).bind fun z15 => match z15 with
    | .inl v16 =>
      some (v16, 0)
    | .inr r17 => some r17
def law15_Range (p0 : Int) (p1 : Int) (p2 : Int) : api_Subscript :=
  (api_Subscript.mk 1 p0 p1 p2 [])
def law15_Index (p0 : Int) : api_Subscript :=
  (api_Subscript.mk 0 p0 0 0 [])
def shapes_isInteger (p0 : Int) : Bool :=
  (shapes_inside p0 (-2147483648) 2147483647)
def shapes_CheckArray_c1 (p0 : Int) (p1 : Int) : Option Int :=
  (shapes_broken [(shapes_rule.mk (shapes_isInteger p1) 2)]).bind fun x1 =>
  some x1
def shapes_firstBad_int__shapes_CheckArray_c1.s1 (p0 : (List Int)) (s1 : Int) : Option (Sum Int (Sum Unit (Int × Int))) :=
  if s1 < (p0.length : Int) then
    (at_ p0 s1).bind fun x3 =>
    (shapes_CheckArray_c1 s1 x3).bind fun x4 =>
    if ¬ x4 = 0 then
      some (.inr (.inr (s1, x4)))
    else
      some (.inl (w (s1 + 1)))
  else
    some (.inr (.inl ()))
def shapes_firstBad_int__shapes_CheckArray_c1 (p0 : (List Int)) : Option (Int × Int) :=
  (loopO (shapes_firstBad_int__shapes_CheckArray_c1.s1 p0) 0).bind fun z6 => match z6 with
  | .inl v7 =>
    some (0, 0)
  | .inr r8 => some r8
def shapes_CheckArray (p0 : api_Array) : Option (Int × Int) :=
  (shapes_boundsErr p0.Bounds).bind fun x1 =>
  if ¬ x1 = 0 then
    some (0, x1)
  else
    (shapes_size p0.Bounds).bind fun x3 =>
    if ¬ (p0.Elements.length : Int) = x3 then
      some (0, 10)
    else
      (shapes_firstBad_int__shapes_CheckArray_c1 p0.Elements).bind fun x5 =>
      some (x5.1, x5.2)
def shapes_arraysErr.s1 (p0 : (List api_Array)) (s1 : Int) : Option (Sum Int (Sum Unit Int)) :=
  if s1 < (p0.length : Int) then
    (at_ p0 s1).bind fun x3 =>
    (shapes_CheckArray x3).bind fun x4 =>
    if ¬ x4.2 = 0 then
      some (.inr (.inr x4.2))
    else
      some (.inl (w (s1 + 1)))
  else
    some (.inr (.inl ()))
def shapes_arraysErr (p0 : (List api_Array)) : Option Int :=
  (loopO (shapes_arraysErr.s1 p0) 0).bind fun z6 => match z6 with
  | .inl v7 =>
    some 0
  | .inr r8 => some r8
def shapes_subscriptErr (p0 : api_Subscript) : Option Int :=
  if ¬ ((shapes_inside p0.Kind 0 2) = true) then
    some 15
  else
    if ¬ (p0.Kind = 1) then
      if (shapes_isNumber p0.Low) = true then
        if (shapes_isNumber p0.High) = true then
          (shapes_broken [(shapes_rule.mk ((((p0.Kind != 2) || (p0.Low == 0)) && ((p0.Kind == 1) || ((p0.High == 0) && (p0.Step == 0)))) && ((p0.Kind == 2) || ((p0.List.length : Int) == 0))) 3), (shapes_rule.mk true 11), (shapes_rule.mk (shapes_isNumber p0.Step) 2)]).bind fun x17 =>
          some x17
        else
          (shapes_broken [(shapes_rule.mk ((((p0.Kind != 2) || (p0.Low == 0)) && ((p0.Kind == 1) || ((p0.High == 0) && (p0.Step == 0)))) && ((p0.Kind == 2) || ((p0.List.length : Int) == 0))) 3), (shapes_rule.mk true 11), (shapes_rule.mk false 2)]).bind fun x18 =>
          some x18
      else
        (shapes_broken [(shapes_rule.mk ((((p0.Kind != 2) || (p0.Low == 0)) && ((p0.Kind == 1) || ((p0.High == 0) && (p0.Step == 0)))) && ((p0.Kind == 2) || ((p0.List.length : Int) == 0))) 3), (shapes_rule.mk true 11), (shapes_rule.mk false 2)]).bind fun x19 =>
        some x19
    else
      if (shapes_isNumber p0.Low) = true then
        if (shapes_isNumber p0.High) = true then
          (shapes_broken [(shapes_rule.mk ((((p0.Kind != 2) || (p0.Low == 0)) && ((p0.Kind == 1) || ((p0.High == 0) && (p0.Step == 0)))) && ((p0.Kind == 2) || ((p0.List.length : Int) == 0))) 3), (shapes_rule.mk (p0.Step != 0) 11), (shapes_rule.mk (shapes_isNumber p0.Step) 2)]).bind fun x22 =>
          some x22
        else
          (shapes_broken [(shapes_rule.mk ((((p0.Kind != 2) || (p0.Low == 0)) && ((p0.Kind == 1) || ((p0.High == 0) && (p0.Step == 0)))) && ((p0.Kind == 2) || ((p0.List.length : Int) == 0))) 3), (shapes_rule.mk (p0.Step != 0) 11), (shapes_rule.mk false 2)]).bind fun x23 =>
          some x23
      else
        (shapes_broken [(shapes_rule.mk ((((p0.Kind != 2) || (p0.Low == 0)) && ((p0.Kind == 1) || ((p0.High == 0) && (p0.Step == 0)))) && ((p0.Kind == 2) || ((p0.List.length : Int) == 0))) 3), (shapes_rule.mk (p0.Step != 0) 11), (shapes_rule.mk false 2)]).bind fun x24 =>
        some x24
def shapes_count (p0 : api_Subscript) : Option Int :=
  if p0.Step > 0 then
    (quo .i64 (w ((w (p0.High - p0.Low)) + p0.Step)) p0.Step).bind fun x2 =>
    some (mx 0 x2)
  else
    (quo .i64 (w ((w (p0.Low - p0.High)) - p0.Step)) (w (0 - p0.Step))).bind fun x3 =>
    some (mx 0 x3)
def slices_Clone_int (p0 : (List Int)) : Option (List Int) :=
  (app ([] : List Int) p0).bind fun x1 =>
  some x1
def shapes_indexes_c1 (p0 : Int) (p1 : api_Bound) : Bool :=
  (!(shapes_inside p0 p1.Low p1.High))
def slices_IndexFunc_int__shapes_indexes_c1.s1 (p0 : (List Int)) (p1_0 : api_Bound) (s1 : Int) : Option (Sum Int (Sum Unit Int)) :=
  if s1 < (p0.length : Int) then
    (at_ p0 s1).bind fun x3 =>
    if (shapes_indexes_c1 x3 p1_0) = true then
      some (.inr (.inr s1))
    else
      some (.inl (w (s1 + 1)))
  else
    some (.inr (.inl ()))
def slices_IndexFunc_int__shapes_indexes_c1 (p0 : (List Int)) (p1_0 : api_Bound) : Option Int :=
  (loopO (slices_IndexFunc_int__shapes_indexes_c1.s1 p0 p1_0) 0).bind fun z5 => match z5 with
  | .inl v6 =>
    some (-1)
  | .inr r7 => some r7
def slices_ContainsFunc_int__shapes_indexes_c1 (p0 : (List Int)) (p1_0 : api_Bound) : Option Bool :=
  (slices_IndexFunc_int__shapes_indexes_c1 p0 p1_0).bind fun x1 =>
  some (decide (x1 ≥ 0))
def shapes_indexes.j1 (p0 : api_Bound) (a3 : (List Int)) : Option ((List Int) × Int) :=
  (slices_ContainsFunc_int__shapes_indexes_c1 a3 p0).bind fun x4 =>
  if x4 = true then
    some (([] : List Int), 33)
  else
    some (a3, 0)
def shapes_indexes.s2 (p1 : api_Subscript) (x5 : Int) (s7 : Int × List Int) : Option (Sum (Int × List Int) (List Int)) :=
  if s7.1 < x5 then
    (app s7.2 ([(w (p1.Low + (w (s7.1 * p1.Step))))] : List Int)).bind fun x9 =>
    some (.inl ((w (s7.1 + 1)), x9))
  else
    some (.inr s7.2)
def shapes_indexes (p0 : api_Bound) (p1 : api_Subscript) : Option ((List Int) × Int) :=
  (shapes_subscriptErr p1).bind fun x1 =>
  if ¬ x1 = 0 then
    some (([] : List Int), x1)
  else
    if p1.Kind = 0 then
      shapes_indexes.j1 p0 [p1.Low]
    else
      if p1.Kind = 1 then
        (shapes_count p1).bind fun x5 =>
        if x5 > 512 then
          some (([] : List Int), 8)
        else
          (loopO (shapes_indexes.s2 p1 x5) (0, [])).bind fun z10 =>
          shapes_indexes.j1 p0 z10
      else
        if (p1.List.length : Int) > 512 then
          some (([] : List Int), 8)
        else
          (slices_Clone_int p1.List).bind fun x13 =>
          shapes_indexes.j1 p0 x13
def shapes_digits.s1 (p0 : (List Int)) (s1 : Int × Int × List Int) : Option (Sum (Int × Int × List Int) (List Int)) :=
  if s1.2.1 < (p0.length : Int) then
    (at_ p0 s1.2.1).bind fun x3 =>
    (rem s1.1 x3).bind fun x4 =>
    (app s1.2.2 ([x4] : List Int)).bind fun x5 =>
    (quo .i64 s1.1 x3).bind fun x6 =>
    some (.inl (x6, (w (s1.2.1 + 1)), x5))
  else
    some (.inr s1.2.2)
def shapes_digits (p0 : (List Int)) (p1 : Int) : Option (List Int) :=
  (loopO (shapes_digits.s1 p0) (p1, 0, [])).bind fun z7 =>
  some z7
def shapes_section.s1 (p0 : (List api_Bound)) (p1 : (List api_Subscript)) (s2 : Int × List Int × List (List Int) × List Int) : Option (Sum (Int × List Int × List (List Int) × List Int) (Sum (List Int × List (List Int) × List Int) (api_Section × Int))) :=
  if s2.1 < (p1.length : Int) then
    (at_ p1 s2.1).bind fun x4 =>
    (at_ p0 s2.1).bind fun x5 =>
    (shapes_indexes x5 x4).bind fun x6 =>
    if ¬ x6.2 = 0 then
      some (.inr (.inr ((api_Section.mk [] [] false), x6.2)))
    else
      (app s2.2.2.1 ([x6.1] : List (List Int))).bind fun x8 =>
      (app s2.2.2.2 ([(x6.1.length : Int)] : List Int)).bind fun x9 =>
      if ¬ x4.Kind = 0 then
        (app s2.2.1 ([(x6.1.length : Int)] : List Int)).bind fun x11 =>
        some (.inl ((w (s2.1 + 1)), x11, x8, x9))
      else
        some (.inl ((w (s2.1 + 1)), s2.2.1, x8, x9))
  else
    some (.inr (.inl (s2.2.1, s2.2.2.1, s2.2.2.2)))
def shapes_section.s3 (p0 : (List api_Bound)) (v13 : List Int × List (List Int) × List Int) (x17 : (List Int)) (x20 : (List Int)) (s21 : Int × Int) : Option (Sum (Int × Int) Int) :=
  if s21.2 < (x20.length : Int) then
    (at_ x20 s21.2).bind fun x23 =>
    (at_ x17 s21.2).bind fun x24 =>
    (at_ v13.2.1 s21.2).bind fun x25 =>
    (at_ x25 x23).bind fun x26 =>
    (at_ p0 s21.2).bind fun x27 =>
    some (.inl ((w (s21.1 + (w (x24 * (w (x26 - x27.Low)))))), (w (s21.2 + 1))))
  else
    some (.inr s21.1)
def shapes_section.s2 (p0 : (List api_Bound)) (v13 : List Int × List (List Int) × List Int) (x14 : Int) (x17 : (List Int)) (s18 : Int × Bool × List Int × List (Int × Bool)) : Option (Sum (Int × Bool × List Int × List (Int × Bool)) (Bool × List Int)) :=
  if s18.1 < x14 then
    (shapes_digits v13.2.2 s18.1).bind fun x20 =>
    (loopO (shapes_section.s3 p0 v13 x17 x20) (0, 0)).bind fun z28 =>
    (app s18.2.2.1 ([z28] : List Int)).bind fun x31 =>
    some (.inl ((w (s18.1 + 1)), (s18.2.1 || ((mget s18.2.2.2 z28).getD false)), x31, (mset s18.2.2.2 z28 true)))
  else
    some (.inr (s18.2.1, s18.2.2.1))
def shapes_section (p0 : (List api_Bound)) (p1 : (List api_Subscript)) : Option (api_Section × Int) :=
  if ¬ (p1.length : Int) = (p0.length : Int) then
    some ((api_Section.mk [] [] false), 32)
  else
    (loopO (shapes_section.s1 p0 p1) (0, [], [], [])).bind fun z12 => match z12 with
    | .inl v13 =>
      (shapes_product v13.2.2).bind fun x14 =>
      if x14 > 512 then
        some ((api_Section.mk [] [] false), 8)
      else
        (shapes_extents p0).bind fun x16 =>
        (shapes_strides x16).bind fun x17 =>
        (loopO (shapes_section.s2 p0 v13 x14 x17) (0, false, [], [])).bind fun z33 =>
        some ((api_Section.mk v13.1 z33.2 z33.1), 0)
    | .inr r35 => some r35
def shapes_from.s1 (p0 : (List Int)) (s1 : Int × List api_Bound) : Option (Sum (Int × List api_Bound) (List api_Bound)) :=
  if s1.1 < (p0.length : Int) then
    (at_ p0 s1.1).bind fun x3 =>
    (app s1.2 ([(api_Bound.mk 1 x3)] : List api_Bound)).bind fun x4 =>
    some (.inl ((w (s1.1 + 1)), x4))
  else
    some (.inr s1.2)
def shapes_from (p0 : (List Int)) : Option (List api_Bound) :=
  (loopO (shapes_from.s1 p0) (0, [])).bind fun z5 =>
  some z5
def shapes_picked.s1 (p0 : api_Array) (p2 : (List Int)) (s2 : Int × List Int) : Option (Sum (Int × List Int) (List Int)) :=
  if s2.1 < (p2.length : Int) then
    (at_ p2 s2.1).bind fun x4 =>
    (at_ p0.Elements x4).bind fun x5 =>
    (app s2.2 ([x5] : List Int)).bind fun x6 =>
    some (.inl ((w (s2.1 + 1)), x6))
  else
    some (.inr s2.2)
def shapes_picked (p0 : api_Array) (p1 : (List Int)) (p2 : (List Int)) : Option api_Array :=
  (shapes_from p1).bind fun x1 =>
  (loopO (shapes_picked.s1 p0 p2) (0, [])).bind fun z7 =>
  some (api_Array.mk x1 z7)
def shapes_Taken (p0 : api_Array) (p1 : (List api_Subscript)) : Option (api_Array × Int) :=
  (shapes_arraysErr [p0]).bind fun x1 =>
  if ¬ x1 = 0 then
    some ((api_Array.mk [] []), x1)
  else
    (shapes_section p0.Bounds p1).bind fun x3 =>
    if ¬ x3.2 = 0 then
      some ((api_Array.mk [] []), x3.2)
    else
      (shapes_picked p0 x3.1.Extents x3.1.Offsets).bind fun x5 =>
      some (x5, 0)
def law15_Vector (p0 : (List Int)) : api_Subscript :=
  (api_Subscript.mk 2 0 0 0 p0)
def shapes_SectionOf (p0 : (List api_Bound)) (p1 : (List api_Subscript)) : Option (api_Section × Int) :=
  (shapes_boundsErr p0).bind fun x1 =>
  if ¬ x1 = 0 then
    some ((api_Section.mk [] [] false), x1)
  else
    (shapes_section p0 p1).bind fun x3 =>
    some (x3.1, x3.2)
def shapes_Transpose.s2 (x5 : (List Int)) (s7 : Int × List Int) (x9 : Int) (s10 : Int × List Int) : Option (Sum (Int × List Int) (List Int)) :=
  if s10.1 < x9 then
    (at_ x5 0).bind fun x12 =>
    (app s10.2 ([(w (s7.1 + (w (s10.1 * x12))))] : List Int)).bind fun x13 =>
    some (.inl ((w (s10.1 + 1)), x13))
  else
    some (.inr s10.2)
def shapes_Transpose.s1 (x5 : (List Int)) (x6 : Int) (s7 : Int × List Int) : Option (Sum (Int × List Int) (List Int)) :=
  if s7.1 < x6 then
    (at_ x5 1).bind fun x9 =>
    (loopO (shapes_Transpose.s2 x5 s7 x9) (0, s7.2)).bind fun z14 =>
    some (.inl ((w (s7.1 + 1)), z14))
  else
    some (.inr s7.2)
def shapes_Transpose (p0 : api_Array) : Option (api_Array × Int) :=
  (shapes_arraysErr [p0]).bind fun x1 =>
  (shapes_broken [(shapes_rule.mk ((p0.Bounds.length : Int) == 2) 32)]).bind fun x2 =>
  (cmp_Or_api_Errno [x1, x2]).bind fun x3 =>
  if ¬ x3 = 0 then
    some ((api_Array.mk [] []), x3)
  else
    (shapes_extents p0.Bounds).bind fun x5 =>
    (at_ x5 0).bind fun x6 =>
    (loopO (shapes_Transpose.s1 x5 x6) (0, [])).bind fun z16 =>
    (at_ x5 1).bind fun x17 =>
    (at_ x5 0).bind fun x18 =>
    (shapes_picked p0 [x17, x18] z16).bind fun x19 =>
    some (x19, 0)
def shapes_dimErr (p0 : api_Array) (p1 : Int) : Option Int :=
  (shapes_arraysErr [p0]).bind fun x1 =>
  (shapes_broken [(shapes_rule.mk (shapes_inside p1 1 (p0.Bounds.length : Int)) 32)]).bind fun x2 =>
  (cmp_Or_api_Errno [x1, x2]).bind fun x3 =>
  some x3
def slices_Clone_api_Bound (p0 : (List api_Bound)) : Option (List api_Bound) :=
  (app ([] : List api_Bound) p0).bind fun x1 =>
  some x1
def shapes_copied (p0 : api_Array) : Option api_Array :=
  (slices_Clone_api_Bound p0.Bounds).bind fun x1 =>
  (slices_Clone_int p0.Elements).bind fun x2 =>
  some (api_Array.mk x1 x2)
def shapes_lines.s2 (x6 : List Int) (x10 : (List Int)) (s11 : Int × Int) : Option (Sum (Int × Int) Int) :=
  if s11.2 < (x10.length : Int) then
    (at_ x10 s11.2).bind fun x13 =>
    (at_ x6 s11.2).bind fun x14 =>
    some (.inl ((w (s11.1 + (w (x14 * x13)))), (w (s11.2 + 1))))
  else
    some (.inr s11.1)
def shapes_lines.s3 (x4 : Int) (z15 : Int) (x16 : Int) (s17 : Int × List Int) : Option (Sum (Int × List Int) (List Int)) :=
  if s17.1 < x16 then
    (app s17.2 ([(w (z15 + (w (s17.1 * x4))))] : List Int)).bind fun x19 =>
    some (.inl ((w (s17.1 + 1)), x19))
  else
    some (.inr s17.2)
def shapes_lines.s1 (p0 : (List Int)) (p1 : Int) (x2 : List Int) (x4 : Int) (x6 : List Int) (x7 : Int) (s8 : Int × List (List Int)) : Option (Sum (Int × List (List Int)) (List (List Int))) :=
  if s8.1 < x7 then
    (shapes_digits x2 s8.1).bind fun x10 =>
    (loopO (shapes_lines.s2 x6 x10) (0, 0)).bind fun z15 =>
    (at_ p0 p1).bind fun x16 =>
    (loopO (shapes_lines.s3 x4 z15 x16) (0, [])).bind fun z20 =>
    (app s8.2 ([z20] : List (List Int))).bind fun x21 =>
    some (.inl ((w (s8.1 + 1)), x21))
  else
    some (.inr s8.2)
def shapes_lines (p0 : (List Int)) (p1 : Int) : Option (List (List Int)) :=
  (slices_Clone_int p0).bind fun x1 =>
  (del x1 p1 (w (p1 + 1))).bind fun x2 =>
  (shapes_strides p0).bind fun x3 =>
  (at_ x3 p1).bind fun x4 =>
  (slices_Clone_int x3).bind fun x5 =>
  (del x5 p1 (w (p1 + 1))).bind fun x6 =>
  (shapes_product x2).bind fun x7 =>
  (loopO (shapes_lines.s1 p0 p1 x2 x4 x6 x7) (0, [])).bind fun z24 =>
  some z24
def shapes_Shifted.s2 (p0 : api_Array) (p2 : Int) (x8 : (List Int)) (s9 : Int × List Int) : Option (Sum (Int × List Int) (List Int)) :=
  if s9.1 < (x8.length : Int) then
    (at_ x8 s9.1).bind fun x11 =>
    (rem p2 (x8.length : Int)).bind fun x12 =>
    (rem (w (x12 + (x8.length : Int))) (x8.length : Int)).bind fun x13 =>
    (rem (w (s9.1 + x13)) (x8.length : Int)).bind fun x14 =>
    (at_ x8 x14).bind fun x15 =>
    (at_ p0.Elements x15).bind fun x16 =>
    (at_ s9.2 x11).bind fun x17 =>
    some (.inl ((w (s9.1 + 1)), (s9.2.set x11.toNat x16)))
  else
    some (.inr s9.2)
def shapes_Shifted.s1 (p0 : api_Array) (p2 : Int) (x5 : (List (List Int))) (s6 : Int × List Int) : Option (Sum (Int × List Int) (List Int)) :=
  if s6.1 < (x5.length : Int) then
    (at_ x5 s6.1).bind fun x8 =>
    (loopO (shapes_Shifted.s2 p0 p2 x8) (0, s6.2)).bind fun z18 =>
    some (.inl ((w (s6.1 + 1)), z18))
  else
    some (.inr s6.2)
def shapes_Shifted (p0 : api_Array) (p1 : Int) (p2 : Int) : Option (api_Array × Int) :=
  (shapes_dimErr p0 p1).bind fun x1 =>
  if ¬ x1 = 0 then
    some ((api_Array.mk [] []), x1)
  else
    (shapes_copied p0).bind fun x3 =>
    (shapes_extents p0.Bounds).bind fun x4 =>
    (shapes_lines x4 (w (p1 - 1))).bind fun x5 =>
    (loopO (shapes_Shifted.s1 p0 p2 x5) (0, x3.Elements)).bind fun z20 =>
    some ((api_Array.mk x3.Bounds z20), 0)
def base_Before.F (self51 : (List Int) → (List Int) → Option Bool) (p0 : (List Int)) (p1 : (List Int)) : Option Bool :=
  if (((p0.length : Int) == 0) || ((p1.length : Int) == 0)) = true then
    some (decide ((p0.length : Int) < (p1.length : Int)))
  else
    (at_ p0 0).bind fun x4 =>
    (at_ p1 0).bind fun x5 =>
    if x4 < x5 then
      some true
    else
      (at_ p0 0).bind fun x7 =>
      (at_ p1 0).bind fun x8 =>
      if x7 = x8 then
        (cut p0 1 (p0.length : Int)).bind fun x10 =>
        (cut p1 1 (p1.length : Int)).bind fun x11 =>
        (self51 x10 x11).bind fun x12 =>
        some x12
      else
        some false
def base_Before.N : Nat → (List Int) → (List Int) → Option Bool
  | 0 => fun _ _ => none
  | n + 1 => base_Before.F (base_Before.N n)
def base_Before (p0 : (List Int)) (p1 : (List Int)) : Option Bool := lim fun n => base_Before.N n p0 p1
def base_Ints (p0 : (List Int)) (p1 : (List Int)) : Option Bool :=
  if (p0.length : Int) = (p1.length : Int) then
    (base_Before p0 p1).bind fun x2 =>
    if ¬ (x2 = true) then
      (base_Before p1 p0).bind fun x4 =>
      some (!x4)
    else
      some false
  else
    some false
def law15_awake : Option Bool :=
  (shapes_OffsetOf law15_Example.Bounds [2, 1]).bind fun x1 =>
  (shapes_Taken law15_Example [(law15_Range 2 1 (-1)), (law15_Index 1)]).bind fun x2 =>
  (shapes_SectionOf law15_Example.Bounds [(law15_Index 1), (law15_Vector [2, 0, 2])]).bind fun x3 =>
  (shapes_Transpose law15_Example).bind fun x4 =>
  (shapes_Shifted law15_Example 2 1).bind fun x5 =>
  if (((x1.2 == 0) && (x1.1 == 3)) && (x2.2 == 0)) = true then
    (base_Ints x2.1.Elements [4, 3]).bind fun x11 =>
    if (((x11 && (x3.2 == 0)) && x3.1.ManyOne) && (x4.2 == 0)) = true then
      (base_Ints x4.1.Elements [1, 3, 5, 2, 4, 6]).bind fun x19 =>
      if (x19 && (x5.2 == 0)) = true then
        (base_Ints x5.1.Elements [3, 4, 5, 6, 1, 2]).bind fun x23 =>
        some x23
      else
        some false
    else
      some false
  else
    some false
def law15_few (p0 : api_Array) : Bool :=
  ((decide ((p0.Bounds.length : Int) ≤ 9)) && (decide ((p0.Elements.length : Int) ≤ 80)))
def base_Within (p0 : Int) (p1 : Int) (p2 : Int) : Bool :=
  (!((decide (p0 < p1)) || (decide (p0 > p2))))
def ref15_isBound (p0 : Int) : Bool :=
  (base_Within p0 (-2147483647) 2147483647)
def ref15_Extents.s1 (p0 : (List api_Bound)) (s1 : Int × List Int) : Option (Sum (Int × List Int) (List Int)) :=
  if s1.1 < (p0.length : Int) then
    (at_ p0 s1.1).bind fun x3 =>
    (at_ p0 s1.1).bind fun x4 =>
    (app s1.2 ([(mx 0 (w ((w (x3.High - x4.Low)) + 1)))] : List Int)).bind fun x5 =>
    some (.inl ((w (s1.1 + 1)), x5))
  else
    some (.inr s1.2)
def ref15_Extents (p0 : (List api_Bound)) : Option (List Int) :=
  (loopO (ref15_Extents.s1 p0) (0, [])).bind fun z6 =>
  some z6
def ref15_Product.s1 (p0 : (List Int)) (s1 : Int × Int) : Option (Sum (Int × Int) (Sum Int Int)) :=
  if s1.2 < (p0.length : Int) then
    (at_ p0 s1.2).bind fun x3 =>
    if x3 = 0 then
      some (.inr (.inr 0))
    else
      (at_ p0 s1.2).bind fun x5 =>
      some (.inl ((mn (w (s1.1 * (mn x5 513))) 513), (w (s1.2 + 1))))
  else
    some (.inr (.inl s1.1))
def ref15_Product (p0 : (List Int)) : Option Int :=
  (loopO (ref15_Product.s1 p0) (1, 0)).bind fun z6 => match z6 with
  | .inl v7 =>
    some v7
  | .inr r8 => some r8
def ref15_BoundsErr.s1 (p0 : (List api_Bound)) (s2 : Int) : Option (Sum Int (Sum Unit Int)) :=
  if s2 < (p0.length : Int) then
    (at_ p0 s2).bind fun x4 =>
    if ¬ ((ref15_isBound x4.Low) = true) then
      some (.inr (.inr 2))
    else
      (at_ p0 s2).bind fun x6 =>
      if ¬ ((ref15_isBound x6.High) = true) then
        some (.inr (.inr 2))
      else
        some (.inl (w (s2 + 1)))
  else
    some (.inr (.inl ()))
def ref15_BoundsErr.s2 (x10 : (List Int)) (s11 : Int) : Option (Sum Int (Sum Unit Int)) :=
  if s11 < (x10.length : Int) then
    (at_ x10 s11).bind fun x13 =>
    if x13 > 512 then
      some (.inr (.inr 8))
    else
      some (.inl (w (s11 + 1)))
  else
    some (.inr (.inl ()))
def ref15_BoundsErr (p0 : (List api_Bound)) : Option Int :=
  if (p0.length : Int) > 7 then
    some 32
  else
    (loopO (ref15_BoundsErr.s1 p0) 0).bind fun z8 => match z8 with
    | .inl v9 =>
      (ref15_Extents p0).bind fun x10 =>
      (loopO (ref15_BoundsErr.s2 x10) 0).bind fun z15 => match z15 with
      | .inl v16 =>
        (ref15_Product x10).bind fun x17 =>
        if x17 > 512 then
          some 8
        else
          some 0
      | .inr r19 => some r19
    | .inr r20 => some r20
def ref15_IsInteger (p0 : Int) : Bool :=
  (base_Within p0 (-2147483648) 2147483647)
def ref15_Check.s1 (p0 : api_Array) (s6 : Int) : Option (Sum Int (Sum Unit (Int × Int))) :=
  if s6 < (p0.Elements.length : Int) then
    (at_ p0.Elements s6).bind fun x8 =>
    if ¬ ((ref15_IsInteger x8) = true) then
      some (.inr (.inr (s6, 2)))
    else
      some (.inl (w (s6 + 1)))
  else
    some (.inr (.inl ()))
def ref15_Check (p0 : api_Array) : Option (Int × Int) :=
  (ref15_BoundsErr p0.Bounds).bind fun x1 =>
  if ¬ x1 = 0 then
    some (0, x1)
  else
    (ref15_Extents p0.Bounds).bind fun x3 =>
    (ref15_Product x3).bind fun x4 =>
    if ¬ (p0.Elements.length : Int) = x4 then
      some (0, 10)
    else
      (loopO (ref15_Check.s1 p0) 0).bind fun z10 => match z10 with
      | .inl v11 =>
        some (0, 0)
      | .inr r12 => some r12
def ref15_Err (p0 : api_Array) : Option Int :=
  (ref15_Check p0).bind fun x1 =>
  some x1.2
def ref15_CopyBounds (p0 : (List api_Bound)) : Option (List api_Bound) :=
  (app ([] : List api_Bound) p0).bind fun x1 =>
  some x1
def base_CopyInts (p0 : (List Int)) : Option (List Int) :=
  (mkSl (p0.length : Int) 0).bind fun x1 =>
  some (copied x1 p0)
def ref15_Copy (p0 : api_Array) : Option api_Array :=
  (ref15_CopyBounds p0.Bounds).bind fun x1 =>
  (base_CopyInts p0.Elements).bind fun x2 =>
  some (api_Array.mk x1 x2)
def ref15_Same.s1 (p0 : api_Array) (p1 : api_Array) (s4 : Int) : Option (Sum Int (Sum Unit Bool)) :=
  if s4 < (p0.Bounds.length : Int) then
    (at_ p0.Bounds s4).bind fun x6 =>
    (at_ p1.Bounds s4).bind fun x7 =>
    if ¬ (((x6.Low == x7.Low) && ((x6.High == x7.High) && true)) = true) then
      some (.inr (.inr false))
    else
      some (.inl (w (s4 + 1)))
  else
    some (.inr (.inl ()))
def ref15_Same (p0 : api_Array) (p1 : api_Array) : Option Bool :=
  if ¬ (p0.Bounds.length : Int) = (p1.Bounds.length : Int) then
    some false
  else
    (base_Ints p0.Elements p1.Elements).bind fun x2 =>
    if ¬ (x2 = true) then
      some false
    else
      (loopO (ref15_Same.s1 p0 p1) 0).bind fun z9 => match z9 with
      | .inl v10 =>
        some true
      | .inr r11 => some r11
def shapes_reshapeErr_c1 (p0 : Int) : Bool :=
  (!(shapes_inside p0 0 512))
def slices_IndexFunc_int__shapes_reshapeErr_c1.s1 (p0 : (List Int)) (s1 : Int) : Option (Sum Int (Sum Unit Int)) :=
  if s1 < (p0.length : Int) then
    (at_ p0 s1).bind fun x3 =>
    if (shapes_reshapeErr_c1 x3) = true then
      some (.inr (.inr s1))
    else
      some (.inl (w (s1 + 1)))
  else
    some (.inr (.inl ()))
def slices_IndexFunc_int__shapes_reshapeErr_c1 (p0 : (List Int)) : Option Int :=
  (loopO (slices_IndexFunc_int__shapes_reshapeErr_c1.s1 p0) 0).bind fun z5 => match z5 with
  | .inl v6 =>
    some (-1)
  | .inr r7 => some r7
def slices_ContainsFunc_int__shapes_reshapeErr_c1 (p0 : (List Int)) : Option Bool :=
  (slices_IndexFunc_int__shapes_reshapeErr_c1 p0).bind fun x1 =>
  some (decide (x1 ≥ 0))
def slices_Sorted_int__slices_Values_int_c1 (p0_0 : List Int) : Option (List Int) := sortedO p0_0
def shapes_orderOf.s1 (p1 : Int) (s1 : Int × List Int) : Option (Sum (Int × List Int) (List Int)) :=
  if s1.1 < p1 then
    (app s1.2 ([s1.1] : List Int)).bind fun x3 =>
    some (.inl ((w (s1.1 + 1)), x3))
  else
    some (.inr s1.2)
def shapes_orderOf.s2 (p0 : (List Int)) (x6 : (List Int)) (s8 : Int × List Int) : Option (Sum (Int × List Int) (Sum (List Int) ((List Int) × Bool))) :=
  if s8.1 < (x6.length : Int) then
    (at_ x6 s8.1).bind fun x10 =>
    if ¬ x10 = (w (s8.1 + 1)) then
      some (.inr (.inr (([] : List Int), false)))
    else
      (at_ p0 s8.1).bind fun x12 =>
      (at_ s8.2 s8.1).bind fun x13 =>
      some (.inl ((w (s8.1 + 1)), (s8.2.set s8.1.toNat (w (x12 - 1)))))
  else
    some (.inr (.inl s8.2))
def shapes_orderOf (p0 : (List Int)) (p1 : Int) : Option ((List Int) × Bool) :=
  (loopO (shapes_orderOf.s1 p1) (0, [])).bind fun z4 =>
  if (p0.length : Int) = 0 then
    some (z4, true)
  else
    (slices_Sorted_int__slices_Values_int_c1 p0).bind fun x6 =>
    if ¬ (p0.length : Int) = p1 then
      some (([] : List Int), false)
    else
      (loopO (shapes_orderOf.s2 p0 x6) (0, z4)).bind fun z14 => match z14 with
      | .inl v15 =>
        some (v15, true)
      | .inr r16 => some r16
def shapes_reshapeErr_c2 (p0 : Int) : Bool :=
  (!(shapes_isInteger p0))
def slices_IndexFunc_int__shapes_reshapeErr_c2.s1 (p0 : (List Int)) (s1 : Int) : Option (Sum Int (Sum Unit Int)) :=
  if s1 < (p0.length : Int) then
    (at_ p0 s1).bind fun x3 =>
    if (shapes_reshapeErr_c2 x3) = true then
      some (.inr (.inr s1))
    else
      some (.inl (w (s1 + 1)))
  else
    some (.inr (.inl ()))
def slices_IndexFunc_int__shapes_reshapeErr_c2 (p0 : (List Int)) : Option Int :=
  (loopO (slices_IndexFunc_int__shapes_reshapeErr_c2.s1 p0) 0).bind fun z5 => match z5 with
  | .inl v6 =>
    some (-1)
  | .inr r7 => some r7
def slices_ContainsFunc_int__shapes_reshapeErr_c2 (p0 : (List Int)) : Option Bool :=
  (slices_IndexFunc_int__shapes_reshapeErr_c2 p0).bind fun x1 =>
  some (decide (x1 ≥ 0))
def shapes_reshapeErr (p0 : api_Reshape) : Option Int :=
  (slices_ContainsFunc_int__shapes_reshapeErr_c1 p0.Shape).bind fun x1 =>
  if (p0.Shape.length : Int) > 7 then
    some 32
  else
    (shapes_orderOf p0.Order (p0.Shape.length : Int)).bind fun x3 =>
    if x1 = true then
      (slices_ContainsFunc_int__shapes_reshapeErr_c2 p0.Pad).bind fun x5 =>
      (shapes_broken [(shapes_rule.mk (!x1) 2), (shapes_rule.mk true 8), (shapes_rule.mk x3.2 3), (shapes_rule.mk (decide ((p0.Pad.length : Int) ≤ 512)) 8), (shapes_rule.mk (!x5) 2)]).bind fun x6 =>
      some x6
    else
      (shapes_product p0.Shape).bind fun x7 =>
      (slices_ContainsFunc_int__shapes_reshapeErr_c2 p0.Pad).bind fun x8 =>
      (shapes_broken [(shapes_rule.mk (!x1) 2), (shapes_rule.mk (decide (x7 ≤ 512)) 8), (shapes_rule.mk x3.2 3), (shapes_rule.mk (decide ((p0.Pad.length : Int) ≤ 512)) 8), (shapes_rule.mk (!x8) 2)]).bind fun x9 =>
      some x9
def shapes_Reshape.s1 (p1 : api_Reshape) (x9 : (List Int) × Bool) (s11 : Int × List Int) : Option (Sum (Int × List Int) (List Int)) :=
  if s11.1 < (x9.1.length : Int) then
    (at_ x9.1 s11.1).bind fun x13 =>
    (at_ p1.Shape x13).bind fun x14 =>
    (app s11.2 ([x14] : List Int)).bind fun x15 =>
    some (.inl ((w (s11.1 + 1)), x15))
  else
    some (.inr s11.2)
def shapes_Reshape.s3 (x9 : (List Int) × Bool) (x10 : (List Int)) (x21 : (List Int)) (s22 : Int × Int) : Option (Sum (Int × Int) Int) :=
  if s22.2 < (x21.length : Int) then
    (at_ x21 s22.2).bind fun x24 =>
    (at_ x9.1 s22.2).bind fun x25 =>
    (at_ x10 x25).bind fun x26 =>
    some (.inl ((w (s22.1 + (w (x26 * x24)))), (w (s22.2 + 1))))
  else
    some (.inr s22.1)
def shapes_Reshape.s2 (p0 : api_Array) (p1 : api_Reshape) (x5 : Int) (x9 : (List Int) × Bool) (x10 : (List Int)) (z16 : List Int) (s19 : Int × List Int) : Option (Sum (Int × List Int) (List Int)) :=
  if s19.1 < x5 then
    (shapes_digits z16 s19.1).bind fun x21 =>
    (loopO (shapes_Reshape.s3 x9 x10 x21) (0, 0)).bind fun z27 =>
    if s19.1 < (p0.Elements.length : Int) then
      (at_ p0.Elements s19.1).bind fun x29 =>
      (at_ s19.2 z27).bind fun x30 =>
      some (.inl ((w (s19.1 + 1)), (s19.2.set z27.toNat x29)))
    else
      (rem (w (s19.1 - (p0.Elements.length : Int))) (p1.Pad.length : Int)).bind fun x31 =>
      (at_ p1.Pad x31).bind fun x32 =>
      (at_ s19.2 z27).bind fun x33 =>
      some (.inl ((w (s19.1 + 1)), (s19.2.set z27.toNat x32)))
  else
    some (.inr s19.2)
def shapes_Reshape (p0 : api_Array) (p1 : api_Reshape) : Option (api_Array × Int) :=
  (shapes_arraysErr [p0]).bind fun x1 =>
  (shapes_reshapeErr p1).bind fun x2 =>
  (cmp_Or_api_Errno [x1, x2]).bind fun x3 =>
  if ¬ x3 = 0 then
    some ((api_Array.mk [] []), x3)
  else
    (shapes_product p1.Shape).bind fun x5 =>
    if ((decide (x5 > (p0.Elements.length : Int))) && ((p1.Pad.length : Int) == 0)) = true then
      some ((api_Array.mk [] []), 17)
    else
      (shapes_orderOf p1.Order (p1.Shape.length : Int)).bind fun x9 =>
      (shapes_strides p1.Shape).bind fun x10 =>
      (loopO (shapes_Reshape.s1 p1 x9) (0, [])).bind fun z16 =>
      (shapes_from p1.Shape).bind fun x17 =>
      (mkSl x5 0).bind fun x18 =>
      (loopO (shapes_Reshape.s2 p0 p1 x5 x9 x10 z16) (0, x18)).bind fun z35 =>
      some ((api_Array.mk x17 z35), 0)
def slices_Max_int.s1 (p0 : (List Int)) (s3 : Int × Int) : Option (Sum (Int × Int) Int) :=
  if s3.2 < (p0.length : Int) then
    (at_ p0 s3.2).bind fun x5 =>
    some (.inl ((mx s3.1 x5), (w (s3.2 + 1))))
  else
    some (.inr s3.1)
def slices_Max_int (p0 : (List Int)) : Option Int :=
  if (p0.length : Int) < 1 then
    none
  else
    (at_ p0 0).bind fun x2 =>
    (loopO (slices_Max_int.s1 p0) (x2, 1)).bind fun z6 =>
    some z6
def slices_Min_int.s1 (p0 : (List Int)) (s3 : Int × Int) : Option (Sum (Int × Int) Int) :=
  if s3.2 < (p0.length : Int) then
    (at_ p0 s3.2).bind fun x5 =>
    some (.inl ((mn s3.1 x5), (w (s3.2 + 1))))
  else
    some (.inr s3.1)
def slices_Min_int (p0 : (List Int)) : Option Int :=
  if (p0.length : Int) < 1 then
    none
  else
    (at_ p0 0).bind fun x2 =>
    (loopO (slices_Min_int.s1 p0) (x2, 1)).bind fun z6 =>
    some z6
def shapes_fold.s2 (p0 : Int) (p1 : (List Int)) (s8 : Int × Int) : Option (Sum (Int × Int) (Sum Int (Int × Bool))) :=
  if s8.2 < (p1.length : Int) then
    (at_ p1 s8.2).bind fun x10 =>
    if p0 = 0 then
      some (.inl ((w (s8.1 + x10)), (w (s8.2 + 1))))
    else
      if p0 = 4 then
        if ¬ x10 = 0 then
          some (.inl ((w (s8.1 + 1)), (w (s8.2 + 1))))
        else
          some (.inl (s8.1, (w (s8.2 + 1))))
      else
        if p0 = 1 then
          if ¬ ((shapes_isInteger (w (s8.1 * x10))) = true) then
            some (.inr (.inr (0, false)))
          else
            some (.inl ((w (s8.1 * x10)), (w (s8.2 + 1))))
        else
          some (.inl (s8.1, (w (s8.2 + 1))))
  else
    some (.inr (.inl s8.1))
def shapes_fold.j1 (p0 : Int) (p1 : (List Int)) (a7 : Int) : Option (Int × Bool) :=
  (loopO (shapes_fold.s2 p0 p1) (a7, 0)).bind fun z16 => match z16 with
  | .inl v17 =>
    some (v17, (shapes_isInteger v17))
  | .inr r18 => some r18
def shapes_fold (p0 : Int) (p1 : (List Int)) : Option (Int × Bool) :=
  if p0 = 2 then
    (app ([(-2147483648)] : List Int) p1).bind fun x2 =>
    (slices_Max_int x2).bind fun x3 =>
    some (x3, true)
  else
    if p0 = 3 then
      (app ([2147483647] : List Int) p1).bind fun x5 =>
      (slices_Min_int x5).bind fun x6 =>
      some (x6, true)
    else
      if p0 = 1 then
        shapes_fold.j1 p0 p1 1
      else
        shapes_fold.j1 p0 p1 0
def shapes_Reduced.s2 (p2 : Int) (a5 : (List api_Bound) × List (List Int)) (s6 : Int × List Int) : Option (Sum (Int × List Int) (Sum (List Int) (api_Array × Int))) :=
  if s6.1 < (a5.2.length : Int) then
    (at_ a5.2 s6.1).bind fun x8 =>
    (shapes_fold p2 x8).bind fun x9 =>
    if ¬ (x9.2 = true) then
      some (.inr (.inr ((api_Array.mk [] []), 28)))
    else
      (app s6.2 ([x9.1] : List Int)).bind fun x11 =>
      some (.inl ((w (s6.1 + 1)), x11))
  else
    some (.inr (.inl s6.2))
def shapes_Reduced.j1 (p2 : Int) (a5 : (List api_Bound) × List (List Int)) : Option (api_Array × Int) :=
  (loopO (shapes_Reduced.s2 p2 a5) (0, [])).bind fun z12 => match z12 with
  | .inl v13 =>
    some ((api_Array.mk a5.1 v13), 0)
  | .inr r14 => some r14
def shapes_Reduced.s3 (p0 : api_Array) (x13 : (List (List Int))) (s14 : Int × List (List Int)) : Option (Sum (Int × List (List Int)) (List (List Int))) :=
  if s14.1 < (x13.length : Int) then
    (at_ x13 s14.1).bind fun x16 =>
    (shapes_picked p0 [] x16).bind fun x17 =>
    (app s14.2 ([x17.Elements] : List (List Int))).bind fun x18 =>
    some (.inl ((w (s14.1 + 1)), x18))
  else
    some (.inr s14.2)
def shapes_Reduced (p0 : api_Array) (p1 : Int) (p2 : Int) : Option (api_Array × Int) :=
  (shapes_arraysErr [p0]).bind fun x1 =>
  (shapes_broken [(shapes_rule.mk (shapes_inside p1 0 (p0.Bounds.length : Int)) 32), (shapes_rule.mk (shapes_inside p2 0 4) 15)]).bind fun x2 =>
  (cmp_Or_api_Errno [x1, x2]).bind fun x3 =>
  if ¬ x3 = 0 then
    some ((api_Array.mk [] []), x3)
  else
    if p1 = 0 then
      (app ([] : List (List Int)) ([p0.Elements] : List (List Int))).bind fun x6 =>
      shapes_Reduced.j1 p2 ([], x6)
    else
      (shapes_extents p0.Bounds).bind fun x7 =>
      (slices_Clone_int x7).bind fun x8 =>
      (del x8 (w (p1 - 1)) p1).bind fun x9 =>
      (shapes_product x9).bind fun x10 =>
      if x10 > 512 then
        some ((api_Array.mk [] []), 8)
      else
        (shapes_from x9).bind fun x12 =>
        (shapes_lines x7 (w (p1 - 1))).bind fun x13 =>
        (loopO (shapes_Reduced.s3 p0 x13) (0, [])).bind fun z19 =>
        shapes_Reduced.j1 p2 (x12, z19)
def law15_ShapesBack.s1 (p0 : api_Array) (s10 : Int) : Option (Sum Int (Sum Unit Bool)) :=
  if s10 < (p0.Elements.length : Int) then
    (at_ p0.Elements s10).bind fun x12 =>
    if ¬ ((base_Within x12 (-1000) 1000) = true) then
      some (.inr (.inr true))
    else
      some (.inl (w (s10 + 1)))
  else
    some (.inr (.inl ()))
def law15_ShapesBack.j2 (p0 : api_Array) (p1 : Int) (a24 : Unit) : Option Bool :=
  (ref15_Copy p0).bind fun x25 =>
  (shapes_Reshape x25 (api_Reshape.mk [(p0.Elements.length : Int)] [] [])).bind fun x26 =>
  (ref15_Extents p0.Bounds).bind fun x27 =>
  (shapes_Reshape x26.1 (api_Reshape.mk x27 [] [])).bind fun x28 =>
  if ((x26.2 != 0) || (x28.2 != 0)) = true then
    some false
  else
    (base_Ints x28.1.Elements p0.Elements).bind fun x32 =>
    if ¬ (x32 = true) then
      some false
    else
      (ref15_Copy p0).bind fun x34 =>
      (shapes_Reduced x34 p1 0).bind fun x35 =>
      if x35.2 = 8 then
        some true
      else
        (shapes_Reduced x35.1 0 0).bind fun x37 =>
        (ref15_Copy p0).bind fun x38 =>
        (shapes_Reduced x38 0 0).bind fun x39 =>
        if ((((x35.2 == 0) && (x37.2 == 0)) && (x39.2 == 0)) && ((x37.1.Elements.length : Int) == 1)) = true then
          (base_Ints x37.1.Elements x39.1.Elements).bind fun x47 =>
          some x47
        else
          some false
def law15_ShapesBack (p0 : api_Array) (p1 : Int) (p2 : Int) : Option Bool :=
  (law15_awake).bind fun x1 =>
  if ¬ (x1 = true) then
    some false
  else
    if ¬ ((law15_few p0) = true) then
      some true
    else
      (ref15_Err p0).bind fun x4 =>
      if (((x4 != 0) || (!(base_Within p1 1 (p0.Bounds.length : Int)))) || (!(base_Within p2 (-1000) 1000))) = true then
        some true
      else
        (loopO (law15_ShapesBack.s1 p0) 0).bind fun z14 => match z14 with
        | .inl v15 =>
          (ref15_Copy p0).bind fun x16 =>
          (shapes_Shifted x16 p1 p2).bind fun x17 =>
          (shapes_Shifted x17.1 p1 (w (0 - p2))).bind fun x18 =>
          if ((x17.2 != 0) || (x18.2 != 0)) = true then
            some false
          else
            (ref15_Same x18.1 p0).bind fun x22 =>
            if ¬ (x22 = true) then
              some false
            else
              if (p0.Bounds.length : Int) = 2 then
                (ref15_Copy p0).bind fun x25 =>
                (shapes_Transpose x25).bind fun x26 =>
                (shapes_Transpose x26.1).bind fun x27 =>
                if ¬ x26.2 = 0 then
                  some false
                else
                  if ¬ x27.2 = 0 then
                    some false
                  else
                    (base_Ints x27.1.Elements p0.Elements).bind fun x30 =>
                    if ¬ (x30 = true) then
                      some false
                    else
                      (ref15_Extents x27.1.Bounds).bind fun x32 =>
                      (ref15_Extents p0.Bounds).bind fun x33 =>
                      (base_Ints x32 x33).bind fun x34 =>
                      if ¬ (x34 = true) then
                        some false
                      else
                        law15_ShapesBack.j2 p0 p1 ()
              else
                law15_ShapesBack.j2 p0 p1 ()
        | .inr r48 => some r48
end Go.Sh
