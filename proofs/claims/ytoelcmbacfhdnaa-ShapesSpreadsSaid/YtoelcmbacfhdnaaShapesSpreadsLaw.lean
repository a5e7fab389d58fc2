/- What the functions compute answers as the statement says. -/
import Derived.Test.YtoelcmbacfhdnaaShapesSpreadsSh
set_option linter.all false
namespace Go.Sh
open Go.Lx
set_option linter.unusedVariables false
set_option linter.unusedSimpArgs false
theorem awake_eq : law15_awake = some true := by decide +kernel
theorem lt_len {i n : Nat} (h : i < n) : ((i : Int) < (n : Int)) = True := eq_true (by omega)
theorem not_lt_len (n : Nat) : ((n : Int) < (n : Int)) = False := eq_false (by omega)
theorem copyBounds_eq {p : List api_Bound} (h : p.length ≤ 16777216) : ref15_CopyBounds p = some p := by
  unfold ref15_CopyBounds; rw [app_nil h]; rfl
theorem copyInts_eq {p : List Int} (h : p.length ≤ 16777216) : base_CopyInts p = some p := by
  unfold base_CopyInts; rw [mkSl_len h]; simp [copied_all]
theorem extents_eq {p : List api_Bound} (h : p.length < 16777216) : shapes_extents p = some (p.map shapes_extent) := by
  unfold shapes_extents
  rw [loop_map p shapes_extent (fun i b => (i, b)) (fun b => b) rfl ?_ ?_ (by omega)]
  · rfl
  · intro i hi b hb
    simp only [shapes_extents.s1, lt_len hi, if_true, at_lt hi, Option.bind_some]
    rw [app_one (by omega), wn (by omega)]; rfl
  · intro b; simp only [shapes_extents.s1, not_lt_len, if_false]
theorem refExtents_eq {p : List api_Bound} (h : p.length < 16777216) : ref15_Extents p = some (p.map shapes_extent) := by
  unfold ref15_Extents
  rw [loop_map p shapes_extent (fun i b => (i, b)) (fun b => b) rfl ?_ ?_ (by omega)]
  · rfl
  · intro i hi b hb
    simp only [ref15_Extents.s1, lt_len hi, if_true, at_lt hi, Option.bind_some]
    rw [app_one (by omega), wn (by omega)]; rfl
  · intro b; simp only [ref15_Extents.s1, not_lt_len, if_false]
theorem index_any (p : List Int) (v : Int) (h : p.length < 16777216) : ∃ k : Nat, slices_Index_int p v = some (if p.any (fun x => v == x) = true then (k : Int) else -1) := by
  unfold slices_Index_int
  obtain ⟨k, hk⟩ := loop_any (step := slices_Index_int.s1 p v) p (fun x => v == x) (fun i => Sum.inr i) (Sum.inl ()) (s := 0) rfl (fun i hi => by
    simp only [slices_Index_int.s1, lt_len hi, if_true, at_lt hi, Option.bind_some]
    by_cases e : v = p[i]
    · simp [e]
    · simp only [e, if_false, beq_iff_eq]; rw [wn (by omega)]) (by simp only [slices_Index_int.s1, not_lt_len, if_false]) (by omega)
  refine ⟨k, ?_⟩
  rw [hk]
  by_cases e : p.any (fun x => v == x) = true
  · rw [if_pos e, if_pos e]; rfl
  · rw [if_neg e, if_neg e]; rfl
theorem contains_eq {p : List Int} {v : Int} (h : p.length < 16777216) : slices_Contains_int p v = some (p.any (fun x => v == x)) := by
  unfold slices_Contains_int
  obtain ⟨k, hk⟩ := index_any p v h
  rw [hk]
  by_cases e : p.any (fun x => v == x) = true
  · rw [if_pos e, e]; simp
  · rw [if_neg e, eq_false_of_ne_true e]; rfl
def capP (xs : List Int) : Int := xs.foldl (fun a x => mn (w (a * mn x 513)) 513) 1
def prodE (xs : List Int) : Int := if xs.any (fun x => 0 == x) = true then 0 else capP xs
theorem product_eq {p : List Int} (h : p.length < 16777216) : shapes_product p = some (prodE p) := by
  unfold shapes_product
  rw [loop_fold (step := shapes_product.s1 p) p (fun i b => (b, i)) (fun b => b) (fun a x => mn (w (a * mn x 513)) 513) (fun _ _ => True) (a := 1) rfl ?_ ?_ trivial (by omega)]
  · simp only [Option.bind_some, contains_eq h]
    unfold prodE capP
    split <;> rfl
  · intro i hi b _
    refine ⟨?_, trivial⟩
    simp only [shapes_product.s1, lt_len hi, if_true, at_lt hi, Option.bind_some]
    rw [wn (by omega)]
  · intro b _; simp only [shapes_product.s1, not_lt_len, if_false]
theorem scan_prod : ∀ (xs : List Int) (i : Nat) (a : Int), scanE (ρ := Unit) (fun _ (b : Int) x => if x = 0 then .inl () else .inr (mn (w (b * mn x 513)) 513)) i xs a = (if xs.any (fun x => 0 == x) = true then .inl () else .inr (xs.foldl (fun a x => mn (w (a * mn x 513)) 513) a))
  | [], i, a => rfl
  | x :: xs, i, a => by
    simp only [scanE, List.any_cons, List.foldl_cons]
    by_cases e : x = 0
    · subst e; simp
    · have e' : (0 == x) = false := by simp; exact fun q => e q.symm
      simp only [e, if_false, e', Bool.false_or]
      exact scan_prod xs (i + 1) _
theorem refProduct_eq {p : List Int} (h : p.length < 16777216) : ref15_Product p = some (prodE p) := by
  unfold ref15_Product
  rw [loop_scan (step := ref15_Product.s1 p) p (fun i b => (b, i)) (fun (_ : Unit) => Sum.inr 0) (fun b => Sum.inl b) (fun _ (b : Int) x => if x = 0 then .inl () else .inr (mn (w (b * mn x 513)) 513)) (fun _ _ => True) (a := 1) rfl ?_ ?_ trivial (by omega)]
  · rw [scan_prod]
    unfold prodE capP
    by_cases e : p.any (fun x => 0 == x) = true
    · simp only [e, if_true]; rfl
    · simp only [e, if_false]; rfl
  · intro i hi b _
    refine ⟨?_, fun _ _ => trivial⟩
    simp only [ref15_Product.s1, lt_len hi, if_true, at_lt hi, Option.bind_some]
    by_cases e : p[i] = 0
    · simp only [e, if_true]
    · simp only [e, if_false]; rw [wn (by omega)]
  · intro b _; simp only [ref15_Product.s1, not_lt_len, if_false]
def num (b : api_Bound) : Bool := shapes_isNumber b.Low && shapes_isNumber b.High
def bErr (p : List api_Bound) : Int := if (p.length : Int) > 7 then 32 else if p.any (fun b => !num b) = true then 2 else if p.any (fun b => decide (shapes_extent b > 512)) = true then 8 else if prodE (p.map shapes_extent) > 512 then 8 else 0
theorem within_eq (a b c : Int) : base_Within a b c = shapes_inside a b c := by
  unfold base_Within shapes_inside
  simp only [Bool.not_or, ← decide_not]
  congr 1 <;> exact decide_eq_decide.2 (by omega)
theorem findSome_const {α ρ : Type} {p : α → Bool} {c : ρ} : ∀ xs : List α, xs.findSome? (fun x => if p x = true then some c else none) = if xs.any p = true then some c else none
  | [] => rfl
  | x :: xs => by
    simp only [List.findSome?_cons, List.any_cons]
    by_cases e : p x = true
    · simp [e]
    · simp only [e, if_false, Bool.false_or]; exact findSome_const xs
theorem broken1 (b : Bool) (c : Int) : shapes_broken [shapes_rule.mk b c] = some (if b = true then 0 else c) := by
  unfold shapes_broken
  rw [loop_find (step := shapes_broken.s1 [shapes_rule.mk b c]) [shapes_rule.mk b c] (fun r => if r.holds = true then none else some r.code) (fun c => Sum.inr c) (Sum.inl ()) rfl ?_ ?_ (by simp)]
  · cases b <;> rfl
  · intro i hi
    simp only [shapes_broken.s1, lt_len hi, if_true, at_lt hi, Option.bind_some]
    have : i = 0 := by simpa using hi
    subst this
    cases b <;> simp [w, IntKind.wrap] <;> rfl
  · rfl
theorem cmpOr2 (a b : Int) : cmp_Or_api_Errno [a, b] = some (if a = 0 then b else a) := by
  unfold cmp_Or_api_Errno
  rw [loop_find (step := cmp_Or_api_Errno.s1 [a, b]) [a, b] (fun x => if x = 0 then none else some x) (fun c => Sum.inr c) (Sum.inl ()) rfl ?_ ?_ (by simp)]
  · by_cases h1 : a = 0
    · by_cases h2 : b = 0
      · simp [h1, h2]
      · simp [h1, h2]
    · simp [h1]
  · intro i hi
    simp only [cmp_Or_api_Errno.s1, lt_len hi, if_true, at_lt hi, Option.bind_some]
    by_cases e : [a, b][i] = 0
    · simp only [e, not_true, if_false, if_true]; rw [wn (by simp at hi; omega)]
    · simp only [e, not_false_eq_true, if_true, if_false]
  · simp only [cmp_Or_api_Errno.s1, not_lt_len, if_false]
theorem index1_eq (p : List api_Bound) (h : p.length < 16777216) : slices_ContainsFunc_api_Bound__shapes_boundsErr_c1 p = some (p.any (fun b => !num b)) := by
  unfold slices_ContainsFunc_api_Bound__shapes_boundsErr_c1 slices_IndexFunc_api_Bound__shapes_boundsErr_c1
  obtain ⟨k, hk⟩ := loop_any (step := slices_IndexFunc_api_Bound__shapes_boundsErr_c1.s1 p) p (fun b => !num b) (fun i => Sum.inr i) (Sum.inl ()) (s := 0) rfl (fun i hi => by
    simp only [slices_IndexFunc_api_Bound__shapes_boundsErr_c1.s1, lt_len hi, if_true, at_lt hi, Option.bind_some]
    have : shapes_boundsErr_c1 p[i] = !num p[i] := by unfold shapes_boundsErr_c1 num; simp
    rw [this, wn (by omega)]; split <;> rfl) (by simp only [slices_IndexFunc_api_Bound__shapes_boundsErr_c1.s1, not_lt_len, if_false]) (by omega)
  rw [hk]
  by_cases e : p.any (fun b => !num b) = true
  · rw [if_pos e, e]; simp
  · rw [if_neg e, eq_false_of_ne_true e]; rfl
theorem index2_eq (p : List api_Bound) (h : p.length < 16777216) : slices_ContainsFunc_api_Bound__shapes_boundsErr_c2 p = some (p.any (fun b => decide (shapes_extent b > 512))) := by
  unfold slices_ContainsFunc_api_Bound__shapes_boundsErr_c2 slices_IndexFunc_api_Bound__shapes_boundsErr_c2
  obtain ⟨k, hk⟩ := loop_any (step := slices_IndexFunc_api_Bound__shapes_boundsErr_c2.s1 p) p (fun b => decide (shapes_extent b > 512)) (fun i => Sum.inr i) (Sum.inl ()) (s := 0) rfl (fun i hi => by
    simp only [slices_IndexFunc_api_Bound__shapes_boundsErr_c2.s1, lt_len hi, if_true, at_lt hi, Option.bind_some]
    unfold shapes_boundsErr_c2
    rw [wn (by omega)]; split <;> rfl) (by simp only [slices_IndexFunc_api_Bound__shapes_boundsErr_c2.s1, not_lt_len, if_false]) (by omega)
  rw [hk]
  by_cases e : p.any (fun b => decide (shapes_extent b > 512)) = true
  · rw [if_pos e, e]; simp
  · rw [if_neg e, eq_false_of_ne_true e]; rfl
theorem size_eq {p : List api_Bound} (h : p.length < 16777216) : shapes_size p = some (prodE (p.map shapes_extent)) := by
  unfold shapes_size
  rw [extents_eq h]; simp only [Option.bind_some]
  rw [product_eq (by simpa using h)]; rfl
theorem boundsErr_eq (p : List api_Bound) : shapes_boundsErr p = some (bErr p) := by
  unfold shapes_boundsErr bErr
  by_cases h7 : (p.length : Int) > 7
  · simp only [h7, if_true]
  · have h : p.length < 16777216 := by omega
    simp only [h7, if_false, index1_eq p h, index2_eq p h, size_eq h, broken1, Option.bind_some]
    by_cases e1 : p.any (fun b => !num b) = true
    · simp only [e1, if_true]
    · simp only [e1, if_false]
      by_cases e2 : p.any (fun b => decide (shapes_extent b > 512)) = true
      · simp [e2]
      · simp only [e2, if_false]
        by_cases e3 : prodE (p.map shapes_extent) > 512
        · have : ¬ prodE (p.map shapes_extent) ≤ 512 := by omega
          simp [e3, this]
        · have : prodE (p.map shapes_extent) ≤ 512 := by omega
          simp [e3, this]
theorem refBoundsErr_eq (p : List api_Bound) : ref15_BoundsErr p = some (bErr p) := by
  unfold ref15_BoundsErr bErr
  by_cases h7 : (p.length : Int) > 7
  · simp only [h7, if_true]
  · have h : p.length < 16777216 := by omega
    simp only [h7, if_false, refExtents_eq h, Option.bind_some]
    rw [loop_find (step := ref15_BoundsErr.s1 p) p (fun b => if (!num b) = true then some (2 : Int) else none) (fun c => Sum.inr c) (Sum.inl ()) rfl ?_ ?_ (by omega), findSome_const]
    · by_cases e1 : p.any (fun b => !num b) = true
      · simp only [e1, if_true, Option.bind_some]
      · simp only [e1, if_false, Option.bind_some]
        rw [loop_find (step := ref15_BoundsErr.s2 (p.map shapes_extent)) (p.map shapes_extent) (fun x => if (decide (x > 512)) = true then some (8 : Int) else none) (fun c => Sum.inr c) (Sum.inl ()) rfl ?_ ?_ (by simp; omega), findSome_const, List.any_map]
        · by_cases e2 : p.any (fun b => decide (shapes_extent b > 512)) = true
          · have e2' : p.any ((fun x => decide (x > 512)) ∘ shapes_extent) = true := e2
            simp only [e2, e2', if_true, Option.bind_some, Bool.false_eq_true, if_false]
          · have e2' : ¬ p.any ((fun x => decide (x > 512)) ∘ shapes_extent) = true := e2
            simp only [e2, e2', if_false, Option.bind_some, Bool.false_eq_true]
            rw [refProduct_eq (by simpa using h)]
            simp only [Option.bind_some]
            split <;> rfl
        · intro i hi
          simp only [ref15_BoundsErr.s2, lt_len hi, if_true, at_lt hi, Option.bind_some]
          by_cases e : (p.map shapes_extent)[i] > 512
          · simp only [e, if_true, decide_true]
          · simp only [e, if_false, decide_false, Bool.false_eq_true]; rw [wn (by simp at hi; omega)]
        · simp only [ref15_BoundsErr.s2, not_lt_len, if_false]
    · intro i hi
      simp only [ref15_BoundsErr.s1, lt_len hi, if_true, at_lt hi, Option.bind_some, ref15_isBound, within_eq, num, shapes_isNumber]
      rw [wn (by omega)]
      by_cases e1 : shapes_inside p[i].Low (-2147483647) 2147483647 = true
      · by_cases e2 : shapes_inside p[i].High (-2147483647) 2147483647 = true
        · simp [e1, e2]
        · simp [e1, e2]
      · simp [e1]
    · simp only [ref15_BoundsErr.s1, not_lt_len, if_false]
end Go.Sh
namespace Go.Sh
open Go.Lx
set_option linter.unusedVariables false
set_option linter.unusedSimpArgs false
theorem before_eq : ∀ (n : Nat) (a b : List Int), a.length < n → n ≤ 16777217 → b.length < 16777216 → ∃ r, base_Before.N n a b = some r ∧ (r = true → a ≠ b)
  | 0, a, b, h, _, _ => absurd h (Nat.not_lt_zero _)
  | n + 1, a, b, h, hn, hb => by
    show ∃ r, base_Before.F (base_Before.N n) a b = some r ∧ _
    unfold base_Before.F
    match a, b with
    | [], b => exact ⟨_, rfl, fun h => by simp at h; intro q; subst q; simp at h⟩
    | x :: a, [] => exact ⟨_, rfl, fun h => by simp at h; omega⟩
    | x :: a, y :: b =>
      have e0 : ¬ ((((x :: a).length : Int) == 0) || (((y :: b).length : Int) == 0)) = true := by simp; omega
      have c1 : cut (x :: a) 1 ((x :: a).length : Int) = some a := by unfold cut; rw [if_pos (by simp; omega)]; simp
      have c2 : cut (y :: b) 1 ((y :: b).length : Int) = some b := by unfold cut; rw [if_pos (by simp; omega)]; simp
      have a1 : at_ (x :: a) 0 = some x := rfl
      have a2 : at_ (y :: b) 0 = some y := rfl
      rw [if_neg e0]
      simp only [a1, a2, Option.bind_some]
      by_cases h1 : x < y
      · exact ⟨true, by simp [h1], fun _ q => by simp at q; omega⟩
      · by_cases h2 : x = y
        · obtain ⟨r, h3, h4⟩ := before_eq n a b (by simp at h; omega) (by omega) (by simp at hb; omega)
          refine ⟨r, ?_, fun hr q => h4 hr (by simp at q; exact q.2)⟩
          subst h2
          rw [if_neg h1, if_pos rfl, c1, c2]
          simp only [Option.bind_some, h3]
        · exact ⟨false, by simp [h1, h2], fun q => by cases q⟩
theorem before_tri : ∀ (n m : Nat) (a b : List Int), base_Before.N n a b = some false → base_Before.N m b a = some false → a.length = b.length → a = b
  | 0, m, a, b, h, _, _ => by cases h
  | n + 1, 0, a, b, _, h, _ => by cases h
  | n + 1, m + 1, a, b, h, k, hl => by
    change base_Before.F (base_Before.N n) a b = some false at h
    change base_Before.F (base_Before.N m) b a = some false at k
    unfold base_Before.F at h k
    match a, b, hl with
    | [], [], _ => rfl
    | x :: a, y :: b, hl =>
      have e0 : ¬ ((((x :: a).length : Int) == 0) || (((y :: b).length : Int) == 0)) = true := by simp; omega
      have e1 : ¬ ((((y :: b).length : Int) == 0) || (((x :: a).length : Int) == 0)) = true := by simp; omega
      have c1 : cut (x :: a) 1 ((x :: a).length : Int) = some a := by unfold cut; rw [if_pos (by simp; omega)]; simp
      have c2 : cut (y :: b) 1 ((y :: b).length : Int) = some b := by unfold cut; rw [if_pos (by simp; omega)]; simp
      have a1 : at_ (x :: a) 0 = some x := rfl
      have a2 : at_ (y :: b) 0 = some y := rfl
      rw [if_neg e0] at h
      rw [if_neg e1] at k
      simp only [a1, a2, Option.bind_some, c1, c2] at h k
      by_cases h1 : x < y
      · simp [h1] at h
      · by_cases h2 : y < x
        · simp [h2] at k
        · have h3 : x = y := by omega
          subst h3
          simp only [h1, if_false, if_true] at h k
          obtain ⟨r, hr, h⟩ := Option.bind_eq_some_iff.1 h
          obtain ⟨r', hr', k⟩ := Option.bind_eq_some_iff.1 k
          cases h
          cases k
          rw [before_tri n m a b hr hr' (by simpa using hl)]
theorem ints_eq {a b : List Int} (ha : a.length < 16777216) (hb : b.length < 16777216) : base_Ints a b = some (a == b) := by
  unfold base_Ints
  have hF : (16777217 : Nat) ≤ FUEL := by unfold FUEL; omega
  have step : ∀ (n : Nat) (a b : List Int) (r : Bool), base_Before.N n a b = some r → base_Before.N (n + 1) a b = some r := by
    intro n
    induction n with
    | zero => intro a b r h; cases h
    | succ n ih =>
      intro a b r h
      change base_Before.F (base_Before.N n) a b = some r at h
      show base_Before.F (base_Before.N (n + 1)) a b = some r
      unfold base_Before.F at h ⊢
      split
      · rename_i hc; rw [if_pos hc] at h; exact h
      · rename_i hc
        rw [if_neg hc] at h
        obtain ⟨x4, h4, h⟩ := Option.bind_eq_some_iff.1 h
        obtain ⟨x5, h5, h⟩ := Option.bind_eq_some_iff.1 h
        rw [h4, h5]
        simp only [Option.bind_some]
        split
        · rename_i hd; rw [if_pos hd] at h; exact h
        · rename_i hd
          rw [if_neg hd] at h
          rw [h4, h5] at h
          simp only [Option.bind_some] at h ⊢
          split
          · rename_i he
            rw [if_pos he] at h
            obtain ⟨x6, h6, h⟩ := Option.bind_eq_some_iff.1 h
            obtain ⟨x7, h7, h⟩ := Option.bind_eq_some_iff.1 h
            obtain ⟨x8, h8, h⟩ := Option.bind_eq_some_iff.1 h
            rw [h6, h7]
            simp only [Option.bind_some]
            rw [ih _ _ _ h8]
            exact h
          · rename_i he; rw [if_neg he] at h; exact h
  have up : ∀ (n m : Nat) (a b : List Int) (r : Bool), n ≤ m → base_Before.N n a b = some r → base_Before.N m a b = some r := by
    intro n m a b r hnm h
    induction hnm with
    | refl => exact h
    | step _ ih => exact step _ _ _ _ ih
  have get : ∀ a b : List Int, a.length < 16777216 → b.length < 16777216 → ∃ r, base_Before a b = some r ∧ (r = true → a ≠ b) := by
    intro a b ha hb
    obtain ⟨r, h1, h2⟩ := before_eq 16777217 a b (by omega) (Nat.le_refl _) hb
    exact ⟨r, up _ _ _ _ _ hF h1, h2⟩
  by_cases hl : (a.length : Int) = (b.length : Int)
  · rw [if_pos hl]
    obtain ⟨r, h1, h2⟩ := get a b ha hb
    obtain ⟨r', h3, h4⟩ := get b a hb ha
    rw [h1, h3]
    simp only [Option.bind_some]
    cases r with
    | true => simp; exact h2 rfl
    | false =>
      cases r' with
      | true => simp; exact fun q => h4 rfl q.symm
      | false => simp; exact before_tri _ _ _ _ h1 h3 (by omega)
  · rw [if_neg hl]
    have : a ≠ b := fun q => hl (by rw [q])
    simp [this]
end Go.Sh
namespace Go.Sh
open Go.Lx
set_option linter.unusedVariables false
set_option linter.unusedSimpArgs false
def P : List Int → Int
  | [] => 1
  | x :: xs => x * P xs
def H : List Int → List Int → Int
  | e :: es, d :: ds => d + e * H es ds
  | _, _ => 0
def dig : List Int → Int → List Int
  | [], _ => []
  | e :: es, n => n % e :: dig es (n / e)
def inBase : List Int → List Int → Prop
  | e :: es, d :: ds => 0 ≤ d ∧ d < e ∧ inBase es ds
  | [], [] => True
  | _, _ => False
theorem P_pos : ∀ {es : List Int}, (∀ e, e ∈ es → 1 ≤ e) → 1 ≤ P es
  | [], _ => Int.le_refl 1
  | e :: es, h => by
    have h1 := h e (.head _)
    have h2 := P_pos (es := es) fun x hx => h x (.tail _ hx)
    have := Int.mul_le_mul h1 h2 (by omega) (by omega)
    simpa [P] using this
theorem P_tail {e : Int} {es : List Int} (h : ∀ x, x ∈ e :: es → 1 ≤ x) : P es ≤ P (e :: es) := by
  have h1 := h e (.head _)
  have h2 := P_pos (es := es) fun x hx => h x (.tail _ hx)
  have := Int.mul_le_mul h1 (Int.le_refl (P es)) (by omega) (by omega)
  simpa [P] using this
theorem inBase_pos : ∀ {es ds : List Int}, inBase es ds → ∀ e, e ∈ es → 1 ≤ e
  | [], _, _, e, h => by cases h
  | e :: es, [], h, _, _ => by cases h
  | e :: es, d :: ds, ⟨h1, h2, h3⟩, x, hx => by
    cases hx with
    | head => omega
    | tail _ hx => exact inBase_pos h3 x hx
theorem H_range : ∀ {es ds : List Int}, inBase es ds → 0 ≤ H es ds ∧ H es ds < P es
  | [], [], _ => by simp [H, P]
  | [], _ :: _, h => by cases h
  | e :: es, [], h => by cases h
  | e :: es, d :: ds, ⟨h1, h2, h3⟩ => by
    obtain ⟨i1, i2⟩ := H_range h3
    have a1 : 0 ≤ e * H es ds := Int.mul_nonneg (by omega) i1
    have a2 : e * H es ds ≤ e * (P es - 1) := Int.mul_le_mul_of_nonneg_left (by omega) (by omega)
    rw [Int.mul_sub, Int.mul_one] at a2
    simp only [H, P]
    omega
theorem dig_H : ∀ {es ds : List Int}, inBase es ds → dig es (H es ds) = ds
  | [], [], _ => rfl
  | [], _ :: _, h => by cases h
  | e :: es, [], h => by cases h
  | e :: es, d :: ds, ⟨h1, h2, h3⟩ => by
    have q1 : (d + e * H es ds) % e = d := by rw [Int.add_mul_emod_self_left]; exact Int.emod_eq_of_lt h1 h2
    have q2 : (d + e * H es ds) / e = H es ds := by
      rw [Int.add_mul_ediv_left _ _ (by omega), Int.ediv_eq_zero_of_lt h1 h2]; omega
    simp only [H, dig, q1, q2, dig_H h3]
theorem dig_ok : ∀ {es : List Int} {n : Int}, (∀ e, e ∈ es → 1 ≤ e) → 0 ≤ n → n < P es → inBase es (dig es n) ∧ H es (dig es n) = n
  | [], n, _, h1, h2 => by simp [P] at h2; simp [inBase, dig, H]; omega
  | e :: es, n, h, h1, h2 => by
    have he := h e (.head _)
    have g1 : 0 ≤ n / e := Int.ediv_nonneg h1 (by omega)
    have g2 : n / e < P es := Int.ediv_lt_of_lt_mul (by omega) (by simp only [P] at h2; rw [Int.mul_comm]; exact h2)
    obtain ⟨i1, i2⟩ := dig_ok (es := es) (fun x hx => h x (.tail _ hx)) g1 g2
    refine ⟨⟨Int.emod_nonneg _ (by omega), Int.emod_lt_of_pos _ (by omega), i1⟩, ?_⟩
    simp only [dig, H, i2]
    exact Int.emod_add_mul_ediv n e
theorem dig_len : ∀ (es : List Int) (n : Int), (dig es n).length = es.length
  | [], n => rfl
  | e :: es, n => by simp [dig, dig_len es]
theorem P_zero : ∀ {es : List Int}, (∃ e, e ∈ es ∧ e = 0) → P es = 0
  | [], h => by obtain ⟨e, h, _⟩ := h; cases h
  | e :: es, h => by
    obtain ⟨x, hx, rfl⟩ := h
    cases hx with
    | head => simp [P]
    | tail _ hx => rw [P, P_zero ⟨0, hx, rfl⟩]; simp
theorem min_mul {a b m : Int} (ha : 1 ≤ a) (hb : 1 ≤ b) (hm : 0 ≤ m) : min (min a m * b) m = min (a * b) m := by
  rcases Int.le_total a m with h | h
  · rw [Int.min_eq_left h]
  · rw [Int.min_eq_right h]
    have h1 : m * 1 ≤ m * b := Int.mul_le_mul_of_nonneg_left hb hm
    have h2 : m * b ≤ a * b := Int.mul_le_mul_of_nonneg_right h (by omega)
    omega
theorem capP_eq : ∀ {xs : List Int} {a : Int}, (∀ x, x ∈ xs → 1 ≤ x ∧ x ≤ 512) → 1 ≤ a → a ≤ 513 → xs.foldl (fun a x => mn (w (a * mn x 513)) 513) a = min (a * P xs) 513
  | [], a, _, h1, h2 => by simp [P]; omega
  | x :: xs, a, h, h1, h2 => by
    obtain ⟨g1, g2⟩ := h x (.head _)
    have m1 : mn x 513 = x := by unfold mn; rw [if_neg (by omega)]
    have b1 : 1 * 1 ≤ a * x := Int.mul_le_mul h1 g1 (by omega) (by omega)
    have b2 : a * x ≤ 513 * 512 := Int.mul_le_mul h2 g2 (by omega) (by omega)
    have m2 : mn (w (a * x)) 513 = min (a * x) 513 := by
      rw [w_id (by omega) (by omega)]; unfold mn; split <;> omega
    rw [List.foldl_cons, m1, m2, capP_eq (fun y hy => h y (.tail _ hy)) (by omega) (by omega)]
    have hp := P_pos (es := xs) fun y hy => (h y (.tail _ hy)).1
    rw [min_mul (by omega) hp (by omega), P, Int.mul_assoc]
structure Ok (p : List api_Bound) : Prop where
  len : p.length ≤ 7
  num : ∀ b, b ∈ p → num b = true
  big : ∀ b, b ∈ p → shapes_extent b ≤ 512
  pos : ∀ b, b ∈ p → 0 ≤ shapes_extent b
  sz : prodE (p.map shapes_extent) ≤ 512
theorem ext_nonneg (b : api_Bound) : 0 ≤ shapes_extent b := by unfold shapes_extent mx; split <;> omega
theorem bErr_ok {p : List api_Bound} (h : bErr p = 0) : Ok p := by
  unfold bErr at h
  split at h
  · cases h
  split at h
  · cases h
  split at h
  · cases h
  split at h
  · cases h
  rename_i h1 h2 h3 h4
  refine ⟨by omega, fun b hb => ?_, fun b hb => ?_, fun b _ => ext_nonneg b, by omega⟩
  · simp only [List.any_eq_true, not_exists, not_and, Bool.not_eq_true', Bool.not_eq_false] at h2
    exact h2 b hb
  · simp only [List.any_eq_true, not_exists, not_and, decide_eq_true_eq] at h3
    have := h3 b hb
    omega
theorem prodE_P {xs : List Int} (h : ∀ x, x ∈ xs → 0 ≤ x ∧ x ≤ 512) (hs : prodE xs ≤ 512) : prodE xs = P xs ∧ 0 ≤ P xs := by
  unfold prodE at hs ⊢
  by_cases h0 : xs.any (fun x => 0 == x) = true
  · rw [if_pos h0]
    have : P xs = 0 := P_zero (by
      simp only [List.any_eq_true, beq_iff_eq] at h0
      obtain ⟨x, h1, h2⟩ := h0
      exact ⟨x, h1, h2.symm⟩)
    omega
  · rw [if_neg h0] at hs ⊢
    have hx : ∀ x, x ∈ xs → 1 ≤ x ∧ x ≤ 512 := fun x hx => by
      obtain ⟨h1, h2⟩ := h x hx
      simp only [List.any_eq_true, not_exists, not_and, beq_iff_eq] at h0
      have := h0 x hx
      omega
    have := capP_eq (a := 1) hx (by omega) (by omega)
    unfold capP at hs ⊢
    have hp := P_pos fun x hq => (hx x hq).1
    omega
theorem Ok.size {p : List api_Bound} (h : Ok p) : prodE (p.map shapes_extent) = P (p.map shapes_extent) ∧ 0 ≤ P (p.map shapes_extent) ∧ P (p.map shapes_extent) ≤ 512 := by
  have := prodE_P (xs := p.map shapes_extent) (fun x hx => by
    obtain ⟨b, hb, rfl⟩ := List.mem_map.1 hx
    exact ⟨h.pos b hb, h.big b hb⟩) h.sz
  have hs := h.sz
  omega
def exs (bs : List api_Bound) : List Int := bs.map shapes_extent
def str : Int → List Int → List Int
  | _, [] => []
  | s, e :: es => s :: str (w (s * e)) es
theorem str_len : ∀ (es : List Int) (s : Int), (str s es).length = es.length
  | [], s => rfl
  | e :: es, s => by simp [str, str_len es]
theorem str_fold : ∀ (es : List Int) (s : Int) (acc : List Int), (es.foldl (fun (b : Int × List Int) e => (w (b.1 * e), b.2 ++ [b.1])) (s, acc)).2 = acc ++ str s es
  | [], s, acc => by simp [str]
  | e :: es, s, acc => by rw [List.foldl_cons, str_fold es]; simp [str]
theorem strides_eq {p : List Int} (h : p.length < 16777216) : shapes_strides p = some (str 1 p) := by
  unfold shapes_strides
  rw [loop_fold (step := shapes_strides.s1 p) p (fun i (b : Int × List Int) => (b.1, i, b.2)) (fun b => b.2) (fun b e => (w (b.1 * e), b.2 ++ [b.1])) (fun i b => b.2.length = i) (a := (1, [])) rfl ?_ ?_ rfl (by omega)]
  · simp only [Option.bind_some]; rw [str_fold]; rfl
  · intro i hi b hb
    refine ⟨?_, by simp [hb]⟩
    simp only [shapes_strides.s1, lt_len hi, if_true, at_lt hi, Option.bind_some]
    rw [app_one (by omega), wn (by omega)]; rfl
  · intro b _; simp only [shapes_strides.s1, not_lt_len, if_false]
end Go.Sh
namespace Go.Sh
open Go.Lx
set_option linter.unusedVariables false
set_option linter.unusedSimpArgs false
theorem extents_eq' {p : List api_Bound} (h : p.length < 16777216) : shapes_extents p = some (exs p) := extents_eq h
theorem refExtents_eq' {p : List api_Bound} (h : p.length < 16777216) : ref15_Extents p = some (exs p) := refExtents_eq h
theorem foldr_place : ∀ {es ds : List Int}, inBase es ds → P es ≤ 512 → (∀ e, e ∈ es → e ≤ 512) → (es.zip ds).foldr (fun (t : Int × Int) b => w (w (b * t.1) + t.2)) 0 = H es ds
  | [], [], _, _, _ => rfl
  | [], _ :: _, h, _, _ => by cases h
  | _ :: _, [], h, _, _ => by cases h
  | e :: es, d :: ds, h, hp, hb => by
    have hpos := inBase_pos h
    have ht := P_tail hpos
    have hr := H_range h
    obtain ⟨h1, h2, h3⟩ := h
    have hq := H_range h3
    rw [List.zip_cons_cons, List.foldr_cons, foldr_place h3 (by omega) (fun x hx => hb x (.tail _ hx))]
    simp only [H] at hr ⊢
    rw [Int.mul_comm e] at hr
    have e0 : 0 ≤ H es ds * e := Int.mul_nonneg hq.1 (by omega)
    have e1 : w (H es ds * e) = H es ds * e := w_id (by omega) (by omega)
    rw [e1, w_id (by omega) (by omega), Int.mul_comm e]
    omega
theorem refPlace_eq {es ds : List Int} (h : inBase es ds) (hp : P es ≤ 512) (hb : ∀ e, e ∈ es → e ≤ 512) (hl : es.length = ds.length) (hn : es.length < 16777216) : ref15_Place es ds = some (H es ds) := by
  unfold ref15_Place
  have hlen : (es.zip ds).reverse.length = es.length := by simp; omega
  rw [loop_fold (step := ref15_Place.s1 es ds) (es.zip ds).reverse (fun i (b : Int) => (b, (es.length : Int) - 1 - i)) (fun b => b) (fun b (t : Int × Int) => w (w (b * t.1) + t.2)) (fun _ _ => True) (a := 0) (by rw [w_id (by omega) (by omega)]; simp) ?_ ?_ trivial (by omega)]
  · rw [List.foldl_reverse, foldr_place h hp hb]; rfl
  · intro i hi b _
    refine ⟨?_, trivial⟩
    rw [hlen] at hi
    have c : ((es.length : Int) - 1 - (i : Int)) = ((es.length - 1 - i : Nat) : Int) := by omega
    have k : es.length - 1 - i < es.length := by omega
    have k2 : es.length - 1 - i < ds.length := by omega
    simp only [ref15_Place.s1, c]
    rw [if_pos (by omega), at_lt k, at_lt k2]
    simp only [Option.bind_some]
    have hz : (es.zip ds).reverse[i]'(by omega) = (es[es.length - 1 - i], ds[es.length - 1 - i]) := by
      rw [List.getElem_reverse]
      simp only [List.getElem_zip, List.length_zip]
      have : min es.length ds.length - 1 - i = es.length - 1 - i := by omega
      simp only [this]
    rw [hz]
    have e2 : w (((es.length - 1 - i : Nat) : Int) - 1) = (es.length : Int) - 1 - ((i + 1 : Nat) : Int) := by rw [w_id (by omega) (by omega)]; omega
    rw [e2]
  · intro b _
    rw [hlen]
    simp only [ref15_Place.s1]
    rw [if_neg (by omega)]
theorem dig_fold : ∀ (es : List Int) (n : Int) (acc : List Int), (es.foldl (fun (b : Int × List Int) e => (b.1 / e, b.2 ++ [b.1 % e])) (n, acc)).2 = acc ++ dig es n
  | [], n, acc => by simp [dig]
  | e :: es, n, acc => by rw [List.foldl_cons, dig_fold es]; simp [dig]
theorem div_ok {n e : Int} (hn : 0 ≤ n) (hb : n ≤ 4611686018427387904) (he : 1 ≤ e) : rem n e = some (n % e) ∧ quo .i64 n e = some (n / e) ∧ 0 ≤ n / e ∧ n / e ≤ n := by
  have h0 : ¬ e = 0 := by omega
  have h1 : 0 ≤ n / e := Int.ediv_nonneg hn (by omega)
  have h2 : n / e ≤ n := Int.ediv_le_self e hn
  refine ⟨by unfold rem; rw [if_neg h0, Int.tmod_eq_emod_of_nonneg hn], ?_, h1, h2⟩
  unfold quo
  rw [if_neg h0, Int.tdiv_eq_ediv_of_nonneg hn]
  exact congrArg some (w_id (n := n / e) (by omega) (by omega))
theorem digits_eq {es : List Int} {n : Int} (h : ∀ e, e ∈ es → 1 ≤ e) (h0 : 0 ≤ n) (hb : n ≤ 4611686018427387904) (hl : es.length < 16777216) : shapes_digits es n = some (dig es n) := by
  unfold shapes_digits
  rw [loop_fold (step := shapes_digits.s1 es) es (fun i (b : Int × List Int) => (b.1, i, b.2)) (fun b => b.2) (fun b e => (b.1 / e, b.2 ++ [b.1 % e])) (fun i b => b.2.length = i ∧ 0 ≤ b.1 ∧ b.1 ≤ 4611686018427387904) (a := (n, [])) rfl ?_ ?_ ⟨rfl, h0, hb⟩ (by omega)]
  · simp only [Option.bind_some]; rw [dig_fold]; rfl
  · rintro i hi b ⟨k1, k2, k3⟩
    obtain ⟨d1, d2, d3, d4⟩ := div_ok k2 k3 (h es[i] (List.getElem_mem hi))
    refine ⟨?_, by simp [k1], d3, by simp only; omega⟩
    simp only [shapes_digits.s1, lt_len hi, if_true, at_lt hi, Option.bind_some, d1, d2]
    rw [app_one (by omega), wn (by omega)]; rfl
  · intro b _; simp only [shapes_digits.s1, not_lt_len, if_false]
theorem refIndexes_eq {es : List Int} {n : Int} (h : ∀ e, e ∈ es → 1 ≤ e) (h0 : 0 ≤ n) (hb : n ≤ 4611686018427387904) (hl : es.length < 16777216) : ref15_Indexes es n = some (dig es n) := by
  unfold ref15_Indexes
  rw [loop_fold (step := ref15_Indexes.s1 es) es (fun i (b : Int × List Int) => (b.1, i, b.2)) (fun b => b.2) (fun b e => (b.1 / e, b.2 ++ [b.1 % e])) (fun i b => b.2.length = i ∧ 0 ≤ b.1 ∧ b.1 ≤ 4611686018427387904) (a := (n, [])) rfl ?_ ?_ ⟨rfl, h0, hb⟩ (by omega)]
  · simp only [Option.bind_some]; rw [dig_fold]; rfl
  · rintro i hi b ⟨k1, k2, k3⟩
    obtain ⟨d1, d2, d3, d4⟩ := div_ok k2 k3 (h es[i] (List.getElem_mem hi))
    refine ⟨?_, by simp [k1], d3, by simp only; omega⟩
    simp only [ref15_Indexes.s1, lt_len hi, if_true, at_lt hi, Option.bind_some, d1, d2]
    rw [app_one (by omega)]
    simp only [Option.bind_some]
    rw [wn (by omega)]
  · intro b _; simp only [ref15_Indexes.s1, not_lt_len, if_false]
end Go.Sh
namespace Go.Sh
open Go.Lx
set_option linter.unusedVariables false
set_option linter.unusedSimpArgs false
def badEl (xs : List Int) : Sum Nat Unit := scanE (fun i b x => if shapes_isInteger x = true then .inr b else .inl i) 0 xs ()
def chk (a : api_Array) : Int × Int :=
  if bErr a.Bounds ≠ 0 then (0, bErr a.Bounds)
  else if (a.Elements.length : Int) ≠ prodE (exs a.Bounds) then (0, 10)
  else match badEl a.Elements with | .inl i => ((i : Int), 2) | .inr _ => (0, 0)
theorem isInteger_eq (x : Int) : ref15_IsInteger x = shapes_isInteger x := by unfold ref15_IsInteger shapes_isInteger; exact within_eq _ _ _
theorem checkArray_eq {a : api_Array} (h : a.Elements.length < 16777216) : shapes_CheckArray a = some (chk a) := by
  unfold shapes_CheckArray chk
  rw [boundsErr_eq]
  simp only [Option.bind_some]
  by_cases hb : bErr a.Bounds = 0
  · have hl7 := (bErr_ok hb).len
    simp only [hb, not_true, if_false, ne_eq]
    rw [size_eq (by omega)]
    simp only [Option.bind_some]
    by_cases hl : (a.Elements.length : Int) = prodE (exs a.Bounds)
    · have hl' : (a.Elements.length : Int) = prodE (a.Bounds.map shapes_extent) := hl
      simp only [hl', hl, not_true, if_false]
      unfold shapes_firstBad_int__shapes_CheckArray_c1
      rw [loop_scan (step := shapes_firstBad_int__shapes_CheckArray_c1.s1 a.Elements) a.Elements (fun i (_ : Unit) => i) (fun k : Nat => Sum.inr ((k : Int), 2)) (fun _ => Sum.inl ()) (fun i b x => if shapes_isInteger x = true then .inr b else .inl i) (fun _ _ => True) (a := ()) rfl ?_ ?_ trivial (by omega)]
      · unfold badEl
        cases scanE (fun i b x => if shapes_isInteger x = true then Sum.inr b else Sum.inl i) 0 a.Elements () <;> simp [hl, exs]
      · intro i hi b _
        refine ⟨?_, fun _ _ => trivial⟩
        simp only [shapes_firstBad_int__shapes_CheckArray_c1.s1, lt_len hi, if_true, at_lt hi, Option.bind_some, shapes_CheckArray_c1, broken1]
        by_cases hq : shapes_isInteger a.Elements[i] = true
        · simp only [hq, if_true, not_true, if_false]; rw [wn (by omega)]
        · simp only [hq, if_false, Bool.false_eq_true]; simp
      · intro b _; simp only [shapes_firstBad_int__shapes_CheckArray_c1.s1, not_lt_len, if_false]
    · have hl' : ¬ (a.Elements.length : Int) = prodE (a.Bounds.map shapes_extent) := hl
      simp [hl', hl, exs]
  · simp [hb]
theorem refCheck_eq {a : api_Array} (h : a.Elements.length < 16777216) : ref15_Check a = some (chk a) := by
  unfold ref15_Check chk
  rw [refBoundsErr_eq]
  simp only [Option.bind_some]
  by_cases hb : bErr a.Bounds = 0
  · have hl7 := (bErr_ok hb).len
    simp only [hb, not_true, if_false, ne_eq]
    rw [refExtents_eq' (by omega)]
    simp only [Option.bind_some]
    rw [refProduct_eq (by simp [exs]; omega)]
    simp only [Option.bind_some]
    by_cases hl : (a.Elements.length : Int) = prodE (exs a.Bounds)
    · simp only [hl, not_true, if_false]
      rw [loop_scan (step := ref15_Check.s1 a) a.Elements (fun i (_ : Unit) => i) (fun k : Nat => Sum.inr ((k : Int), 2)) (fun _ => Sum.inl ()) (fun i b x => if shapes_isInteger x = true then .inr b else .inl i) (fun _ _ => True) (a := ()) rfl ?_ ?_ trivial (by omega)]
      · unfold badEl
        cases scanE (fun i b x => if shapes_isInteger x = true then Sum.inr b else Sum.inl i) 0 a.Elements () <;> rfl
      · intro i hi b _
        refine ⟨?_, fun _ _ => trivial⟩
        simp only [ref15_Check.s1, lt_len hi, if_true, at_lt hi, Option.bind_some, isInteger_eq]
        by_cases hq : shapes_isInteger a.Elements[i] = true
        · simp only [hq, if_true, not_true, if_false]; rw [wn (by omega)]
        · simp only [hq, if_false, Bool.false_eq_true, not_false_eq_true, if_true]
      · intro b _; simp only [ref15_Check.s1, not_lt_len, if_false]
    · simp [hl]
  · simp [hb]
theorem refErr_eq {a : api_Array} (h : a.Elements.length < 16777216) : ref15_Err a = some (chk a).2 := by
  unfold ref15_Err; rw [refCheck_eq h]; rfl
theorem refCopy_eq {a : api_Array} (h1 : a.Bounds.length ≤ 16777216) (h : a.Elements.length < 16777216) : ref15_Copy a = some a := by
  unfold ref15_Copy; rw [copyBounds_eq h1, copyInts_eq (by omega)]; rfl
theorem few_ok {a : api_Array} (h : law15_few a = true) : a.Bounds.length ≤ 9 ∧ a.Elements.length ≤ 80 := by
  unfold law15_few at h
  simp at h
  omega
end Go.Sh
namespace Go.Sh
open Go.Lx
set_option linter.unusedVariables false
set_option linter.unusedSimpArgs false
theorem mx_max {a : Int} : mx 0 a = max 0 a := by unfold mx; split <;> omega
end Go.Sh
namespace Go.Sh
open Go.Lx
set_option linter.unusedVariables false
set_option linter.unusedSimpArgs false
abbrev Sec := List Int × List (List Int) × List Int
section
variable {p : List api_Bound} {q : List api_Subscript} {v : Sec}
structure SecOk (p : List api_Bound) (q : List api_Subscript) (v : Sec) : Prop where
  lists : v.2.1.length = p.length
  lens : v.2.2 = v.2.1.map fun l => (l.length : Int)
  small : ∀ l, l ∈ v.2.1 → l.length ≤ 512
  ins : ∀ t, t ∈ p.zip v.2.1 → ∀ x, x ∈ t.2 → shapes_inside x t.1.Low t.1.High = true
theorem SecOk.pos (h : SecOk p q v) : 0 ≤ prodE v.2.2 := by
  unfold prodE
  split
  · omega
  · rename_i h0
    have hr : ∀ x, x ∈ v.2.2 → 1 ≤ x ∧ x ≤ 512 := by
      intro x hx
      have hx' := hx
      rw [h.lens] at hx
      obtain ⟨l, hl, rfl⟩ := List.mem_map.1 hx
      have := h.small l hl
      simp only [List.any_eq_true, not_exists, not_and, beq_iff_eq] at h0
      have := h0 _ hx'
      omega
    have := capP_eq (a := 1) hr (by omega) (by omega)
    have hp := P_pos fun x hq => (hr x hq).1
    unfold capP
    omega
end
end Go.Sh
namespace Go.Sh
open Go.Lx
set_option linter.unusedVariables false
set_option linter.unusedSimpArgs false
structure Valid (a : api_Array) : Prop where
  b : bErr a.Bounds = 0
  len : (a.Elements.length : Int) = P (exs a.Bounds)
  int : ∀ x, x ∈ a.Elements → shapes_isInteger x = true
theorem badEl_iff : ∀ (xs : List Int) (i : Nat), (∀ x, x ∈ xs → shapes_isInteger x = true) ↔ scanE (fun i b x => if shapes_isInteger x = true then Sum.inr b else Sum.inl i) i xs () = .inr ()
  | [], i => by simp [scanE]
  | x :: xs, i => by
    simp only [scanE, List.mem_cons, forall_eq_or_imp]
    by_cases h : shapes_isInteger x = true
    · simp only [h, if_true, true_and]; exact badEl_iff xs (i + 1)
    · simp [h]
theorem chk_valid {a : api_Array} (h : (chk a).2 = 0) : Valid a := by
  unfold chk at h
  split at h
  · rename_i hb; exact absurd h hb
  rename_i hb
  split at h
  · cases h
  rename_i hl
  have hb' := Classical.not_not.1 hb
  have hl' := Classical.not_not.1 hl
  have ok := bErr_ok hb'
  refine ⟨hb', by have := ok.size; rw [hl']; exact this.1, ?_⟩
  cases hq : badEl a.Elements with
  | inl i => rw [hq] at h; cases h
  | inr u => exact (badEl_iff _ 0).2 hq
theorem valid_chk {a : api_Array} (h : Valid a) : chk a = (0, 0) := by
  unfold chk
  have ok := bErr_ok h.b
  have hl : (a.Elements.length : Int) = prodE (exs a.Bounds) := by rw [h.len]; exact ok.size.1.symm
  simp only [h.b, ne_eq, not_true, if_false, hl]
  have : badEl a.Elements = .inr () := (badEl_iff _ 0).1 h.int
  rw [this]
def elAt (xs : List Int) (o : Int) : Int := (xs[o.toNat]?).getD 0
def ofExt (es : List Int) : List api_Bound := es.map fun e => api_Bound.mk 1 e
theorem from_eq {es : List Int} (h : es.length < 16777216) : shapes_from es = some (ofExt es) := by
  unfold shapes_from
  rw [loop_map (step := shapes_from.s1 es) es (fun e => api_Bound.mk 1 e) (fun i b => (i, b)) (fun b => b) rfl ?_ ?_ (by omega)]
  · rfl
  · intro i hi b hb
    simp only [shapes_from.s1, lt_len hi, if_true, at_lt hi, Option.bind_some]
    rw [app_one (by omega), wn (by omega)]; rfl
  · intro b; simp only [shapes_from.s1, not_lt_len, if_false]
theorem refOf_eq {es xs : List Int} (h : es.length < 16777216) : ref15_Of es xs = some (api_Array.mk (ofExt es) xs) := by
  unfold ref15_Of
  rw [loop_map (step := ref15_Of.s1 es) es (fun e => api_Bound.mk 1 e) (fun i b => (i, b)) (fun b => b) rfl ?_ ?_ (by omega)]
  · rfl
  · intro i hi b hb
    simp only [ref15_Of.s1, lt_len hi, if_true, at_lt hi, Option.bind_some]
    rw [app_one (by omega), wn (by omega)]; rfl
  · intro b; simp only [ref15_Of.s1, not_lt_len, if_false]
theorem at_el {xs : List Int} {o : Int} (h0 : 0 ≤ o) (h1 : o < (xs.length : Int)) : at_ xs o = some (elAt xs o) := by
  unfold at_ elAt
  rw [if_pos h0]
  have : o.toNat < xs.length := by omega
  simp [this]
theorem arraysErr1 {a : api_Array} (ha : a.Elements.length < 16777216) : shapes_arraysErr [a] = some (chk a).2 := by
  unfold shapes_arraysErr
  rw [loop_find (step := shapes_arraysErr.s1 [a]) [a] (fun x => if (chk x).2 = 0 then none else some (chk x).2) (fun c => Sum.inr c) (Sum.inl ()) rfl ?_ ?_ (by simp)]
  · by_cases h1 : (chk a).2 = 0
    · simp [h1]
    · simp [h1]
  · intro i hi
    have hx : [a][i].Elements.length < 16777216 := by
      match i, hi with
      | 0, _ => exact ha
    simp only [shapes_arraysErr.s1, lt_len hi, if_true, at_lt hi, Option.bind_some, checkArray_eq hx]
    by_cases e : (chk [a][i]).2 = 0
    · simp only [e, not_true, if_false, if_true]; rw [wn (by simp at hi; omega)]
    · simp only [e, not_false_eq_true, if_true, if_false]
  · simp only [shapes_arraysErr.s1, not_lt_len, if_false]
theorem same_self {a : api_Array} (h1 : a.Bounds.length < 16777216) (h2 : a.Elements.length < 16777216) : ref15_Same a a = some true := by
  unfold ref15_Same
  rw [ints_eq h2 h2]
  simp only [Option.bind_some, beq_self_eq_true, not_true, if_false]
  rw [loop_find (step := ref15_Same.s1 a a) a.Bounds (fun _ => (none : Option Bool)) (fun c => Sum.inr c) (Sum.inl ()) rfl ?_ ?_ (by omega)]
  · have : a.Bounds.findSome? (fun _ => (none : Option Bool)) = none := by simp
    rw [this]; rfl
  · intro i hi
    simp only [ref15_Same.s1, lt_len hi, if_true, at_lt hi, Option.bind_some, beq_self_eq_true, Bool.and_self, not_true, if_false]
    rw [wn (by omega)]
  · simp only [ref15_Same.s1, not_lt_len, if_false]
theorem is_self {a : api_Array} {e : Int} (h1 : a.Bounds.length < 16777216) (h2 : a.Elements.length < 16777216) : law15_is a e a e = some true := by
  unfold law15_is; rw [if_pos rfl, same_self h1 h2]; rfl
theorem ofExt_exs {es : List Int} (h : ∀ e, e ∈ es → 0 ≤ e ∧ e ≤ 512) : exs (ofExt es) = es := by
  unfold exs ofExt
  rw [List.map_map]
  conv => rhs; rw [← List.map_id es]
  refine List.map_congr_left fun e he => ?_
  have := h e he
  show shapes_extent (api_Bound.mk 1 e) = id e
  unfold shapes_extent mx
  simp only [id]
  rw [w_id (n := e - 1) (by omega) (by omega), w_id (by omega) (by omega)]
  split <;> omega
theorem ofExt_bErr {es : List Int} (h : ∀ e, e ∈ es → 0 ≤ e ∧ e ≤ 512) (h7 : es.length ≤ 7) (hp : P es ≤ 512) : bErr (ofExt es) = 0 := by
  have hx := ofExt_exs h
  unfold bErr
  rw [if_neg (by simp [ofExt]; omega)]
  have n1 : (ofExt es).any (fun b => !num b) = false := by
    rw [List.any_eq_false]
    intro b hb
    obtain ⟨e, he, rfl⟩ := List.mem_map.1 hb
    have := h e he
    simp [num, shapes_isNumber, shapes_inside]
    omega
  have n2 : (ofExt es).any (fun b => decide (shapes_extent b > 512)) = false := by
    rw [List.any_eq_false]
    intro b hb
    have hm : shapes_extent b ∈ exs (ofExt es) := List.mem_map_of_mem hb
    rw [hx] at hm
    have := h _ hm
    simp; omega
  rw [n1, n2]
  simp only [Bool.false_eq_true, if_false]
  have hx' : (ofExt es).map shapes_extent = es := hx
  rw [hx']
  have hpe : prodE es ≤ 512 := by
    by_cases h0 : es.any (fun x => 0 == x) = true
    · unfold prodE; rw [if_pos h0]; omega
    · unfold prodE
      rw [if_neg h0]
      have hr : ∀ x, x ∈ es → 1 ≤ x ∧ x ≤ 512 := by
        intro x hx
        simp only [List.any_eq_true, not_exists, not_and, beq_iff_eq] at h0
        have := h0 x hx
        have := h x hx
        omega
      have := capP_eq (a := 1) hr (by omega) (by omega)
      unfold capP
      omega
  rw [if_neg (by omega)]
theorem elAt_mem {xs : List Int} {o : Int} (h0 : 0 ≤ o) (h1 : o < (xs.length : Int)) : elAt xs o ∈ xs := by
  unfold elAt
  have : o.toNat < xs.length := by omega
  simp [this]
end Go.Sh
namespace Go.Sh
open Go.Lx
set_option linter.unusedVariables false
set_option linter.unusedSimpArgs false
theorem cut_tail {xs : List Int} {k : Nat} (h : k ≤ xs.length) : cut xs (k : Int) (xs.length : Int) = some (xs.drop k) := by
  unfold cut; rw [if_pos (by omega)]; simp
end Go.Sh
namespace Go.Sh
open Go.Lx
set_option linter.unusedVariables false
set_option linter.unusedSimpArgs false
def nth (l : List Int) (d : Nat) : Int := (l[d]?).getD 0
def er : Nat → List Int → List Int
  | _, [] => []
  | 0, _ :: l => l
  | n + 1, x :: l => x :: er n l
def ins : Nat → Int → List Int → List Int
  | 0, x, l => x :: l
  | _ + 1, x, [] => [x]
  | n + 1, x, a :: l => a :: ins n x l
def S : List Int → List Int → Int
  | s :: ss, d :: ds => s * d + S ss ds
  | _, _ => 0
theorem nth_succ (x : Int) (l : List Int) (d : Nat) : nth (x :: l) (d + 1) = nth l d := by simp [nth]
theorem nth_zero (x : Int) (l : List Int) : nth (x :: l) 0 = x := by simp [nth]
theorem nth_lt {l : List Int} {d : Nat} (h : d < l.length) : at_ l (d : Int) = some (nth l d) := by rw [at_lt h]; simp [nth, h]
theorem er_eq : ∀ (n : Nat) (l : List Int), l.take n ++ l.drop (n + 1) = er n l
  | n, [] => by simp [er]
  | 0, x :: l => by simp [er]
  | n + 1, x :: l => by simp only [List.take_succ_cons, List.drop_succ_cons, List.cons_append, er]; rw [er_eq n l]
theorem er_len : ∀ (n : Nat) (l : List Int), n < l.length → (er n l).length + 1 = l.length
  | n, [], h => by simp at h
  | 0, x :: l, h => by simp [er]
  | n + 1, x :: l, h => by
    have := er_len n l (by simpa using h)
    simp only [er, List.length_cons]
    omega
theorem ins_len : ∀ (n : Nat) (x : Int) (l : List Int), (ins n x l).length = l.length + 1
  | 0, x, l => rfl
  | n + 1, x, [] => rfl
  | n + 1, x, a :: l => by simp only [ins, List.length_cons, ins_len n x l]
theorem mem_er : ∀ {n : Nat} {l : List Int} {e : Int}, e ∈ l → e = nth l n ∨ e ∈ er n l
  | n, [], e, h => by cases h
  | 0, x :: l, e, h => by
    cases h with
    | head => exact .inl (nth_zero _ _).symm
    | tail _ h => exact .inr h
  | n + 1, x :: l, e, h => by
    cases h with
    | head => exact .inr (.head _)
    | tail _ h =>
      rcases mem_er (n := n) h with h1 | h1
      · exact .inl (by rw [nth_succ]; exact h1)
      · exact .inr (.tail _ h1)
theorem er_mem : ∀ {n : Nat} {l : List Int} {e : Int}, e ∈ er n l → e ∈ l
  | n, [], e, h => by simp [er] at h
  | 0, x :: l, e, h => .tail _ h
  | n + 1, x :: l, e, h => by
    cases h with
    | head => exact .head _
    | tail _ h => exact .tail _ (er_mem h)
theorem P_er : ∀ (n : Nat) (l : List Int), n < l.length → P l = nth l n * P (er n l)
  | n, [], h => by simp at h
  | 0, x :: l, h => by rw [nth_zero]; rfl
  | n + 1, x :: l, h => by
    rw [nth_succ, er, P, P, P_er n l (by simpa using h), ← Int.mul_assoc, ← Int.mul_assoc, Int.mul_comm x]
theorem S_ins : ∀ (n : Nat) (ss ds : List Int) (i : Int), n < ss.length → ds.length + 1 = ss.length → S ss (ins n i ds) = S (er n ss) ds + nth ss n * i
  | n, [], ds, i, h, _ => by simp at h
  | 0, s :: ss, ds, i, h, _ => by rw [nth_zero]; simp only [ins, er, S]; omega
  | n + 1, s :: ss, [], i, h, hl => by simp at h hl; subst hl; simp at h
  | n + 1, s :: ss, d :: ds, i, h, hl => by
    rw [nth_succ]
    simp only [ins, er, S]
    rw [S_ins n ss ds i (by simpa using h) (by simpa using hl)]
    omega
theorem base_ins : ∀ {n : Nat} {es ds : List Int} {i : Int}, n < es.length → inBase (er n es) ds → 0 ≤ i → i < nth es n → inBase es (ins n i ds)
  | n, [], ds, i, h, _, _, _ => by simp at h
  | 0, e :: es, ds, i, h, hb, h0, h1 => ⟨h0, by rw [nth_zero] at h1; exact h1, hb⟩
  | n + 1, e :: es, [], i, h, hb, h0, h1 => by cases hb
  | n + 1, e :: es, d :: ds, i, h, hb, h0, h1 => by
    obtain ⟨b1, b2, b3⟩ := hb
    rw [nth_succ] at h1
    exact ⟨b1, b2, base_ins (by simpa using h) b3 h0 h1⟩
theorem base_er : ∀ {n : Nat} {es ds : List Int}, n < es.length → inBase es ds → inBase (er n es) (er n ds) ∧ ins n (nth ds n) (er n ds) = ds ∧ 0 ≤ nth ds n ∧ nth ds n < nth es n
  | n, [], ds, h, _ => by simp at h
  | n, e :: es, [], h, hb => by cases hb
  | 0, e :: es, d :: ds, h, ⟨b1, b2, b3⟩ => by
    rw [nth_zero, nth_zero]
    exact ⟨b3, rfl, b1, b2⟩
  | n + 1, e :: es, d :: ds, h, ⟨b1, b2, b3⟩ => by
    obtain ⟨g1, g2, g3, g4⟩ := base_er (n := n) (by simpa using h) b3
    rw [nth_succ, nth_succ]
    exact ⟨⟨b1, b2, g1⟩, by simp only [er, ins]; rw [g2], g3, g4⟩
theorem ins_nth : ∀ (n : Nat) (i : Int) (l : List Int), n ≤ l.length → nth (ins n i l) n = i
  | 0, i, l, _ => nth_zero _ _
  | n + 1, i, [], h => by simp at h
  | n + 1, i, a :: l, h => by simp only [ins]; rw [nth_succ]; exact ins_nth n i l (by simpa using h)
theorem S_str : ∀ (es ds : List Int) (s : Int), inBase es ds → 1 ≤ s → s * P es ≤ 512 → S (str s es) ds = s * H es ds ∧ ∀ x, x ∈ str s es → 0 ≤ x
  | [], [], s, _, _, _ => by simp [str, S, H]
  | [], _ :: _, _, h, _, _ => by cases h
  | _ :: _, [], _, h, _, _ => by cases h
  | e :: es, d :: ds, s, ⟨h1, h2, h3⟩, hs, hp => by
    have hpos := P_pos (inBase_pos h3)
    have e0 : s * P (e :: es) = s * e * P es := by simp [P, Int.mul_assoc]
    rw [e0] at hp
    have e1 : 1 * 1 ≤ s * e := Int.mul_le_mul hs (by omega) (by omega) (by omega)
    have e2 : s * e * 1 ≤ s * e * P es := Int.mul_le_mul_of_nonneg_left hpos (by omega)
    have w1 : w (s * e) = s * e := w_id (by omega) (by omega)
    obtain ⟨i1, i2⟩ := S_str es ds (s * e) h3 (by omega) hp
    simp only [str, S, w1, H]
    refine ⟨by rw [i1, Int.mul_add, Int.mul_assoc], ?_⟩
    intro x hx
    cases hx with
    | head => omega
    | tail _ hx => exact i2 x hx
theorem S_nonneg : ∀ (ss ds : List Int), (∀ x, x ∈ ss → 0 ≤ x) → (∀ x, x ∈ ds → 0 ≤ x) → 0 ≤ S ss ds
  | [], ds, _, _ => by cases ds <;> simp [S]
  | s :: ss, [], _, _ => by simp [S]
  | s :: ss, d :: ds, h1, h2 => by
    have a := Int.mul_nonneg (h1 s (.head _)) (h2 d (.head _))
    have b := S_nonneg ss ds (fun x hx => h1 x (.tail _ hx)) (fun x hx => h2 x (.tail _ hx))
    simp only [S]; omega
def sumF (a : Int) (t : Int × Int) : Int := w (a + w (t.2 * t.1))
theorem fold_S : ∀ (ss ds : List Int) (a : Int), (∀ x, x ∈ ss → 0 ≤ x) → (∀ x, x ∈ ds → 0 ≤ x) → 0 ≤ a → a + S ss ds ≤ 1000000 → (ds.zip ss).foldl sumF a = a + S ss ds
  | [], ds, a, _, _, _, _ => by cases ds <;> simp [S]
  | s :: ss, [], a, _, _, _, _ => by simp [S]
  | s :: ss, d :: ds, a, h1, h2, h0, hb => by
    have p := Int.mul_nonneg (h1 s (.head _)) (h2 d (.head _))
    have q := S_nonneg ss ds (fun x hx => h1 x (.tail _ hx)) (fun x hx => h2 x (.tail _ hx))
    simp only [S] at hb ⊢
    have e : sumF a (d, s) = a + s * d := by
      unfold sumF
      simp only
      rw [w_id (n := s * d) (by omega) (by omega), w_id (by omega) (by omega)]
    rw [List.zip_cons_cons, List.foldl_cons, e, fold_S ss ds _ (fun x hx => h1 x (.tail _ hx)) (fun x hx => h2 x (.tail _ hx)) (by omega) (by omega)]
    omega
theorem inBase_nonneg : ∀ {es ds : List Int}, inBase es ds → ∀ x, x ∈ ds → 0 ≤ x
  | [], [], _, x, h => by cases h
  | [], _ :: _, h, _, _ => by cases h
  | _ :: _, [], h, _, _ => by cases h
  | e :: es, d :: ds, ⟨h1, h2, h3⟩, x, hx => by
    cases hx with
    | head => exact h1
    | tail _ hx => exact inBase_nonneg h3 x hx
def baseW (es : List Int) (d j : Nat) : Int := ((dig (er d es) j).zip (er d (str 1 es))).foldl sumF 0
def lineW (es : List Int) (d j : Nat) : List Int := (List.range (nth es d).toNat).map fun i : Nat => w (baseW es d j + w ((i : Int) * nth (str 1 es) d))
def linesW (es : List Int) (d : Nat) : List (List Int) := (List.range (prodE (er d es)).toNat).map fun j : Nat => lineW es d j
structure Exts (es : List Int) (d : Nat) : Prop where
  len : es.length ≤ 7
  d : d < es.length
  r : ∀ e, e ∈ es → 0 ≤ e ∧ e ≤ 512
  p : P es ≤ 512
theorem prodE_small {xs : List Int} (h : ∀ x, x ∈ xs → 0 ≤ x ∧ x ≤ 512) : 0 ≤ prodE xs ∧ prodE xs ≤ 513 ∧ (0 < prodE xs → (∀ x, x ∈ xs → 1 ≤ x) ∧ prodE xs = min (P xs) 513) := by
  unfold prodE
  by_cases h0 : xs.any (fun x => 0 == x) = true
  · rw [if_pos h0]; exact ⟨by omega, by omega, fun h => by omega⟩
  · rw [if_neg h0]
    have hr : ∀ x, x ∈ xs → 1 ≤ x ∧ x ≤ 512 := by
      intro x hx
      simp only [List.any_eq_true, not_exists, not_and, beq_iff_eq] at h0
      have := h0 x hx
      have := h x hx
      omega
    have c := capP_eq (a := 1) hr (by omega) (by omega)
    have hp := P_pos fun x hq => (hr x hq).1
    have e : capP xs = min (1 * P xs) 513 := c
    rw [Int.one_mul] at e
    exact ⟨by omega, by omega, fun _ => ⟨fun x hx => (hr x hx).1, e⟩⟩
section
variable {es : List Int} {d : Nat}
theorem line_spec (h : Exts es d) {j i : Nat} (hj : (j : Int) < prodE (er d es)) (hi : (i : Int) < nth es d) :
    (∀ e, e ∈ es → 1 ≤ e) ∧ inBase (er d es) (dig (er d es) j) ∧ inBase es (ins d i (dig (er d es) j)) ∧ w (baseW es d j + w ((i : Int) * nth (str 1 es) d)) = H es (ins d i (dig (er d es) j)) := by
  obtain ⟨z1, z2, z3⟩ := prodE_small (xs := er d es) (fun x hx => h.r x (er_mem hx))
  obtain ⟨y1, y2⟩ := z3 (by omega)
  have pos : ∀ e, e ∈ es → 1 ≤ e := by
    intro e he
    rcases mem_er (n := d) he with q | q
    · omega
    · exact y1 e q
  have hpe := P_er d es h.d
  have hn : 1 ≤ nth es d := by omega
  have hP1 := P_pos y1
  have hle : 1 * P (er d es) ≤ nth es d * P (er d es) := Int.mul_le_mul_of_nonneg_right hn (by omega)
  have hp512 := h.p
  have hjP : (j : Int) < P (er d es) := by omega
  obtain ⟨b1, b2⟩ := dig_ok y1 (by omega) hjP
  have b3 := base_ins h.d b1 (by omega) hi
  refine ⟨pos, b1, b3, ?_⟩
  obtain ⟨s1, s2⟩ := S_str es _ 1 b3 (by omega) (by omega)
  have hsl : d < (str 1 es).length := by rw [str_len]; exact h.d
  have hdl : (dig (er d es) j).length + 1 = (str 1 es).length := by rw [dig_len, str_len]; exact er_len d es h.d
  rw [S_ins d _ _ _ hsl hdl] at s1
  have r := H_range b3
  have n1 : 0 ≤ S (er d (str 1 es)) (dig (er d es) j) := S_nonneg _ _ (fun x hx => s2 x (er_mem hx)) (inBase_nonneg b1)
  have n2 : 0 ≤ nth (str 1 es) d := by
    unfold nth
    rw [List.getElem?_eq_getElem hsl]
    exact s2 _ (List.getElem_mem hsl)
  have n3 : 0 ≤ nth (str 1 es) d * (i : Int) := Int.mul_nonneg n2 (by omega)
  have hb : baseW es d j = S (er d (str 1 es)) (dig (er d es) j) := by
    unfold baseW
    rw [fold_S _ _ 0 (fun x hx => s2 x (er_mem hx)) (inBase_nonneg b1) (by omega) (by omega)]
    omega
  rw [hb, Int.mul_comm (i : Int), w_id (n := nth (str 1 es) d * (i : Int)) (by omega) (by omega), w_id (by omega) (by omega)]
  omega
theorem range_loopG {β τ : Type} {step : Int × List β → Option (Sum (Int × List β) τ)} (n : Int) (g : Nat → β) (fin : List β → τ) (h0 : 0 ≤ n) (hn : n < 16777216)
    (h : ∀ i : Nat, (i : Int) < n → ∀ b : List β, b.length = i → step (i, b) = some (.inl (((i + 1 : Nat) : Int), b ++ [g i]))) (hend : ∀ b, step (n, b) = some (.inr (fin b))) :
    loopO step (0, []) = some (fin ((List.range n.toNat).map g)) := by
  have hl : (List.range n.toNat).length = n.toNat := by simp
  have hc : ((List.range n.toNat).length : Int) = n := by rw [hl]; omega
  refine loop_map (step := step) (List.range n.toNat) g (fun i b => (i, b)) fin rfl ?_ ?_ (by omega)
  · intro i hi b hb
    have : (List.range n.toNat)[i] = i := by simp
    rw [this]
    exact h i (by omega) b hb
  · intro b; rw [hc]; exact hend b
theorem nth_range (h : Exts es d) : 0 ≤ nth es d ∧ nth es d ≤ 512 := by
  have hd := h.d
  have : nth es d ∈ es := by unfold nth; simp [hd]
  exact h.r _ this
theorem lines_eq (h : Exts es d) : shapes_lines es (d : Int) = some (linesW es d) := by
  have h7 := h.len
  have hd := h.d
  unfold shapes_lines slices_Clone_int
  rw [app_nil (by omega)]
  simp only [Option.bind_some]
  rw [wn (by omega)]
  have del1 : ∀ l : List Int, l.length = es.length → del l (d : Int) ((d + 1 : Nat) : Int) = some (er d l) := by
    intro l hl
    unfold del
    rw [if_pos (by omega)]
    simp only [Int.toNat_natCast]
    rw [er_eq]
  rw [del1 es rfl, strides_eq (by omega)]
  simp only [Option.bind_some]
  have hsl : (str 1 es).length = es.length := str_len es 1
  rw [nth_lt (by omega), app_nil (by omega)]
  simp only [Option.bind_some]
  have erl := er_len d es hd
  rw [del1 _ hsl, product_eq (by omega)]
  simp only [Option.bind_some]
  obtain ⟨z1, z2, z3⟩ := prodE_small (xs := er d es) (fun x hx => h.r x (er_mem hx))
  have nr := nth_range h
  rw [range_loopG (step := shapes_lines.s1 es d (er d es) (nth (str 1 es) d) (er d (str 1 es)) (prodE (er d es))) (prodE (er d es)) (fun j => lineW es d j) (fun b => b) z1 (by omega) ?_ ?_]
  · rfl
  · intro j hj b hb
    obtain ⟨y1, y2⟩ := z3 (by omega)
    simp only [shapes_lines.s1, hj, if_true]
    rw [digits_eq y1 (by omega) (by omega) (by omega)]
    simp only [Option.bind_some]
    have hdl : (dig (er d es) j).length = (er d (str 1 es)).length := by
      have e1 := er_len d (str 1 es) (by omega)
      rw [dig_len]; omega
    have hz : ((dig (er d es) j).zip (er d (str 1 es))).length = (dig (er d es) j).length := by simp; omega
    have hdle : (dig (er d es) j).length ≤ 7 := by rw [dig_len]; omega
    rw [loop_fold (step := shapes_lines.s2 (er d (str 1 es)) (dig (er d es) j)) ((dig (er d es) j).zip (er d (str 1 es))) (fun i (b : Int) => (b, i)) (fun b => b) sumF (fun _ _ => True) (a := 0) rfl ?_ ?_ trivial (by omega)]
    · simp only [Option.bind_some]
      rw [nth_lt hd]
      simp only [Option.bind_some]
      rw [range_loopG (step := shapes_lines.s3 (nth (str 1 es) d) (((dig (er d es) j).zip (er d (str 1 es))).foldl sumF 0) (nth es d)) (nth es d) (fun i : Nat => w (baseW es d j + w ((i : Int) * nth (str 1 es) d))) (fun b => b) nr.1 (by omega) ?_ ?_]
      · simp only [Option.bind_some]
        rw [app_one (by omega), wn (by omega)]; rfl
      · intro i hi b hb
        simp only [shapes_lines.s3, hi, if_true]
        rw [app_one (by omega), wn (by omega)]; rfl
      · intro b; simp only [shapes_lines.s3, Int.lt_irrefl, if_false]
    · intro i hi b _
      refine ⟨?_, trivial⟩
      rw [hz] at hi
      have h2 : i < (er d (str 1 es)).length := by omega
      simp only [shapes_lines.s2, lt_len hi, if_true, at_lt hi, at_lt h2, Option.bind_some, List.getElem_zip, sumF]
      rw [wn (by omega)]
    · intro b _; rw [hz]; simp only [shapes_lines.s2, not_lt_len, if_false]
  · intro b; simp only [shapes_lines.s1, Int.lt_irrefl, if_false]
end
end Go.Sh
namespace Go.Sh
open Go.Lx
set_option linter.unusedVariables false
set_option linter.unusedSimpArgs false
section
variable {a : api_Array} {d : Nat}
end
end Go.Sh
namespace Go.Sh
open Go.Lx
set_option linter.unusedVariables false
set_option linter.unusedSimpArgs false
def prodF (_ : Nat) (b x : Int) : Sum Unit Int := if shapes_isInteger (w (b * x)) = true then .inr (w (b * x)) else .inl ()
def cntF (b x : Int) : Int := if x = 0 then b else w (b + 1)
def foldV (k : Int) (l : List Int) : Int × Bool :=
  if k = 2 then (l.foldl mx (-2147483648), true)
  else if k = 3 then (l.foldl mn 2147483647, true)
  else if k = 1 then (match scanE prodF 0 l 1 with | .inl _ => (0, false) | .inr n => (n, shapes_isInteger n))
  else if k = 4 then (l.foldl cntF 0, shapes_isInteger (l.foldl cntF 0))
  else (l.foldl (fun b x => w (b + x)) 0, shapes_isInteger (l.foldl (fun b x => w (b + x)) 0))
theorem int_range {x : Int} : shapes_isInteger x = true ↔ -2147483648 ≤ x ∧ x ≤ 2147483647 := by simp [shapes_isInteger, shapes_inside]
theorem max_eq {l : List Int} {b : Int} (h : l.length < 16777215) : slices_Max_int (b :: l) = some (l.foldl mx b) := by
  unfold slices_Max_int
  rw [if_neg (by simp; omega)]
  have : at_ (b :: l) 0 = some b := rfl
  rw [this]
  simp only [Option.bind_some]
  rw [loop_fold (step := slices_Max_int.s1 (b :: l)) l (fun i (c : Int) => (c, i + 1)) (fun c => c) mx (fun _ _ => True) (a := b) (s := (b, 1)) rfl ?_ ?_ trivial (by omega)]
  · rfl
  · intro i hi c _
    refine ⟨?_, trivial⟩
    have e : ((i : Int) + 1) = ((i + 1 : Nat) : Int) := by omega
    have hl : i + 1 < (b :: l).length := by simp; omega
    simp only [slices_Max_int.s1]
    rw [e, if_pos (by omega), at_lt hl]
    simp only [Option.bind_some, List.getElem_cons_succ]
    rw [wn (by omega)]; rfl
  · intro c _
    have e : ((l.length : Int) + 1) = ((b :: l).length : Int) := by simp
    simp only [slices_Max_int.s1, e, not_lt_len, if_false]
theorem min_eq {l : List Int} {b : Int} (h : l.length < 16777215) : slices_Min_int (b :: l) = some (l.foldl mn b) := by
  unfold slices_Min_int
  rw [if_neg (by simp; omega)]
  have : at_ (b :: l) 0 = some b := rfl
  rw [this]
  simp only [Option.bind_some]
  rw [loop_fold (step := slices_Min_int.s1 (b :: l)) l (fun i (c : Int) => (c, i + 1)) (fun c => c) mn (fun _ _ => True) (a := b) (s := (b, 1)) rfl ?_ ?_ trivial (by omega)]
  · rfl
  · intro i hi c _
    refine ⟨?_, trivial⟩
    have e : ((i : Int) + 1) = ((i + 1 : Nat) : Int) := by omega
    have hl : i + 1 < (b :: l).length := by simp; omega
    simp only [slices_Min_int.s1]
    rw [e, if_pos (by omega), at_lt hl]
    simp only [Option.bind_some, List.getElem_cons_succ]
    rw [wn (by omega)]; rfl
  · intro c _
    have e : ((l.length : Int) + 1) = ((b :: l).length : Int) := by simp
    simp only [slices_Min_int.s1, e, not_lt_len, if_false]
theorem app_cons {l : List Int} {b : Int} (h : l.length < 16777215) : app [b] l = some (b :: l) := by unfold app; rw [if_pos (by simp; omega)]; rfl
theorem kind5 {k : Int} (h : shapes_inside k 0 4 = true) : k = 0 ∨ k = 1 ∨ k = 2 ∨ k = 3 ∨ k = 4 := by
  simp [shapes_inside] at h; omega
theorem fold_eq {l : List Int} (h : l.length < 16777215) {k : Int} (hk : shapes_inside k 0 4 = true) : shapes_fold k l = some (foldV k l) := by
  rcases kind5 hk with rfl | rfl | rfl | rfl | rfl
  · unfold shapes_fold foldV shapes_fold.j1
    simp only [show ¬ (0 : Int) = 2 by decide, show ¬ (0 : Int) = 3 by decide, show ¬ (0 : Int) = 1 by decide, show ¬ (0 : Int) = 4 by decide, if_false]
    rw [loop_fold (step := shapes_fold.s2 0 l) l (fun i (c : Int) => (c, i)) (fun c => Sum.inl c) (fun b x => w (b + x)) (fun _ _ => True) (a := 0) rfl ?_ ?_ trivial (by omega)]
    · rfl
    · intro i hi c _
      refine ⟨?_, trivial⟩
      simp only [shapes_fold.s2, lt_len hi, if_true, at_lt hi, Option.bind_some]
      rw [wn (by omega)]
    · intro c _; simp only [shapes_fold.s2, not_lt_len, if_false]
  · unfold shapes_fold foldV shapes_fold.j1
    simp only [show ¬ (1 : Int) = 2 by decide, show ¬ (1 : Int) = 3 by decide, if_false, if_true]
    rw [loop_scan (step := shapes_fold.s2 1 l) l (fun i (c : Int) => (c, i)) (fun (_ : Unit) => Sum.inr (0, false)) (fun c => Sum.inl c) prodF (fun _ _ => True) (a := 1) rfl ?_ ?_ trivial (by omega)]
    · cases scanE prodF 0 l 1 <;> rfl
    · intro i hi c _
      refine ⟨?_, fun _ _ => trivial⟩
      simp only [shapes_fold.s2, lt_len hi, if_true, at_lt hi, Option.bind_some, show ¬ (1 : Int) = 0 by decide, show ¬ (1 : Int) = 4 by decide, if_false, prodF]
      by_cases e : shapes_isInteger (w (c * l[i])) = true
      · simp only [e, not_true, if_false, if_true]; rw [wn (by omega)]
      · simp only [e, not_false_eq_true, if_true, if_false, Bool.false_eq_true]
    · intro c _; simp only [shapes_fold.s2, not_lt_len, if_false]
  · unfold shapes_fold foldV
    simp only [if_true]
    rw [app_cons h]
    simp only [Option.bind_some]
    rw [max_eq h]; rfl
  · unfold shapes_fold foldV
    simp only [show ¬ (3 : Int) = 2 by decide, if_false, if_true]
    rw [app_cons h]
    simp only [Option.bind_some]
    rw [min_eq h]; rfl
  · unfold shapes_fold foldV shapes_fold.j1
    simp only [show ¬ (4 : Int) = 2 by decide, show ¬ (4 : Int) = 3 by decide, show ¬ (4 : Int) = 1 by decide, if_false, if_true]
    rw [loop_fold (step := shapes_fold.s2 4 l) l (fun i (c : Int) => (c, i)) (fun c => Sum.inl c) cntF (fun _ _ => True) (a := 0) rfl ?_ ?_ trivial (by omega)]
    · rfl
    · intro i hi c _
      refine ⟨?_, trivial⟩
      simp only [shapes_fold.s2, lt_len hi, if_true, at_lt hi, Option.bind_some, show ¬ (4 : Int) = 0 by decide, if_false, cntF]
      by_cases e : l[i] = 0
      · simp only [e, not_true, if_false, if_true]; rw [wn (by omega)]
      · simp only [e, not_false_eq_true, if_true, if_false]; rw [wn (by omega)]
    · intro c _; simp only [shapes_fold.s2, not_lt_len, if_false]
def redF (k : Int) (_ : Nat) (b : List Int) (l : List Int) : Sum Unit (List Int) := if (foldV k l).2 = true then .inr (b ++ [(foldV k l).1]) else .inl ()
def redAll (k : Int) (bs : List api_Bound) (L : List (List Int)) : api_Array × Int := match scanE (redF k) 0 L [] with | .inl _ => (⟨[], []⟩, 28) | .inr b => (⟨bs, b⟩, 0)
theorem redF_len {k : Int} {i : Nat} {b b' l : List Int} (h : redF k i b l = .inr b') : b'.length = b.length + 1 := by
  unfold redF at h
  split at h
  · cases h; simp
  · cases h
theorem reduced_j {k : Int} (hk : shapes_inside k 0 4 = true) {bs : List api_Bound} {L : List (List Int)} (hL : L.length < 16777216) (hl : ∀ l, l ∈ L → l.length < 16777215) : shapes_Reduced.j1 k (bs, L) = some (redAll k bs L) := by
  unfold shapes_Reduced.j1 redAll
  rw [loop_scan (step := shapes_Reduced.s2 k (bs, L)) L (fun i b => (i, b)) (fun (_ : Unit) => Sum.inr (⟨[], []⟩, 28)) (fun b => Sum.inl b) (redF k) (fun i b => b.length = i) (a := []) rfl ?_ ?_ rfl (by omega)]
  · cases scanE (redF k) 0 L [] <;> rfl
  · intro i hi b hb
    refine ⟨?_, fun b' h => by rw [redF_len h, hb]⟩
    simp only [shapes_Reduced.s2, lt_len hi, if_true, at_lt hi, Option.bind_some]
    rw [fold_eq (hl _ (List.getElem_mem hi)) hk]
    simp only [Option.bind_some, redF]
    by_cases e : (foldV k L[i]).2 = true
    · simp only [e, not_true, if_false, if_true]
      rw [app_one (by omega)]
      simp only [Option.bind_some]
      rw [wn (by omega)]
    · simp only [e, not_false_eq_true, if_true, if_false, Bool.false_eq_true]
  · intro b _; simp only [shapes_Reduced.s2, not_lt_len, if_false]
theorem brokenR (a b : Bool) : shapes_broken [shapes_rule.mk a 32, shapes_rule.mk b 15] = some (if a = true then (if b = true then 0 else 15) else 32) := by
  cases a <;> cases b <;> decide +kernel
theorem ins_app : ∀ (n : Nat) (x : Int) (l : List Int), n ≤ l.length → ins n x l = l.take n ++ [x] ++ l.drop n
  | 0, x, l, _ => by simp [ins]
  | n + 1, x, [], h => by simp at h
  | n + 1, x, a :: l, h => by
    simp only [ins, List.take_succ_cons, List.drop_succ_cons, List.cons_append]
    rw [ins_app n x l (by simpa using h)]
def elsL (a : api_Array) (d j : Nat) : List Int := (List.range (nth (exs a.Bounds) d).toNat).map fun i : Nat => elAt a.Elements (H (exs a.Bounds) (ins d i (dig (er d (exs a.Bounds)) j)))
def linesL (a : api_Array) (d : Nat) : List (List Int) := (List.range (prodE (er d (exs a.Bounds))).toNat).map fun j : Nat => elsL a d j
section
variable {a : api_Array} {d : Nat}
theorem line_els (h : Exts (exs a.Bounds) d) {j : Nat} (hj : (j : Int) < prodE (er d (exs a.Bounds))) : (lineW (exs a.Bounds) d j).map (elAt a.Elements) = elsL a d j := by
  unfold lineW elsL
  rw [List.map_map]
  apply List.map_congr_left
  intro i hi
  have hi' := List.mem_range.1 hi
  have nr := nth_range h
  simp only [Function.comp]
  rw [(line_spec h hj (i := i) (by omega)).2.2.2]
theorem picked_line (va : Valid a) (h : Exts (exs a.Bounds) d) {j : Nat} (hj : (j : Int) < prodE (er d (exs a.Bounds))) : shapes_picked a [] (lineW (exs a.Bounds) d j) = some ⟨[], elsL a d j⟩ := by
  have nr := nth_range h
  have lil : (lineW (exs a.Bounds) d j).length = (nth (exs a.Bounds) d).toNat := by simp [lineW]
  have hl := va.len
  unfold shapes_picked
  rw [from_eq (by simp)]
  simp only [Option.bind_some]
  rw [loop_map (step := shapes_picked.s1 a (lineW (exs a.Bounds) d j)) (lineW (exs a.Bounds) d j) (elAt a.Elements) (fun i b => (i, b)) (fun b => b) rfl ?_ ?_ (by omega)]
  · simp only [Option.bind_some]; rw [line_els h hj]; rfl
  · intro i hi b hb
    simp only [shapes_picked.s1, lt_len hi, if_true, at_lt hi, Option.bind_some]
    have hi' : (i : Int) < nth (exs a.Bounds) d := by omega
    have sp := line_spec h hj hi'
    have rg := H_range sp.2.2.1
    have e : (lineW (exs a.Bounds) d j)[i] = H (exs a.Bounds) (ins d i (dig (er d (exs a.Bounds)) j)) := by rw [← sp.2.2.2]; simp [lineW]
    rw [e, at_el rg.1 (by omega)]
    simp only [Option.bind_some]
    rw [app_one (by omega), wn (by omega)]; rfl
  · intro b; simp only [shapes_picked.s1, not_lt_len, if_false]
theorem linesL_len (h : Exts (exs a.Bounds) d) : (linesL a d).length ≤ 513 ∧ ∀ l, l ∈ linesL a d → l.length ≤ 512 := by
  obtain ⟨z1, z2, z3⟩ := prodE_small (xs := er d (exs a.Bounds)) (fun x hx => h.r x (er_mem hx))
  have nr := nth_range h
  refine ⟨by simp [linesL]; omega, fun l hl => ?_⟩
  obtain ⟨j, _, rfl⟩ := List.mem_map.1 hl
  simp [elsL]; omega
theorem todo_eq (va : Valid a) (h : Exts (exs a.Bounds) d) : loopO (shapes_Reduced.s3 a (linesW (exs a.Bounds) d)) (0, []) = some (linesL a d) := by
  obtain ⟨z1, z2, z3⟩ := prodE_small (xs := er d (exs a.Bounds)) (fun x hx => h.r x (er_mem hx))
  have ll : (linesW (exs a.Bounds) d).length = (prodE (er d (exs a.Bounds))).toNat := by simp [linesW]
  have lc : ((linesW (exs a.Bounds) d).length : Int) = prodE (er d (exs a.Bounds)) := by omega
  rw [range_loopG (step := shapes_Reduced.s3 a (linesW (exs a.Bounds) d)) (prodE (er d (exs a.Bounds))) (fun j => elsL a d j) (fun b => b) z1 (by omega) ?_ ?_]
  · rfl
  · intro j hj b hb
    have hjl : j < (linesW (exs a.Bounds) d).length := by omega
    have e : (linesW (exs a.Bounds) d)[j] = lineW (exs a.Bounds) d j := by simp [linesW]
    simp only [shapes_Reduced.s3, lc, hj, if_true, at_lt hjl, Option.bind_some]
    rw [e, picked_line va h hj]
    simp only [Option.bind_some]
    rw [app_one (by omega), wn (by omega)]; rfl
  · intro b; simp only [shapes_Reduced.s3, lc, Int.lt_irrefl, if_false]
end
end Go.Sh
namespace Go.Sh
open Go.Lx
set_option linter.unusedVariables false
set_option linter.unusedSimpArgs false
structure Small (es : List Int) : Prop where
  len : es.length ≤ 7
  r : ∀ e, e ∈ es → 0 ≤ e ∧ e ≤ 512
  p : P es ≤ 512
theorem valid_small {a : api_Array} (va : Valid a) : Small (exs a.Bounds) := by
  have ok := bErr_ok va.b
  refine ⟨by simp [exs]; exact ok.len, ?_, ok.size.2.2⟩
  intro e he
  obtain ⟨b, hb, rfl⟩ := List.mem_map.1 he
  exact ⟨ok.pos b hb, ok.big b hb⟩
theorem picked_eq {a : api_Array} {es os : List Int} (he : es.length < 16777216) (ho : os.length < 16777216) (h : ∀ o, o ∈ os → 0 ≤ o ∧ o < (a.Elements.length : Int)) :
    shapes_picked a es os = some ⟨ofExt es, os.map (elAt a.Elements)⟩ := by
  unfold shapes_picked
  rw [from_eq he]
  simp only [Option.bind_some]
  rw [loop_map (step := shapes_picked.s1 a os) os (elAt a.Elements) (fun i b => (i, b)) (fun b => b) rfl ?_ ?_ (by omega)]
  · rfl
  · intro i hi b hb
    have h1 := h _ (List.getElem_mem hi)
    simp only [shapes_picked.s1, lt_len hi, if_true, at_lt hi, Option.bind_some]
    rw [at_el h1.1 h1.2]
    simp only [Option.bind_some]
    rw [app_one (by omega), wn (by omega)]; rfl
  · intro b; simp only [shapes_picked.s1, not_lt_len, if_false]
theorem foldl_many {α β : Type} (F : α → List β) : ∀ (xs : List α) (acc : List β), xs.foldl (fun b x => b ++ F x) acc = acc ++ xs.flatMap F
  | [], acc => by simp
  | x :: xs, acc => by rw [List.foldl_cons, foldl_many F xs]; simp
def tpos (e0 e1 : Int) : List Int := (List.range e0.toNat).flatMap fun i : Nat => (List.range e1.toNat).map fun j : Nat => (i : Int) + (j : Int) * e0
theorem tpos_range {e0 e1 : Int} (h0 : 0 ≤ e0) (h1 : 0 ≤ e1) : ∀ o, o ∈ tpos e0 e1 → 0 ≤ o ∧ o < e0 * e1 := by
  intro o ho
  obtain ⟨i, hi0, hj0⟩ := List.mem_flatMap.1 ho
  obtain ⟨j, hj1, rfl⟩ := List.mem_map.1 hj0
  have hi := List.mem_range.1 hi0
  have hj := List.mem_range.1 hj1
  have a1 : 0 ≤ (j : Int) * e0 := Int.mul_nonneg (by omega) h0
  have a2 : ((j : Int) + 1) * e0 ≤ e1 * e0 := Int.mul_le_mul_of_nonneg_right (by omega) h0
  rw [Int.add_mul, Int.one_mul, Int.mul_comm e1] at a2
  omega
theorem tpos_len (e0 e1 : Int) : (tpos e0 e1).length = e0.toNat * e1.toNat := by
  unfold tpos
  rw [List.length_flatMap]
  simp [List.map_const', List.sum_replicate_nat]
theorem dbl_loop {step : Int × List Int → Option (Sum (Int × List Int) (List Int))} {inner : Nat → List Int → Int × List Int → Option (Sum (Int × List Int) (List Int))} {e0 e1 : Int} (g : Nat → Nat → Int) (h0 : 0 ≤ e0 ∧ e0 ≤ 512) (h1 : 0 ≤ e1 ∧ e1 ≤ 512)
    (hin : ∀ i : Nat, (i : Int) < e0 → ∀ b0 (j : Nat) (b : List Int), (j : Int) < e1 → b.length < 16777216 → inner i b0 (j, b) = some (.inl (((j + 1 : Nat) : Int), b ++ [g i j])))
    (hie : ∀ i : Nat, (i : Int) < e0 → ∀ b0 b, inner i b0 (e1, b) = some (.inr b))
    (hs : ∀ i : Nat, (i : Int) < e0 → ∀ b : List Int, step (i, b) = (loopO (inner i b) (0, b)).bind fun z => some (.inl (((i + 1 : Nat) : Int), z)))
    (hse : ∀ b, step (e0, b) = some (.inr b)) : loopO step (0, []) = some ((List.range e0.toNat).flatMap fun i => (List.range e1.toNat).map (g i)) := by
  have hl : (List.range e0.toNat).length = e0.toNat := by simp
  have hc : ((List.range e0.toNat).length : Int) = e0 := by rw [hl]; omega
  have hl1 : (List.range e1.toNat).length = e1.toNat := by simp
  have hc1 : ((List.range e1.toNat).length : Int) = e1 := by rw [hl1]; omega
  rw [loop_fold (step := step) (List.range e0.toNat) (fun i b => (i, b)) (fun b => b) (fun b i => b ++ (List.range e1.toNat).map (g i)) (fun i b => b.length ≤ i * 512) rfl ?_ ?_ (by simp) (by omega)]
  · rw [foldl_many]; rfl
  · intro i hi b hb
    have hi' : (i : Int) < e0 := by omega
    have e : (List.range e0.toNat)[i] = i := by simp
    rw [e, hs i hi' b]
    rw [loop_fold (step := inner i b) (List.range e1.toNat) (fun j c => (j, c)) (fun c => c) (fun c j => c ++ [g i j]) (fun j c => c.length ≤ b.length + j) rfl ?_ ?_ (by simp) (by omega)]
    · rw [foldl_snoc]
      refine ⟨rfl, ?_⟩
      simp only [List.length_append, List.length_map, hl1]
      omega
    · intro j hj c hc'
      have e : (List.range e1.toNat)[j] = j := by simp
      rw [e]
      refine ⟨hin i hi' b j c (by omega) ?_, by simp; omega⟩
      have : i * 512 ≤ 512 * 512 := Nat.mul_le_mul_right _ (by omega)
      omega
    · intro c _; rw [hc1]; exact hie i hi' b c
  · intro b _; rw [hc]; exact hse b
theorem Transpose_both {a : api_Array} (hb : a.Bounds.length < 16777216) (he : a.Elements.length < 16777216) :
    ∃ r, shapes_Transpose a = some r ∧ ref15_Transposed a = some r ∧ r.1.Bounds.length < 16777216 ∧ r.1.Elements.length < 16777216 := by
  unfold shapes_Transpose ref15_Transposed
  rw [arraysErr1 he, refErr_eq he, broken1]
  simp only [Option.bind_some, cmpOr2]
  by_cases hc : (chk a).2 = 0
  · have va := chk_valid hc
    have sm := valid_small va
    simp only [hc, if_true, not_true, if_false]
    by_cases h2 : (a.Bounds.length : Int) = 2
    · have h2' : ((a.Bounds.length : Int) == 2) = true := by simp [h2]
      simp only [h2, h2', if_true, not_true, if_false]
      rw [extents_eq' (by omega), refExtents_eq' (by omega)]
      simp only [Option.bind_some]
      obtain ⟨e0, e1, hex⟩ : ∃ e0 e1, exs a.Bounds = [e0, e1] := by
        have hl : (exs a.Bounds).length = 2 := by simp [exs]; omega
        match h : exs a.Bounds, hl with
        | [x, y], _ => exact ⟨x, y, rfl⟩
      have hr0 := sm.r e0 (by rw [hex]; simp)
      have hr1 := sm.r e1 (by rw [hex]; simp)
      have hP : P (exs a.Bounds) = e0 * e1 := by rw [hex]; simp [P]
      have hp := sm.p
      have hlen := va.len
      rw [hP] at hp hlen
      have a0 : at_ [e0, e1] 0 = some e0 := rfl
      have a1 : at_ [e0, e1] 1 = some e1 := rfl
      have inr : ∀ (i j : Nat), (i : Int) < e0 → (j : Int) < e1 → 0 ≤ (j : Int) * e0 ∧ (j : Int) * e0 ≤ 512 ∧ (i : Int) + (j : Int) * e0 < e0 * e1 := by
        intro i j hi hj
        have b1 : 0 ≤ (j : Int) * e0 := Int.mul_nonneg (by omega) hr0.1
        have b2 : ((j : Int) + 1) * e0 ≤ e1 * e0 := Int.mul_le_mul_of_nonneg_right (by omega) hr0.1
        rw [Int.add_mul, Int.one_mul, Int.mul_comm e1] at b2
        omega
      rw [hex]
      simp only [a0, Option.bind_some]
      rw [dbl_loop (step := shapes_Transpose.s1 [e0, e1] e0) (inner := fun i b => shapes_Transpose.s2 [e0, e1] (i, b) e1) (e0 := e0) (e1 := e1) (fun i j => (i : Int) + (j : Int) * e0) hr0 hr1
        (fun i hi b0 j b hj hb => by
          obtain ⟨q1, q2, q3⟩ := inr i j hi hj
          simp only [shapes_Transpose.s2, hj, if_true, a0, Option.bind_some]
          rw [app_one hb]
          simp only [Option.bind_some]
          rw [w_id (n := (j : Int) * e0) (by omega) (by omega), w_id (n := (i : Int) + (j : Int) * e0) (by omega) (by omega), wn (by omega)])
        (fun i hi b0 b => by simp only [shapes_Transpose.s2, Int.lt_irrefl, if_false])
        (fun i hi b => by
          simp only [shapes_Transpose.s1, hi, if_true, a1, Option.bind_some]
          rw [wn (by omega)])
        (fun b => by simp only [shapes_Transpose.s1, Int.lt_irrefl, if_false])]
      rw [dbl_loop (step := ref15_Transposed.s1 a [e0, e1]) (inner := fun i b => ref15_Transposed.s2 a [e0, e1] (i, b)) (e0 := e0) (e1 := e1) (fun i j => elAt a.Elements ((i : Int) + (j : Int) * e0)) hr0 hr1
        (fun i hi b0 j b hj hb => by
          obtain ⟨q1, q2, q3⟩ := inr i j hi hj
          simp only [ref15_Transposed.s2, hj, if_true, a0, a1, Option.bind_some]
          rw [w_id (n := (j : Int) * e0) (by omega) (by omega), w_id (n := (j : Int) * e0 + (i : Int)) (by omega) (by omega), Int.add_comm ((j : Int) * e0), at_el (by omega) (by omega)]
          simp only [Option.bind_some]
          rw [app_one hb]
          simp only [Option.bind_some]
          rw [wn (by omega)])
        (fun i hi b0 b => by simp only [ref15_Transposed.s2, a1, Option.bind_some, Int.lt_irrefl, if_false])
        (fun i hi b => by
          simp only [ref15_Transposed.s1, hi, if_true, a0, Option.bind_some]
          rw [wn (by omega)])
        (fun b => by simp only [ref15_Transposed.s1, a0, Option.bind_some, Int.lt_irrefl, if_false])]
      simp only [Option.bind_some, a1, a0]
      have tl := tpos_len e0 e1
      have ts : (tpos e0 e1).length ≤ 512 * 512 := by rw [tl]; exact Nat.mul_le_mul (by omega) (by omega)
      have hpk := picked_eq (a := a) (es := [e1, e0]) (os := tpos e0 e1) (by simp) (by omega) (fun o ho => by rw [hlen]; exact tpos_range hr0.1 hr1.1 o ho)
      unfold tpos at hpk
      rw [hpk, refOf_eq (by simp)]
      simp only [Option.bind_some]
      refine ⟨_, rfl, ?_, by simp [ofExt], ?_⟩
      · rw [List.map_flatMap]
        simp only [List.map_map]
        rfl
      · have : ((tpos e0 e1).map (elAt a.Elements)).length < 16777216 := by rw [List.length_map]; omega
        exact this
    · have h2' : ((a.Bounds.length : Int) == 2) = false := by simp [h2]
      simp only [h2, h2', if_false, not_false_eq_true, if_true, Bool.false_eq_true, show ¬ (32 : Int) = 0 by decide]
      exact ⟨_, rfl, rfl, by simp, by simp⟩
  · simp only [hc, if_false, not_false_eq_true, if_true]
    exact ⟨_, rfl, rfl, by simp, by simp⟩
theorem er_ins : ∀ (n : Nat) (x : Int) (l : List Int), n ≤ l.length → er n (ins n x l) = l
  | 0, x, l, _ => rfl
  | n + 1, x, [], h => by simp at h
  | n + 1, x, a :: l, h => by simp only [ins, er]; rw [er_ins n x l (by simpa using h)]
theorem mem_ins : ∀ {n : Nat} {x e : Int} {l : List Int}, n ≤ l.length → e ∈ ins n x l → e = x ∨ e ∈ l := by
  intro n x e l h he
  rcases mem_er (n := n) he with q | q
  · rw [ins_nth n x l h] at q; exact .inl q
  · rw [er_ins n x l h] at q; exact .inr q
structure Sprd (es : List Int) (d : Nat) (m : Int) : Prop where
  sm : Small es
  l7 : es.length < 7
  d : d ≤ es.length
  m : 0 ≤ m ∧ m ≤ 512
section
variable {es : List Int} {d : Nat} {m : Int}
theorem Sprd.r (h : Sprd es d m) : ∀ e, e ∈ ins d m es → 0 ≤ e ∧ e ≤ 512 := by
  intro e he
  rcases mem_ins h.d he with rfl | q
  · exact h.m
  · exact h.sm.r e q
theorem Sprd.P (h : Sprd es d m) : P (ins d m es) = m * P es := by
  have := P_er d (ins d m es) (by rw [ins_len]; have := h.d; omega)
  rw [ins_nth d m es h.d, er_ins d m es h.d] at this
  exact this
theorem Sprd.digs (h : Sprd es d m) {k : Nat} (hk : (k : Int) < prodE (ins d m es)) (hp : prodE (ins d m es) ≤ 512) :
    (∀ e, e ∈ ins d m es → 1 ≤ e) ∧ inBase (ins d m es) (dig (ins d m es) k) ∧ (k : Int) < Go.Sh.P (ins d m es) ∧ inBase es (er d (dig (ins d m es) k)) ∧ H (ins d m es) (dig (ins d m es) k) = k := by
  obtain ⟨z1, z2, z3⟩ := prodE_small h.r
  obtain ⟨y1, y2⟩ := z3 (by omega)
  have hkP : (k : Int) < Go.Sh.P (ins d m es) := by omega
  obtain ⟨b1, b2⟩ := dig_ok y1 (by omega) hkP
  have hd : d < (ins d m es).length := by rw [ins_len]; have := h.d; omega
  obtain ⟨g1, g2, g3, g4⟩ := base_er hd b1
  rw [er_ins d m es h.d] at g1
  exact ⟨y1, b1, hkP, g1, b2⟩
end
def spP (es : List Int) (d : Nat) (X : List Int) (k : Nat) : Int := H es (er d (dig X k))
def spA (a : api_Array) (d : Nat) (m : Int) : api_Array :=
  ⟨ofExt (ins d m (exs a.Bounds)), (List.range (prodE (ins d m (exs a.Bounds))).toNat).map fun k => elAt a.Elements (spP (exs a.Bounds) d (ins d m (exs a.Bounds)) k)⟩
theorem brokenS (a b : Bool) : shapes_broken [shapes_rule.mk a 32, shapes_rule.mk b 8] = some (if a = true then (if b = true then 0 else 8) else 32) := by
  cases a <;> cases b <;> decide +kernel
theorem ins_el {d : Nat} {m : Int} {l : List Int} (h : d ≤ l.length) (hl : l.length < 100) : inserted l (d : Int) [m] = some (ins d m l) := by
  unfold inserted
  rw [if_pos (by simp; omega)]
  simp only [Int.toNat_natCast]
  rw [ins_app d m l h]
theorem spread_loop {a : api_Array} {d : Nat} {m dim : Int} (va : Valid a) (h : Sprd (exs a.Bounds) d m) (hd : w (dim - 1) = d) (hdim : dim = d + 1) (hp : prodE (ins d m (exs a.Bounds)) ≤ 512) :
    loopO (shapes_Spread.s1 dim (ins d m (exs a.Bounds)) (prodE (ins d m (exs a.Bounds))) (str 1 (exs a.Bounds))) (0, []) = some ((List.range (prodE (ins d m (exs a.Bounds))).toNat).map fun k => spP (exs a.Bounds) d (ins d m (exs a.Bounds)) k) := by
  obtain ⟨z1, z2, z3⟩ := prodE_small h.r
  have hl7 := h.l7
  have hdl := h.d
  have il := ins_len d m (exs a.Bounds)
  rw [range_loopG (step := shapes_Spread.s1 dim (ins d m (exs a.Bounds)) (prodE (ins d m (exs a.Bounds))) (str 1 (exs a.Bounds))) (prodE (ins d m (exs a.Bounds))) (fun k => spP (exs a.Bounds) d (ins d m (exs a.Bounds)) k) (fun b => b) z1 (by omega) ?_ ?_]
  · intro k hk b hb
    obtain ⟨y1, b1, hkP, g1, b2⟩ := h.digs hk hp
    simp only [shapes_Spread.s1, hk, if_true]
    rw [digits_eq y1 (by omega) (by omega) (by omega)]
    simp only [Option.bind_some]
    have dl : (dig (ins d m (exs a.Bounds)) k).length = (exs a.Bounds).length + 1 := by rw [dig_len, il]
    have del1 : del (dig (ins d m (exs a.Bounds)) k) (w (dim - 1)) dim = some (er d (dig (ins d m (exs a.Bounds)) k)) := by
      unfold del
      rw [hd, if_pos (by omega), hdim]
      have : ((d : Int) + 1).toNat = d + 1 := by omega
      simp only [Int.toNat_natCast, this]
      rw [er_eq]
    rw [del1]
    simp only [Option.bind_some]
    generalize hds : er d (dig (ins d m (exs a.Bounds)) k) = ds at g1 ⊢
    have hdl2 : ds.length = (exs a.Bounds).length := by
      have := er_len d (dig (ins d m (exs a.Bounds)) k) (by omega)
      rw [hds] at this
      omega
    have sl := str_len (exs a.Bounds) 1
    have hz : (ds.zip (str 1 (exs a.Bounds))).length = ds.length := by simp; omega
    rw [loop_fold (step := shapes_Spread.s2 (str 1 (exs a.Bounds)) ds) (ds.zip (str 1 (exs a.Bounds))) (fun i (b : Int) => (b, i)) (fun b => b) sumF (fun _ _ => True) (a := 0) rfl ?_ ?_ trivial (by omega)]
    · simp only [Option.bind_some]
      have hp5 := h.sm.p
      obtain ⟨s1, s2⟩ := S_str _ _ 1 g1 (by omega) (by omega)
      have r := H_range g1
      rw [fold_S _ _ 0 s2 (inBase_nonneg g1) (by omega) (by omega), app_one (by omega), wn (by omega)]
      simp only [Option.bind_some]
      have e : 0 + S (str 1 (exs a.Bounds)) ds = spP (exs a.Bounds) d (ins d m (exs a.Bounds)) k := by
        unfold spP
        rw [hds]
        omega
      rw [e]
    · intro i hi b _
      refine ⟨?_, trivial⟩
      rw [hz] at hi
      have h2 : i < (str 1 (exs a.Bounds)).length := by omega
      simp only [shapes_Spread.s2, lt_len hi, if_true, at_lt hi, at_lt h2, Option.bind_some, List.getElem_zip, sumF]
      rw [wn (by omega)]
    · intro b _; rw [hz]; simp only [shapes_Spread.s2, not_lt_len, if_false]
  · intro b; simp only [shapes_Spread.s1, Int.lt_irrefl, if_false]
theorem sp_range {a : api_Array} {d : Nat} {m : Int} (va : Valid a) (h : Sprd (exs a.Bounds) d m) (hp : prodE (ins d m (exs a.Bounds)) ≤ 512) {k : Nat} (hk : (k : Int) < prodE (ins d m (exs a.Bounds))) :
    0 ≤ spP (exs a.Bounds) d (ins d m (exs a.Bounds)) k ∧ spP (exs a.Bounds) d (ins d m (exs a.Bounds)) k < (a.Elements.length : Int) := by
  obtain ⟨y1, b1, hkP, g1, b2⟩ := h.digs hk hp
  have r := H_range g1
  rw [va.len]
  exact r
theorem refSpread_j {a : api_Array} {d : Nat} {m dim : Int} (va : Valid a) (h : Sprd (exs a.Bounds) d m) (hd : w (dim - 1) = d) (hdim : dim = d + 1) :
    ref15_Spread.j1 a dim (exs a.Bounds) (ins d m (exs a.Bounds)) = some (if prodE (ins d m (exs a.Bounds)) > 512 then (⟨[], []⟩, 8) else (spA a d m, 0)) := by
  obtain ⟨z1, z2, z3⟩ := prodE_small h.r
  have hl7 := h.l7
  have hdl := h.d
  have il := ins_len d m (exs a.Bounds)
  unfold ref15_Spread.j1
  rw [refProduct_eq (by omega)]
  simp only [Option.bind_some]
  by_cases hp : prodE (ins d m (exs a.Bounds)) > 512
  · simp only [hp, if_true]
  · simp only [hp, if_false]
    rw [range_loopG (step := ref15_Spread.s2 a dim (exs a.Bounds) (ins d m (exs a.Bounds)) (prodE (ins d m (exs a.Bounds)))) (prodE (ins d m (exs a.Bounds))) (fun k => elAt a.Elements (spP (exs a.Bounds) d (ins d m (exs a.Bounds)) k)) (fun b => b) z1 (by omega) ?_ ?_]
    · simp only [Option.bind_some]
      rw [refOf_eq (by omega)]
      rfl
    · intro k hk b hb
      obtain ⟨y1, b1, hkP, g1, b2⟩ := h.digs hk (by omega)
      have rg := sp_range va h (by omega) hk
      simp only [ref15_Spread.s2, hk, if_true]
      rw [refIndexes_eq y1 (by omega) (by omega) (by omega)]
      simp only [Option.bind_some]
      have dl : (dig (ins d m (exs a.Bounds)) k).length = (exs a.Bounds).length + 1 := by rw [dig_len, il]
      generalize hD : dig (ins d m (exs a.Bounds)) k = D at *
      have c1 : cut D 0 (w (dim - 1)) = some (D.take d) := by unfold cut; rw [hd, if_pos (by omega)]; simp
      have c2 : cut D dim (D.length : Int) = some (D.drop (d + 1)) := by
        unfold cut; rw [if_pos (by omega), hdim]
        have : ((d : Int) + 1).toNat = d + 1 := by omega
        simp [this]
      rw [c1, c2]
      simp only [Option.bind_some]
      rw [copyInts_eq (by simp; omega)]
      simp only [Option.bind_some]
      have ap : app (D.take d) (D.drop (d + 1)) = some (er d D) := by unfold app; rw [if_pos (by simp; omega), er_eq]
      rw [ap]
      simp only [Option.bind_some]
      have hel : (exs a.Bounds).length = (er d D).length := by have := er_len d D (by omega); omega
      have pl := refPlace_eq g1 h.sm.p (fun e he => (h.sm.r e he).2) hel (by omega)
      have pl2 : (D.drop (d + 1)).isEmpty = true → ref15_Place (exs a.Bounds) (D.take d) = some (H (exs a.Bounds) (er d D)) := by
        intro q
        rw [List.isEmpty_iff] at q
        have := er_eq d D
        rw [q, List.append_nil] at this
        rw [this]; exact pl
      have e : H (exs a.Bounds) (er d D) = spP (exs a.Bounds) d (ins d m (exs a.Bounds)) k := by unfold spP; rw [hD]
      by_cases q : (D.drop (d + 1)).isEmpty = true
      · rw [if_pos q, pl2 q]
        simp only [Option.bind_some]
        rw [e, at_el rg.1 rg.2]
        simp only [Option.bind_some]
        rw [app_one (by omega), wn (by omega)]; rfl
      · rw [if_neg q, pl]
        simp only [Option.bind_some]
        rw [e, at_el rg.1 rg.2]
        simp only [Option.bind_some]
        rw [app_one (by omega), wn (by omega)]; rfl
    · intro b; simp only [ref15_Spread.s2, Int.lt_irrefl, if_false]
def spOk (a : api_Array) (dim n : Int) : Bool := ((decide ((a.Bounds.length : Int) < 7)) && (shapes_inside dim 1 (w ((a.Bounds.length : Int) + 1)))) && decide (n ≤ 512)
theorem spOk_parts {a : api_Array} {dim n : Int} (va : Valid a) (h : spOk a dim n = true) : ∃ d : Nat, w (dim - 1) = d ∧ dim = d + 1 ∧ Sprd (exs a.Bounds) d (mx 0 n) := by
  have sm := valid_small va
  have hl : (exs a.Bounds).length = a.Bounds.length := by simp [exs]
  simp only [spOk, Bool.and_eq_true, decide_eq_true_eq] at h
  obtain ⟨⟨h1, h2⟩, h3⟩ := h
  rw [wn (by omega)] at h2
  simp [shapes_inside] at h2
  refine ⟨(dim - 1).toNat, ?_, by omega, sm, by omega, by omega, ?_⟩
  · rw [w_id (by omega) (by omega)]; omega
  · rw [mx_max]; omega
theorem Spread_both {a : api_Array} (hb : a.Bounds.length < 16777216) (he : a.Elements.length < 16777216) (dim n : Int) :
    ∃ r, shapes_Spread a dim n = some r ∧ ref15_Spread a dim n = some r ∧ r.1.Bounds.length < 16777216 ∧ r.1.Elements.length < 16777216 ∧
      (r.2 = 0 → Valid a ∧ ∃ d : Nat, w (dim - 1) = d ∧ dim = d + 1 ∧ Sprd (exs a.Bounds) d (mx 0 n) ∧ prodE (ins d (mx 0 n) (exs a.Bounds)) ≤ 512 ∧ r.1 = spA a d (mx 0 n)) := by
  unfold shapes_Spread ref15_Spread
  rw [arraysErr1 he, refErr_eq he, brokenS]
  simp only [Option.bind_some, cmpOr2, within_eq]
  by_cases hc : (chk a).2 = 0
  · have va := chk_valid hc
    simp only [hc, if_true, not_true, if_false]
    by_cases h1 : ((decide ((a.Bounds.length : Int) < 7)) && (shapes_inside dim 1 (w ((a.Bounds.length : Int) + 1)))) = true
    · have h1' : ((decide ((a.Bounds.length : Int) ≥ 7)) || (!(shapes_inside dim 1 (w ((a.Bounds.length : Int) + 1))))) = false := by
        simp only [Bool.and_eq_true, decide_eq_true_eq] at h1
        simp [h1.2]
        omega
      simp only [h1, h1', if_true, if_false, Bool.false_eq_true]
      by_cases h2 : n ≤ 512
      · have h2' : ¬ n > 512 := by omega
        simp only [h2, h2', decide_true, if_true, not_true, if_false]
        obtain ⟨d, hd, hdim, sp⟩ := spOk_parts (n := n) va (by unfold spOk; rw [h1]; simp [h2])
        obtain ⟨z1, z2, z3⟩ := prodE_small sp.r
        have hl : (exs a.Bounds).length = a.Bounds.length := by simp [exs]
        have hl7 := sp.l7
        have hdl := sp.d
        have il := ins_len d (mx 0 n) (exs a.Bounds)
        rw [extents_eq' (by omega), refExtents_eq' (by omega)]
        simp only [Option.bind_some]
        have c1 : cut (exs a.Bounds) 0 (w (dim - 1)) = some ((exs a.Bounds).take d) := by unfold cut; rw [hd, if_pos (by omega)]; simp
        have c2 : cut (exs a.Bounds) (w (dim - 1)) ((exs a.Bounds).length : Int) = some ((exs a.Bounds).drop d) := by rw [hd]; exact cut_tail hdl
        unfold slices_Insert_int
        rw [c1, c2, hd, ins_el hdl (by omega)]
        simp only [Option.bind_some]
        rw [product_eq (by omega), copyInts_eq (by simp; omega)]
        simp only [Option.bind_some]
        rw [app_one (by simp; omega)]
        simp only [Option.bind_some]
        have ia := ins_app d (mx 0 n) (exs a.Bounds) hdl
        have ap : app ((exs a.Bounds).take d ++ [mx 0 n]) ((exs a.Bounds).drop d) = some (ins d (mx 0 n) (exs a.Bounds)) := by unfold app; rw [if_pos (by simp; omega), ia]
        rw [ap]
        simp only [Option.bind_some]
        have both : (if ((exs a.Bounds).drop d).isEmpty = true then ref15_Spread.j1 a dim (exs a.Bounds) ((exs a.Bounds).take d ++ [mx 0 n]) else ref15_Spread.j1 a dim (exs a.Bounds) (ins d (mx 0 n) (exs a.Bounds))) = ref15_Spread.j1 a dim (exs a.Bounds) (ins d (mx 0 n) (exs a.Bounds)) := by
          split
          · rename_i q
            rw [List.isEmpty_iff] at q
            rw [q, List.append_nil] at ia
            rw [ia]
          · rfl
        rw [both, refSpread_j va sp hd hdim]
        by_cases hp : prodE (ins d (mx 0 n) (exs a.Bounds)) > 512
        · simp only [hp, if_true]
          exact ⟨_, rfl, rfl, by simp, by simp, fun q => by simp at q⟩
        · simp only [hp, if_false]
          rw [strides_eq (by omega)]
          simp only [Option.bind_some]
          rw [spread_loop va sp hd hdim (by omega)]
          simp only [Option.bind_some]
          rw [picked_eq (by omega) (by simp; omega) ?_]
          · simp only [Option.bind_some]
            refine ⟨(spA a d (mx 0 n), 0), ?_, rfl, by simp [spA, ofExt]; omega, by simp [spA]; omega, fun _ => ⟨va, d, by first | exact hd | rfl, hdim, sp, by omega, rfl⟩⟩
            unfold spA
            rw [List.map_map]
            rfl
          · intro o ho
            obtain ⟨k, hk, rfl⟩ := List.mem_map.1 ho
            have hk := List.mem_range.1 hk
            exact sp_range va sp (by omega) (by omega)
      · have h2' : n > 512 := by omega
        simp only [h2, h2', decide_false, if_true, if_false, Bool.false_eq_true, not_false_eq_true, show ¬ (8 : Int) = 0 by decide]
        exact ⟨_, rfl, rfl, by simp, by simp, fun q => by simp at q⟩
    · have h1' : ((decide ((a.Bounds.length : Int) ≥ 7)) || (!(shapes_inside dim 1 (w ((a.Bounds.length : Int) + 1))))) = true := by
        by_cases q : (a.Bounds.length : Int) < 7
        · have q2 : shapes_inside dim 1 (w ((a.Bounds.length : Int) + 1)) = false := by
            cases e : shapes_inside dim 1 (w ((a.Bounds.length : Int) + 1)) with
            | false => rfl
            | true => exact absurd (by rw [e]; simp [q]) h1
          rw [q2]; simp
        · have : (a.Bounds.length : Int) ≥ 7 := by omega
          simp [this]
      simp only [h1, h1', if_true, if_false, Bool.false_eq_true, not_false_eq_true, show ¬ (32 : Int) = 0 by decide]
      exact ⟨_, rfl, rfl, by simp, by simp, fun q => by simp at q⟩
  · simp only [hc, if_false, not_false_eq_true, if_true]
    exact ⟨_, rfl, rfl, by simp, by simp, fun q => absurd q hc⟩
theorem Reduced_dim {a : api_Array} (va : Valid a) {dim k : Int} {d : Nat} (hd : w (dim - 1) = d) (hdim : dim = d + 1) (ex : Exts (exs a.Bounds) d) (h2 : shapes_inside k 0 4 = true) (hp : prodE (er d (exs a.Bounds)) ≤ 512) :
    shapes_Reduced a dim k = some (redAll k (ofExt (er d (exs a.Bounds))) (linesL a d)) := by
  have hc := valid_chk va
  have ok := bErr_ok va.b
  have hl7 := ok.len
  have hel : a.Elements.length < 16777216 := by
    have := va.len
    have := ex.p
    omega
  have h7 := ex.len
  have exd := ex.d
  have erl := er_len d (exs a.Bounds) ex.d
  have hlx : (exs a.Bounds).length = a.Bounds.length := by simp [exs]
  have h1 : shapes_inside dim 0 (a.Bounds.length : Int) = true := by simp [shapes_inside]; omega
  unfold shapes_Reduced
  rw [arraysErr1 hel, brokenR]
  simp only [Option.bind_some, cmpOr2, hc, h1, h2, if_true, not_true, if_false]
  rw [if_neg (by omega), extents_eq' (by omega)]
  simp only [Option.bind_some]
  unfold slices_Clone_int
  rw [app_nil (by omega), hd]
  simp only [Option.bind_some]
  have del1 : del (exs a.Bounds) (d : Int) dim = some (er d (exs a.Bounds)) := by
    unfold del
    rw [if_pos (by omega), hdim]
    have : ((d : Int) + 1).toNat = d + 1 := by omega
    simp only [Int.toNat_natCast, this]
    rw [er_eq]
  rw [del1]
  simp only [Option.bind_some]
  rw [product_eq (by omega)]
  simp only [Option.bind_some]
  rw [if_neg (by omega), from_eq (by omega), lines_eq ex]
  simp only [Option.bind_some]
  rw [todo_eq va ex]
  simp only [Option.bind_some]
  obtain ⟨L1, L2⟩ := linesL_len ex
  rw [reduced_j h2 (by omega) (fun l hl => by have := L2 l hl; omega)]
theorem sum_one {x : Int} (h : shapes_isInteger x = true) : foldV 0 [x] = (x, true) := by
  have e : w (0 + x) = x := by
    have := int_range.1 h
    rw [w_id (by omega) (by omega)]; omega
  have e1 : foldV 0 [x] = (w (0 + x), shapes_isInteger (w (0 + x))) := rfl
  rw [e1, e, h]
theorem scan_ones : ∀ (xs : List Int) (i : Nat) (acc : List Int), (∀ x, x ∈ xs → shapes_isInteger x = true) → scanE (redF 0) i (xs.map fun x => [x]) acc = .inr (acc ++ xs)
  | [], i, acc, _ => by simp [scanE]
  | x :: xs, i, acc, h => by
    have e : redF 0 i acc [x] = .inr (acc ++ [x]) := by
      unfold redF
      rw [sum_one (h x (.head _))]; rfl
    simp only [List.map_cons, scanE, e]
    rw [scan_ones xs (i + 1) _ (fun y hy => h y (.tail _ hy))]
    simp
theorem elAt_map {α : Type} {n : Nat} {f : Nat → Int} {o : Int} (h0 : 0 ≤ o) (h1 : o < (n : Int)) : elAt ((List.range n).map f) o = f o.toNat := by
  unfold elAt
  have : o.toNat < n := by omega
  simp [this]
section
variable {a : api_Array} {d : Nat}
theorem P_prodE {xs : List Int} (h : ∀ x, x ∈ xs → 0 ≤ x ∧ x ≤ 512) (hp : P xs ≤ 512) : prodE xs = P xs := by
  by_cases h0 : ∃ e, e ∈ xs ∧ e = 0
  · rw [P_zero h0]
    obtain ⟨e, he, e0⟩ := h0
    unfold prodE
    rw [if_pos]
    simp only [List.any_eq_true, beq_iff_eq]
    exact ⟨e, he, e0.symm⟩
  · have hpos : ∀ x, x ∈ xs → 1 ≤ x ∧ x ≤ 512 := by
      intro x hx
      have := h x hx
      rcases Int.lt_or_eq_of_le this.1 with q | q
      · omega
      · exact absurd ⟨x, hx, q.symm⟩ h0
    have c := capP_eq (xs := xs) (a := 1) hpos (by omega) (by omega)
    rw [Int.one_mul] at c
    unfold prodE
    rw [if_neg]
    · have : capP xs = min (P xs) 513 := c
      rw [this]; omega
    · simp only [List.any_eq_true, not_exists, not_and, beq_iff_eq]
      intro x hx q
      have := hpos x hx
      omega
theorem spA_facts (va : Valid a) (sp : Sprd (exs a.Bounds) d 1) : Valid (spA a d 1) ∧ Exts (exs (spA a d 1).Bounds) d ∧ exs (spA a d 1).Bounds = ins d 1 (exs a.Bounds) ∧ linesL (spA a d 1) d = a.Elements.map fun x => [x] := by
  have sm := sp.sm
  have hP : P (ins d 1 (exs a.Bounds)) = P (exs a.Bounds) := by rw [sp.P, Int.one_mul]
  have hp5 := sm.p
  have hl7 := sp.l7
  have hdl := sp.d
  have il := ins_len d 1 (exs a.Bounds)
  have hpe : prodE (ins d 1 (exs a.Bounds)) = P (exs a.Bounds) := by rw [P_prodE sp.r (by omega), hP]
  have hpe0 : prodE (exs a.Bounds) = P (exs a.Bounds) := P_prodE sm.r hp5
  have hx : exs (spA a d 1).Bounds = ins d 1 (exs a.Bounds) := ofExt_exs sp.r
  have ex : Exts (exs (spA a d 1).Bounds) d := by
    rw [hx]
    exact ⟨by omega, by omega, sp.r, by omega⟩
  have hlen := va.len
  have hel : (spA a d 1).Elements.length = a.Elements.length := by
    simp only [spA, List.length_map, List.length_range]
    omega
  have hv : Valid (spA a d 1) := by
    refine ⟨ofExt_bErr sp.r (by omega) (by omega), ?_, ?_⟩
    · rw [hel, hx, hP]; exact hlen
    · intro x hx
      obtain ⟨k, hk, rfl⟩ := List.mem_map.1 hx
      have hk := List.mem_range.1 hk
      have rg := sp_range va sp (by omega) (k := k) (by omega)
      exact va.int _ (elAt_mem rg.1 rg.2)
  refine ⟨hv, ex, hx, ?_⟩
  have e1 : er d (exs (spA a d 1).Bounds) = exs a.Bounds := by rw [hx]; exact er_ins d 1 _ hdl
  have e2 : nth (exs (spA a d 1).Bounds) d = 1 := by rw [hx]; exact ins_nth d 1 _ hdl
  unfold linesL
  rw [e1, hpe0]
  have hn : (P (exs a.Bounds)).toNat = a.Elements.length := by omega
  rw [hn]
  apply List.ext_getElem
  · simp
  · intro j h1 h2
    have hj : j < a.Elements.length := by simpa using h1
    simp only [List.getElem_map, List.getElem_range]
    unfold elsL
    rw [e2, e1]
    show List.map _ (List.range 1) = _
    simp only [List.range_one, List.map_cons, List.map_nil]
    have hjP : (j : Int) < prodE (er d (exs (spA a d 1).Bounds)) := by rw [e1, hpe0]; omega
    have ls := line_spec ex hjP (i := 0) (by rw [e2]; omega)
    obtain ⟨_, _, b3, _⟩ := ls
    have rg := H_range b3
    rw [e1] at b3 rg
    rw [hx] at b3 rg ⊢
    have hz : ((0 : Nat) : Int) = 0 := rfl
    rw [hz] at b3 rg ⊢
    have key : elAt (spA a d 1).Elements (H (ins d 1 (exs a.Bounds)) (ins d 0 (dig (exs a.Bounds) j))) = a.Elements[j] := by
      unfold spA
      simp only
      rw [elAt_map (α := Int) rg.1 (by omega)]
      unfold spP
      have hq : (((H (ins d 1 (exs a.Bounds)) (ins d 0 (dig (exs a.Bounds) j))).toNat : Nat) : Int) = H (ins d 1 (exs a.Bounds)) (ins d 0 (dig (exs a.Bounds) j)) := by omega
      rw [hq, dig_H b3, er_ins d 0 _ (by rw [dig_len]; exact hdl)]
      have pos : ∀ e, e ∈ exs a.Bounds → 1 ≤ e := by
        obtain ⟨z1, z2, z3⟩ := prodE_small sm.r
        exact (z3 (by omega)).1
      rw [(dig_ok pos (by omega) (by omega)).2]
      simp [elAt, hj]
    rw [key]
end
theorem back_eq {a : api_Array} (va : Valid a) {d : Nat} (sp : Sprd (exs a.Bounds) d 1) {dim : Int} (hd : w (dim - 1) = d) (hdim : dim = d + 1) :
    shapes_Reduced (spA a d 1) dim 0 = some (⟨ofExt (exs a.Bounds), a.Elements⟩, 0) := by
  obtain ⟨hv, ex, hx, hl⟩ := spA_facts va sp
  have e1 : er d (exs (spA a d 1).Bounds) = exs a.Bounds := by rw [hx]; exact er_ins d 1 _ sp.d
  have hp5 := sp.sm.p
  rw [Reduced_dim hv hd hdim ex (by decide) (by rw [e1, P_prodE sp.sm.r hp5]; omega), e1, hl]
  unfold redAll
  rw [scan_ones _ _ _ va.int]
  rfl
theorem ShapesSpreads_true (a : api_Array) (dim n : Int) : law15_ShapesSpreads a dim n = some true := by
  unfold law15_ShapesSpreads
  rw [awake_eq]
  simp only [Option.bind_some, not_true, if_false]
  by_cases hg : law15_few a = true
  · have fa := few_ok hg
    simp only [hg, not_true, if_false]
    rw [refCopy_eq (by omega) (by omega)]
    simp only [Option.bind_some]
    obtain ⟨r, e1, e2, e3, e4⟩ := Transpose_both (a := a) (by omega) (by omega)
    obtain ⟨q, f1, f2, f3, f4, f5⟩ := Spread_both (a := a) (by omega) (by omega) dim n
    obtain ⟨t, g1, g2, g3, g4, g5⟩ := Spread_both (a := a) (by omega) (by omega) dim 1
    rw [e1, f1, e2, f2]
    simp only [Option.bind_some]
    rw [is_self e3 e4]
    simp only [Option.bind_some, not_true, if_false]
    rw [is_self f3 f4]
    simp only [Option.bind_some, not_true, if_false]
    rw [g1]
    simp only [Option.bind_some]
    by_cases h0 : t.2 = 0
    · simp only [h0, not_true, if_false]
      obtain ⟨va, d, hd, hdim, sp, hp, hr⟩ := g5 h0
      have m1 : mx 0 1 = 1 := rfl
      rw [m1] at sp hp hr
      rw [hr, back_eq va sp hd hdim]
      simp only [Option.bind_some, if_true]
      have hl : (exs a.Bounds).length = a.Bounds.length := by simp [exs]
      rw [ints_eq (by omega) (by omega), refExtents_eq' (by simp [ofExt]; omega), refExtents_eq' (by omega), ofExt_exs sp.sm.r]
      simp only [Option.bind_some, beq_self_eq_true, if_true]
      rw [ints_eq (by omega) (by omega)]
      simp
    · simp only [h0, not_false_eq_true, if_true]
  · simp only [hg, not_false_eq_true, if_true, Bool.false_eq_true]
end Go.Sh
