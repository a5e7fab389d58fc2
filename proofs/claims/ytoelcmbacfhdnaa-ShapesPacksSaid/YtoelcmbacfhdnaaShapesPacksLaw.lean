/- What the functions compute answers as the statement says. -/
import Derived.Test.YtoelcmbacfhdnaaShapesPacksSh
set_option linter.all false
namespace Go.Sh
open Go.Lx
set_option linter.unusedVariables false
set_option linter.unusedSimpArgs false
theorem awake_eq : law15_awake = some true := by decide +kernel
theorem lt_len {i n : Nat} (h : i < n) : ((i : Int) < (n : Int)) = True := eq_true (by omega)
theorem not_lt_len (n : Nat) : ((n : Int) < (n : Int)) = False := eq_false (by omega)
theorem copyBounds_eq {p : List api_Bound} (h : p.length ≤ 16777216) : ref15_CopyBounds p = some p := by
  unfold ref15_CopyBounds; rw [app_nil h]; rfl
theorem copyInts_eq {p : List Int} (h : p.length ≤ 16777216) : base_CopyInts p = some p := by
  unfold base_CopyInts; rw [mkSl_len h]; simp [copied_all]
theorem extents_eq {p : List api_Bound} (h : p.length < 16777216) : shapes_extents p = some (p.map shapes_extent) := by
  unfold shapes_extents
  rw [loop_map p shapes_extent (fun i b => (i, b)) (fun b => b) rfl ?_ ?_ (by omega)]
  · rfl
  · intro i hi b hb
    simp only [shapes_extents.s1, lt_len hi, if_true, at_lt hi, Option.bind_some]
    rw [app_one (by omega), wn (by omega)]; rfl
  · intro b; simp only [shapes_extents.s1, not_lt_len, if_false]
theorem refExtents_eq {p : List api_Bound} (h : p.length < 16777216) : ref15_Extents p = some (p.map shapes_extent) := by
  unfold ref15_Extents
  rw [loop_map p shapes_extent (fun i b => (i, b)) (fun b => b) rfl ?_ ?_ (by omega)]
  · rfl
  · intro i hi b hb
    simp only [ref15_Extents.s1, lt_len hi, if_true, at_lt hi, Option.bind_some]
    rw [app_one (by omega), wn (by omega)]; rfl
  · intro b; simp only [ref15_Extents.s1, not_lt_len, if_false]
theorem index_any (p : List Int) (v : Int) (h : p.length < 16777216) : ∃ k : Nat, slices_Index_int p v = some (if p.any (fun x => v == x) = true then (k : Int) else -1) := by
  unfold slices_Index_int
  obtain ⟨k, hk⟩ := loop_any (step := slices_Index_int.s1 p v) p (fun x => v == x) (fun i => Sum.inr i) (Sum.inl ()) (s := 0) rfl (fun i hi => by
    simp only [slices_Index_int.s1, lt_len hi, if_true, at_lt hi, Option.bind_some]
    by_cases e : v = p[i]
    · simp [e]
    · simp only [e, if_false, beq_iff_eq]; rw [wn (by omega)]) (by simp only [slices_Index_int.s1, not_lt_len, if_false]) (by omega)
  refine ⟨k, ?_⟩
  rw [hk]
  by_cases e : p.any (fun x => v == x) = true
  · rw [if_pos e, if_pos e]; rfl
  · rw [if_neg e, if_neg e]; rfl
theorem contains_eq {p : List Int} {v : Int} (h : p.length < 16777216) : slices_Contains_int p v = some (p.any (fun x => v == x)) := by
  unfold slices_Contains_int
  obtain ⟨k, hk⟩ := index_any p v h
  rw [hk]
  by_cases e : p.any (fun x => v == x) = true
  · rw [if_pos e, e]; simp
  · rw [if_neg e, eq_false_of_ne_true e]; rfl
def capP (xs : List Int) : Int := xs.foldl (fun a x => mn (w (a * mn x 513)) 513) 1
def prodE (xs : List Int) : Int := if xs.any (fun x => 0 == x) = true then 0 else capP xs
theorem product_eq {p : List Int} (h : p.length < 16777216) : shapes_product p = some (prodE p) := by
  unfold shapes_product
  rw [loop_fold (step := shapes_product.s1 p) p (fun i b => (b, i)) (fun b => b) (fun a x => mn (w (a * mn x 513)) 513) (fun _ _ => True) (a := 1) rfl ?_ ?_ trivial (by omega)]
  · simp only [Option.bind_some, contains_eq h]
    unfold prodE capP
    split <;> rfl
  · intro i hi b _
    refine ⟨?_, trivial⟩
    simp only [shapes_product.s1, lt_len hi, if_true, at_lt hi, Option.bind_some]
    rw [wn (by omega)]
  · intro b _; simp only [shapes_product.s1, not_lt_len, if_false]
theorem scan_prod : ∀ (xs : List Int) (i : Nat) (a : Int), scanE (ρ := Unit) (fun _ (b : Int) x => if x = 0 then .inl () else .inr (mn (w (b * mn x 513)) 513)) i xs a = (if xs.any (fun x => 0 == x) = true then .inl () else .inr (xs.foldl (fun a x => mn (w (a * mn x 513)) 513) a))
  | [], i, a => rfl
  | x :: xs, i, a => by
    simp only [scanE, List.any_cons, List.foldl_cons]
    by_cases e : x = 0
    · subst e; simp
    · have e' : (0 == x) = false := by simp; exact fun q => e q.symm
      simp only [e, if_false, e', Bool.false_or]
      exact scan_prod xs (i + 1) _
theorem refProduct_eq {p : List Int} (h : p.length < 16777216) : ref15_Product p = some (prodE p) := by
  unfold ref15_Product
  rw [loop_scan (step := ref15_Product.s1 p) p (fun i b => (b, i)) (fun (_ : Unit) => Sum.inr 0) (fun b => Sum.inl b) (fun _ (b : Int) x => if x = 0 then .inl () else .inr (mn (w (b * mn x 513)) 513)) (fun _ _ => True) (a := 1) rfl ?_ ?_ trivial (by omega)]
  · rw [scan_prod]
    unfold prodE capP
    by_cases e : p.any (fun x => 0 == x) = true
    · simp only [e, if_true]; rfl
    · simp only [e, if_false]; rfl
  · intro i hi b _
    refine ⟨?_, fun _ _ => trivial⟩
    simp only [ref15_Product.s1, lt_len hi, if_true, at_lt hi, Option.bind_some]
    by_cases e : p[i] = 0
    · simp only [e, if_true]
    · simp only [e, if_false]; rw [wn (by omega)]
  · intro b _; simp only [ref15_Product.s1, not_lt_len, if_false]
def num (b : api_Bound) : Bool := shapes_isNumber b.Low && shapes_isNumber b.High
def bErr (p : List api_Bound) : Int := if (p.length : Int) > 7 then 32 else if p.any (fun b => !num b) = true then 2 else if p.any (fun b => decide (shapes_extent b > 512)) = true then 8 else if prodE (p.map shapes_extent) > 512 then 8 else 0
theorem within_eq (a b c : Int) : base_Within a b c = shapes_inside a b c := by
  unfold base_Within shapes_inside
  simp only [Bool.not_or, ← decide_not]
  congr 1 <;> exact decide_eq_decide.2 (by omega)
theorem findSome_const {α ρ : Type} {p : α → Bool} {c : ρ} : ∀ xs : List α, xs.findSome? (fun x => if p x = true then some c else none) = if xs.any p = true then some c else none
  | [] => rfl
  | x :: xs => by
    simp only [List.findSome?_cons, List.any_cons]
    by_cases e : p x = true
    · simp [e]
    · simp only [e, if_false, Bool.false_or]; exact findSome_const xs
theorem broken1 (b : Bool) (c : Int) : shapes_broken [shapes_rule.mk b c] = some (if b = true then 0 else c) := by
  unfold shapes_broken
  rw [loop_find (step := shapes_broken.s1 [shapes_rule.mk b c]) [shapes_rule.mk b c] (fun r => if r.holds = true then none else some r.code) (fun c => Sum.inr c) (Sum.inl ()) rfl ?_ ?_ (by simp)]
  · cases b <;> rfl
  · intro i hi
    simp only [shapes_broken.s1, lt_len hi, if_true, at_lt hi, Option.bind_some]
    have : i = 0 := by simpa using hi
    subst this
    cases b <;> simp [w, IntKind.wrap] <;> rfl
  · rfl
theorem index1_eq (p : List api_Bound) (h : p.length < 16777216) : slices_ContainsFunc_api_Bound__shapes_boundsErr_c1 p = some (p.any (fun b => !num b)) := by
  unfold slices_ContainsFunc_api_Bound__shapes_boundsErr_c1 slices_IndexFunc_api_Bound__shapes_boundsErr_c1
  obtain ⟨k, hk⟩ := loop_any (step := slices_IndexFunc_api_Bound__shapes_boundsErr_c1.s1 p) p (fun b => !num b) (fun i => Sum.inr i) (Sum.inl ()) (s := 0) rfl (fun i hi => by
    simp only [slices_IndexFunc_api_Bound__shapes_boundsErr_c1.s1, lt_len hi, if_true, at_lt hi, Option.bind_some]
    have : shapes_boundsErr_c1 p[i] = !num p[i] := by unfold shapes_boundsErr_c1 num; simp
    rw [this, wn (by omega)]; split <;> rfl) (by simp only [slices_IndexFunc_api_Bound__shapes_boundsErr_c1.s1, not_lt_len, if_false]) (by omega)
  rw [hk]
  by_cases e : p.any (fun b => !num b) = true
  · rw [if_pos e, e]; simp
  · rw [if_neg e, eq_false_of_ne_true e]; rfl
theorem index2_eq (p : List api_Bound) (h : p.length < 16777216) : slices_ContainsFunc_api_Bound__shapes_boundsErr_c2 p = some (p.any (fun b => decide (shapes_extent b > 512))) := by
  unfold slices_ContainsFunc_api_Bound__shapes_boundsErr_c2 slices_IndexFunc_api_Bound__shapes_boundsErr_c2
  obtain ⟨k, hk⟩ := loop_any (step := slices_IndexFunc_api_Bound__shapes_boundsErr_c2.s1 p) p (fun b => decide (shapes_extent b > 512)) (fun i => Sum.inr i) (Sum.inl ()) (s := 0) rfl (fun i hi => by
    simp only [slices_IndexFunc_api_Bound__shapes_boundsErr_c2.s1, lt_len hi, if_true, at_lt hi, Option.bind_some]
    unfold shapes_boundsErr_c2
    rw [wn (by omega)]; split <;> rfl) (by simp only [slices_IndexFunc_api_Bound__shapes_boundsErr_c2.s1, not_lt_len, if_false]) (by omega)
  rw [hk]
  by_cases e : p.any (fun b => decide (shapes_extent b > 512)) = true
  · rw [if_pos e, e]; simp
  · rw [if_neg e, eq_false_of_ne_true e]; rfl
theorem size_eq {p : List api_Bound} (h : p.length < 16777216) : shapes_size p = some (prodE (p.map shapes_extent)) := by
  unfold shapes_size
  rw [extents_eq h]; simp only [Option.bind_some]
  rw [product_eq (by simpa using h)]; rfl
theorem boundsErr_eq (p : List api_Bound) : shapes_boundsErr p = some (bErr p) := by
  unfold shapes_boundsErr bErr
  by_cases h7 : (p.length : Int) > 7
  · simp only [h7, if_true]
  · have h : p.length < 16777216 := by omega
    simp only [h7, if_false, index1_eq p h, index2_eq p h, size_eq h, broken1, Option.bind_some]
    by_cases e1 : p.any (fun b => !num b) = true
    · simp only [e1, if_true]
    · simp only [e1, if_false]
      by_cases e2 : p.any (fun b => decide (shapes_extent b > 512)) = true
      · simp [e2]
      · simp only [e2, if_false]
        by_cases e3 : prodE (p.map shapes_extent) > 512
        · have : ¬ prodE (p.map shapes_extent) ≤ 512 := by omega
          simp [e3, this]
        · have : prodE (p.map shapes_extent) ≤ 512 := by omega
          simp [e3, this]
theorem refBoundsErr_eq (p : List api_Bound) : ref15_BoundsErr p = some (bErr p) := by
  unfold ref15_BoundsErr bErr
  by_cases h7 : (p.length : Int) > 7
  · simp only [h7, if_true]
  · have h : p.length < 16777216 := by omega
    simp only [h7, if_false, refExtents_eq h, Option.bind_some]
    rw [loop_find (step := ref15_BoundsErr.s1 p) p (fun b => if (!num b) = true then some (2 : Int) else none) (fun c => Sum.inr c) (Sum.inl ()) rfl ?_ ?_ (by omega), findSome_const]
    · by_cases e1 : p.any (fun b => !num b) = true
      · simp only [e1, if_true, Option.bind_some]
      · simp only [e1, if_false, Option.bind_some]
        rw [loop_find (step := ref15_BoundsErr.s2 (p.map shapes_extent)) (p.map shapes_extent) (fun x => if (decide (x > 512)) = true then some (8 : Int) else none) (fun c => Sum.inr c) (Sum.inl ()) rfl ?_ ?_ (by simp; omega), findSome_const, List.any_map]
        · by_cases e2 : p.any (fun b => decide (shapes_extent b > 512)) = true
          · have e2' : p.any ((fun x => decide (x > 512)) ∘ shapes_extent) = true := e2
            simp only [e2, e2', if_true, Option.bind_some, Bool.false_eq_true, if_false]
          · have e2' : ¬ p.any ((fun x => decide (x > 512)) ∘ shapes_extent) = true := e2
            simp only [e2, e2', if_false, Option.bind_some, Bool.false_eq_true]
            rw [refProduct_eq (by simpa using h)]
            simp only [Option.bind_some]
            split <;> rfl
        · intro i hi
          simp only [ref15_BoundsErr.s2, lt_len hi, if_true, at_lt hi, Option.bind_some]
          by_cases e : (p.map shapes_extent)[i] > 512
          · simp only [e, if_true, decide_true]
          · simp only [e, if_false, decide_false, Bool.false_eq_true]; rw [wn (by simp at hi; omega)]
        · simp only [ref15_BoundsErr.s2, not_lt_len, if_false]
    · intro i hi
      simp only [ref15_BoundsErr.s1, lt_len hi, if_true, at_lt hi, Option.bind_some, ref15_isBound, within_eq, num, shapes_isNumber]
      rw [wn (by omega)]
      by_cases e1 : shapes_inside p[i].Low (-2147483647) 2147483647 = true
      · by_cases e2 : shapes_inside p[i].High (-2147483647) 2147483647 = true
        · simp [e1, e2]
        · simp [e1, e2]
      · simp [e1]
    · simp only [ref15_BoundsErr.s1, not_lt_len, if_false]
end Go.Sh
namespace Go.Sh
open Go.Lx
set_option linter.unusedVariables false
set_option linter.unusedSimpArgs false
theorem before_eq : ∀ (n : Nat) (a b : List Int), a.length < n → n ≤ 16777217 → b.length < 16777216 → ∃ r, base_Before.N n a b = some r ∧ (r = true → a ≠ b)
  | 0, a, b, h, _, _ => absurd h (Nat.not_lt_zero _)
  | n + 1, a, b, h, hn, hb => by
    show ∃ r, base_Before.F (base_Before.N n) a b = some r ∧ _
    unfold base_Before.F
    match a, b with
    | [], b => exact ⟨_, rfl, fun h => by simp at h; intro q; subst q; simp at h⟩
    | x :: a, [] => exact ⟨_, rfl, fun h => by simp at h; omega⟩
    | x :: a, y :: b =>
      have e0 : ¬ ((((x :: a).length : Int) == 0) || (((y :: b).length : Int) == 0)) = true := by simp; omega
      have c1 : cut (x :: a) 1 ((x :: a).length : Int) = some a := by unfold cut; rw [if_pos (by simp; omega)]; simp
      have c2 : cut (y :: b) 1 ((y :: b).length : Int) = some b := by unfold cut; rw [if_pos (by simp; omega)]; simp
      have a1 : at_ (x :: a) 0 = some x := rfl
      have a2 : at_ (y :: b) 0 = some y := rfl
      rw [if_neg e0]
      simp only [a1, a2, Option.bind_some]
      by_cases h1 : x < y
      · exact ⟨true, by simp [h1], fun _ q => by simp at q; omega⟩
      · by_cases h2 : x = y
        · obtain ⟨r, h3, h4⟩ := before_eq n a b (by simp at h; omega) (by omega) (by simp at hb; omega)
          refine ⟨r, ?_, fun hr q => h4 hr (by simp at q; exact q.2)⟩
          subst h2
          rw [if_neg h1, if_pos rfl, c1, c2]
          simp only [Option.bind_some, h3]
        · exact ⟨false, by simp [h1, h2], fun q => by cases q⟩
theorem before_tri : ∀ (n m : Nat) (a b : List Int), base_Before.N n a b = some false → base_Before.N m b a = some false → a.length = b.length → a = b
  | 0, m, a, b, h, _, _ => by cases h
  | n + 1, 0, a, b, _, h, _ => by cases h
  | n + 1, m + 1, a, b, h, k, hl => by
    change base_Before.F (base_Before.N n) a b = some false at h
    change base_Before.F (base_Before.N m) b a = some false at k
    unfold base_Before.F at h k
    match a, b, hl with
    | [], [], _ => rfl
    | x :: a, y :: b, hl =>
      have e0 : ¬ ((((x :: a).length : Int) == 0) || (((y :: b).length : Int) == 0)) = true := by simp; omega
      have e1 : ¬ ((((y :: b).length : Int) == 0) || (((x :: a).length : Int) == 0)) = true := by simp; omega
      have c1 : cut (x :: a) 1 ((x :: a).length : Int) = some a := by unfold cut; rw [if_pos (by simp; omega)]; simp
      have c2 : cut (y :: b) 1 ((y :: b).length : Int) = some b := by unfold cut; rw [if_pos (by simp; omega)]; simp
      have a1 : at_ (x :: a) 0 = some x := rfl
      have a2 : at_ (y :: b) 0 = some y := rfl
      rw [if_neg e0] at h
      rw [if_neg e1] at k
      simp only [a1, a2, Option.bind_some, c1, c2] at h k
      by_cases h1 : x < y
      · simp [h1] at h
      · by_cases h2 : y < x
        · simp [h2] at k
        · have h3 : x = y := by omega
          subst h3
          simp only [h1, if_false, if_true] at h k
          obtain ⟨r, hr, h⟩ := Option.bind_eq_some_iff.1 h
          obtain ⟨r', hr', k⟩ := Option.bind_eq_some_iff.1 k
          cases h
          cases k
          rw [before_tri n m a b hr hr' (by simpa using hl)]
theorem ints_eq {a b : List Int} (ha : a.length < 16777216) (hb : b.length < 16777216) : base_Ints a b = some (a == b) := by
  unfold base_Ints
  have hF : (16777217 : Nat) ≤ FUEL := by unfold FUEL; omega
  have step : ∀ (n : Nat) (a b : List Int) (r : Bool), base_Before.N n a b = some r → base_Before.N (n + 1) a b = some r := by
    intro n
    induction n with
    | zero => intro a b r h; cases h
    | succ n ih =>
      intro a b r h
      change base_Before.F (base_Before.N n) a b = some r at h
      show base_Before.F (base_Before.N (n + 1)) a b = some r
      unfold base_Before.F at h ⊢
      split
      · rename_i hc; rw [if_pos hc] at h; exact h
      · rename_i hc
        rw [if_neg hc] at h
        obtain ⟨x4, h4, h⟩ := Option.bind_eq_some_iff.1 h
        obtain ⟨x5, h5, h⟩ := Option.bind_eq_some_iff.1 h
        rw [h4, h5]
        simp only [Option.bind_some]
        split
        · rename_i hd; rw [if_pos hd] at h; exact h
        · rename_i hd
          rw [if_neg hd] at h
          rw [h4, h5] at h
          simp only [Option.bind_some] at h ⊢
          split
          · rename_i he
            rw [if_pos he] at h
            obtain ⟨x6, h6, h⟩ := Option.bind_eq_some_iff.1 h
            obtain ⟨x7, h7, h⟩ := Option.bind_eq_some_iff.1 h
            obtain ⟨x8, h8, h⟩ := Option.bind_eq_some_iff.1 h
            rw [h6, h7]
            simp only [Option.bind_some]
            rw [ih _ _ _ h8]
            exact h
          · rename_i he; rw [if_neg he] at h; exact h
  have up : ∀ (n m : Nat) (a b : List Int) (r : Bool), n ≤ m → base_Before.N n a b = some r → base_Before.N m a b = some r := by
    intro n m a b r hnm h
    induction hnm with
    | refl => exact h
    | step _ ih => exact step _ _ _ _ ih
  have get : ∀ a b : List Int, a.length < 16777216 → b.length < 16777216 → ∃ r, base_Before a b = some r ∧ (r = true → a ≠ b) := by
    intro a b ha hb
    obtain ⟨r, h1, h2⟩ := before_eq 16777217 a b (by omega) (Nat.le_refl _) hb
    exact ⟨r, up _ _ _ _ _ hF h1, h2⟩
  by_cases hl : (a.length : Int) = (b.length : Int)
  · rw [if_pos hl]
    obtain ⟨r, h1, h2⟩ := get a b ha hb
    obtain ⟨r', h3, h4⟩ := get b a hb ha
    rw [h1, h3]
    simp only [Option.bind_some]
    cases r with
    | true => simp; exact h2 rfl
    | false =>
      cases r' with
      | true => simp; exact fun q => h4 rfl q.symm
      | false => simp; exact before_tri _ _ _ _ h1 h3 (by omega)
  · rw [if_neg hl]
    have : a ≠ b := fun q => hl (by rw [q])
    simp [this]
end Go.Sh
namespace Go.Sh
open Go.Lx
set_option linter.unusedVariables false
set_option linter.unusedSimpArgs false
def P : List Int → Int
  | [] => 1
  | x :: xs => x * P xs
theorem P_pos : ∀ {es : List Int}, (∀ e, e ∈ es → 1 ≤ e) → 1 ≤ P es
  | [], _ => Int.le_refl 1
  | e :: es, h => by
    have h1 := h e (.head _)
    have h2 := P_pos (es := es) fun x hx => h x (.tail _ hx)
    have := Int.mul_le_mul h1 h2 (by omega) (by omega)
    simpa [P] using this
theorem P_zero : ∀ {es : List Int}, (∃ e, e ∈ es ∧ e = 0) → P es = 0
  | [], h => by obtain ⟨e, h, _⟩ := h; cases h
  | e :: es, h => by
    obtain ⟨x, hx, rfl⟩ := h
    cases hx with
    | head => simp [P]
    | tail _ hx => rw [P, P_zero ⟨0, hx, rfl⟩]; simp
theorem min_mul {a b m : Int} (ha : 1 ≤ a) (hb : 1 ≤ b) (hm : 0 ≤ m) : min (min a m * b) m = min (a * b) m := by
  rcases Int.le_total a m with h | h
  · rw [Int.min_eq_left h]
  · rw [Int.min_eq_right h]
    have h1 : m * 1 ≤ m * b := Int.mul_le_mul_of_nonneg_left hb hm
    have h2 : m * b ≤ a * b := Int.mul_le_mul_of_nonneg_right h (by omega)
    omega
theorem capP_eq : ∀ {xs : List Int} {a : Int}, (∀ x, x ∈ xs → 1 ≤ x ∧ x ≤ 512) → 1 ≤ a → a ≤ 513 → xs.foldl (fun a x => mn (w (a * mn x 513)) 513) a = min (a * P xs) 513
  | [], a, _, h1, h2 => by simp [P]; omega
  | x :: xs, a, h, h1, h2 => by
    obtain ⟨g1, g2⟩ := h x (.head _)
    have m1 : mn x 513 = x := by unfold mn; rw [if_neg (by omega)]
    have b1 : 1 * 1 ≤ a * x := Int.mul_le_mul h1 g1 (by omega) (by omega)
    have b2 : a * x ≤ 513 * 512 := Int.mul_le_mul h2 g2 (by omega) (by omega)
    have m2 : mn (w (a * x)) 513 = min (a * x) 513 := by
      rw [w_id (by omega) (by omega)]; unfold mn; split <;> omega
    rw [List.foldl_cons, m1, m2, capP_eq (fun y hy => h y (.tail _ hy)) (by omega) (by omega)]
    have hp := P_pos (es := xs) fun y hy => (h y (.tail _ hy)).1
    rw [min_mul (by omega) hp (by omega), P, Int.mul_assoc]
structure Ok (p : List api_Bound) : Prop where
  len : p.length ≤ 7
  num : ∀ b, b ∈ p → num b = true
  big : ∀ b, b ∈ p → shapes_extent b ≤ 512
  pos : ∀ b, b ∈ p → 0 ≤ shapes_extent b
  sz : prodE (p.map shapes_extent) ≤ 512
theorem ext_nonneg (b : api_Bound) : 0 ≤ shapes_extent b := by unfold shapes_extent mx; split <;> omega
theorem bErr_ok {p : List api_Bound} (h : bErr p = 0) : Ok p := by
  unfold bErr at h
  split at h
  · cases h
  split at h
  · cases h
  split at h
  · cases h
  split at h
  · cases h
  rename_i h1 h2 h3 h4
  refine ⟨by omega, fun b hb => ?_, fun b hb => ?_, fun b _ => ext_nonneg b, by omega⟩
  · simp only [List.any_eq_true, not_exists, not_and, Bool.not_eq_true', Bool.not_eq_false] at h2
    exact h2 b hb
  · simp only [List.any_eq_true, not_exists, not_and, decide_eq_true_eq] at h3
    have := h3 b hb
    omega
theorem prodE_P {xs : List Int} (h : ∀ x, x ∈ xs → 0 ≤ x ∧ x ≤ 512) (hs : prodE xs ≤ 512) : prodE xs = P xs ∧ 0 ≤ P xs := by
  unfold prodE at hs ⊢
  by_cases h0 : xs.any (fun x => 0 == x) = true
  · rw [if_pos h0]
    have : P xs = 0 := P_zero (by
      simp only [List.any_eq_true, beq_iff_eq] at h0
      obtain ⟨x, h1, h2⟩ := h0
      exact ⟨x, h1, h2.symm⟩)
    omega
  · rw [if_neg h0] at hs ⊢
    have hx : ∀ x, x ∈ xs → 1 ≤ x ∧ x ≤ 512 := fun x hx => by
      obtain ⟨h1, h2⟩ := h x hx
      simp only [List.any_eq_true, not_exists, not_and, beq_iff_eq] at h0
      have := h0 x hx
      omega
    have := capP_eq (a := 1) hx (by omega) (by omega)
    unfold capP at hs ⊢
    have hp := P_pos fun x hq => (hx x hq).1
    omega
theorem Ok.size {p : List api_Bound} (h : Ok p) : prodE (p.map shapes_extent) = P (p.map shapes_extent) ∧ 0 ≤ P (p.map shapes_extent) ∧ P (p.map shapes_extent) ≤ 512 := by
  have := prodE_P (xs := p.map shapes_extent) (fun x hx => by
    obtain ⟨b, hb, rfl⟩ := List.mem_map.1 hx
    exact ⟨h.pos b hb, h.big b hb⟩) h.sz
  have hs := h.sz
  omega
def exs (bs : List api_Bound) : List Int := bs.map shapes_extent
end Go.Sh
namespace Go.Sh
open Go.Lx
set_option linter.unusedVariables false
set_option linter.unusedSimpArgs false
theorem extents_eq' {p : List api_Bound} (h : p.length < 16777216) : shapes_extents p = some (exs p) := extents_eq h
theorem refExtents_eq' {p : List api_Bound} (h : p.length < 16777216) : ref15_Extents p = some (exs p) := refExtents_eq h
end Go.Sh
namespace Go.Sh
open Go.Lx
set_option linter.unusedVariables false
set_option linter.unusedSimpArgs false
def badEl (xs : List Int) : Sum Nat Unit := scanE (fun i b x => if shapes_isInteger x = true then .inr b else .inl i) 0 xs ()
def chk (a : api_Array) : Int × Int :=
  if bErr a.Bounds ≠ 0 then (0, bErr a.Bounds)
  else if (a.Elements.length : Int) ≠ prodE (exs a.Bounds) then (0, 10)
  else match badEl a.Elements with | .inl i => ((i : Int), 2) | .inr _ => (0, 0)
theorem isInteger_eq (x : Int) : ref15_IsInteger x = shapes_isInteger x := by unfold ref15_IsInteger shapes_isInteger; exact within_eq _ _ _
theorem checkArray_eq {a : api_Array} (h : a.Elements.length < 16777216) : shapes_CheckArray a = some (chk a) := by
  unfold shapes_CheckArray chk
  rw [boundsErr_eq]
  simp only [Option.bind_some]
  by_cases hb : bErr a.Bounds = 0
  · have hl7 := (bErr_ok hb).len
    simp only [hb, not_true, if_false, ne_eq]
    rw [size_eq (by omega)]
    simp only [Option.bind_some]
    by_cases hl : (a.Elements.length : Int) = prodE (exs a.Bounds)
    · have hl' : (a.Elements.length : Int) = prodE (a.Bounds.map shapes_extent) := hl
      simp only [hl', hl, not_true, if_false]
      unfold shapes_firstBad_int__shapes_CheckArray_c1
      rw [loop_scan (step := shapes_firstBad_int__shapes_CheckArray_c1.s1 a.Elements) a.Elements (fun i (_ : Unit) => i) (fun k : Nat => Sum.inr ((k : Int), 2)) (fun _ => Sum.inl ()) (fun i b x => if shapes_isInteger x = true then .inr b else .inl i) (fun _ _ => True) (a := ()) rfl ?_ ?_ trivial (by omega)]
      · unfold badEl
        cases scanE (fun i b x => if shapes_isInteger x = true then Sum.inr b else Sum.inl i) 0 a.Elements () <;> simp [hl, exs]
      · intro i hi b _
        refine ⟨?_, fun _ _ => trivial⟩
        simp only [shapes_firstBad_int__shapes_CheckArray_c1.s1, lt_len hi, if_true, at_lt hi, Option.bind_some, shapes_CheckArray_c1, broken1]
        by_cases hq : shapes_isInteger a.Elements[i] = true
        · simp only [hq, if_true, not_true, if_false]; rw [wn (by omega)]
        · simp only [hq, if_false, Bool.false_eq_true]; simp
      · intro b _; simp only [shapes_firstBad_int__shapes_CheckArray_c1.s1, not_lt_len, if_false]
    · have hl' : ¬ (a.Elements.length : Int) = prodE (a.Bounds.map shapes_extent) := hl
      simp [hl', hl, exs]
  · simp [hb]
theorem refCheck_eq {a : api_Array} (h : a.Elements.length < 16777216) : ref15_Check a = some (chk a) := by
  unfold ref15_Check chk
  rw [refBoundsErr_eq]
  simp only [Option.bind_some]
  by_cases hb : bErr a.Bounds = 0
  · have hl7 := (bErr_ok hb).len
    simp only [hb, not_true, if_false, ne_eq]
    rw [refExtents_eq' (by omega)]
    simp only [Option.bind_some]
    rw [refProduct_eq (by simp [exs]; omega)]
    simp only [Option.bind_some]
    by_cases hl : (a.Elements.length : Int) = prodE (exs a.Bounds)
    · simp only [hl, not_true, if_false]
      rw [loop_scan (step := ref15_Check.s1 a) a.Elements (fun i (_ : Unit) => i) (fun k : Nat => Sum.inr ((k : Int), 2)) (fun _ => Sum.inl ()) (fun i b x => if shapes_isInteger x = true then .inr b else .inl i) (fun _ _ => True) (a := ()) rfl ?_ ?_ trivial (by omega)]
      · unfold badEl
        cases scanE (fun i b x => if shapes_isInteger x = true then Sum.inr b else Sum.inl i) 0 a.Elements () <;> rfl
      · intro i hi b _
        refine ⟨?_, fun _ _ => trivial⟩
        simp only [ref15_Check.s1, lt_len hi, if_true, at_lt hi, Option.bind_some, isInteger_eq]
        by_cases hq : shapes_isInteger a.Elements[i] = true
        · simp only [hq, if_true, not_true, if_false]; rw [wn (by omega)]
        · simp only [hq, if_false, Bool.false_eq_true, not_false_eq_true, if_true]
      · intro b _; simp only [ref15_Check.s1, not_lt_len, if_false]
    · simp [hl]
  · simp [hb]
theorem refErr_eq {a : api_Array} (h : a.Elements.length < 16777216) : ref15_Err a = some (chk a).2 := by
  unfold ref15_Err; rw [refCheck_eq h]; rfl
theorem refCopy_eq {a : api_Array} (h1 : a.Bounds.length ≤ 16777216) (h : a.Elements.length < 16777216) : ref15_Copy a = some a := by
  unfold ref15_Copy; rw [copyBounds_eq h1, copyInts_eq (by omega)]; rfl
theorem equal_eq {a b : List Int} (h : a.length < 16777216) : slices_Equal_int a b = some (a == b) := by
  unfold slices_Equal_int
  by_cases hl : (a.length : Int) = (b.length : Int)
  · have hll : a.length = b.length := by omega
    simp only [hl, not_true, if_false]
    have hlen : (a.zip b).length = a.length := by simp; omega
    rw [loop_find (step := slices_Equal_int.s1 a b) (a.zip b) (fun p => if (!(p.1 == p.2)) = true then some false else none) (fun c => Sum.inr c) (Sum.inl ()) rfl ?_ ?_ (by omega), findSome_const]
    · have key : ∀ (a b : List Int), a.length = b.length → ((a.zip b).any fun p => !(p.1 == p.2)) = !(a == b) := by
        intro a
        induction a with
        | nil => intro b hb; cases b with | nil => rfl | cons => cases hb
        | cons x a ih =>
          intro b hb
          cases b with
          | nil => cases hb
          | cons y b =>
            simp only [List.zip_cons_cons, List.any_cons, ih b (by simpa using hb)]
            by_cases e : x = y
            · subst e; simp
            · have e1 : (x == y) = false := by simpa using e
              simp [e1, e]
      rw [key a b hll]
      cases a == b <;> rfl
    · intro i hi
      rw [hlen] at hi
      have h1 : i < b.length := by omega
      simp only [slices_Equal_int.s1, lt_len hi, if_true, at_lt hi, at_lt h1, Option.bind_some, List.getElem_zip]
      by_cases hq : a[i] = b[i]
      · simp only [hq, not_true, if_false, beq_self_eq_true, Bool.not_true, Bool.false_eq_true]; rw [wn (by omega)]
      · have : (a[i] == b[i]) = false := by simpa using hq
        simp only [hq, not_false_eq_true, if_true, this, Bool.not_false]
    · rw [hlen]; simp only [slices_Equal_int.s1, not_lt_len, if_false]
  · have : a ≠ b := fun q => hl (by rw [q])
    simp [hl, this]
theorem few_ok {a : api_Array} (h : law15_few a = true) : a.Bounds.length ≤ 9 ∧ a.Elements.length ≤ 80 := by
  unfold law15_few at h
  simp at h
  omega
end Go.Sh
namespace Go.Sh
open Go.Lx
set_option linter.unusedVariables false
set_option linter.unusedSimpArgs false
end Go.Sh
namespace Go.Sh
open Go.Lx
set_option linter.unusedVariables false
set_option linter.unusedSimpArgs false
abbrev Sec := List Int × List (List Int) × List Int
section
variable {p : List api_Bound} {q : List api_Subscript} {v : Sec}
structure SecOk (p : List api_Bound) (q : List api_Subscript) (v : Sec) : Prop where
  lists : v.2.1.length = p.length
  lens : v.2.2 = v.2.1.map fun l => (l.length : Int)
  small : ∀ l, l ∈ v.2.1 → l.length ≤ 512
  ins : ∀ t, t ∈ p.zip v.2.1 → ∀ x, x ∈ t.2 → shapes_inside x t.1.Low t.1.High = true
theorem SecOk.pos (h : SecOk p q v) : 0 ≤ prodE v.2.2 := by
  unfold prodE
  split
  · omega
  · rename_i h0
    have hr : ∀ x, x ∈ v.2.2 → 1 ≤ x ∧ x ≤ 512 := by
      intro x hx
      have hx' := hx
      rw [h.lens] at hx
      obtain ⟨l, hl, rfl⟩ := List.mem_map.1 hx
      have := h.small l hl
      simp only [List.any_eq_true, not_exists, not_and, beq_iff_eq] at h0
      have := h0 _ hx'
      omega
    have := capP_eq (a := 1) hr (by omega) (by omega)
    have hp := P_pos fun x hq => (hr x hq).1
    unfold capP
    omega
end
end Go.Sh
namespace Go.Sh
open Go.Lx
set_option linter.unusedVariables false
set_option linter.unusedSimpArgs false
structure Valid (a : api_Array) : Prop where
  b : bErr a.Bounds = 0
  len : (a.Elements.length : Int) = P (exs a.Bounds)
  int : ∀ x, x ∈ a.Elements → shapes_isInteger x = true
theorem badEl_iff : ∀ (xs : List Int) (i : Nat), (∀ x, x ∈ xs → shapes_isInteger x = true) ↔ scanE (fun i b x => if shapes_isInteger x = true then Sum.inr b else Sum.inl i) i xs () = .inr ()
  | [], i => by simp [scanE]
  | x :: xs, i => by
    simp only [scanE, List.mem_cons, forall_eq_or_imp]
    by_cases h : shapes_isInteger x = true
    · simp only [h, if_true, true_and]; exact badEl_iff xs (i + 1)
    · simp [h]
theorem chk_valid {a : api_Array} (h : (chk a).2 = 0) : Valid a := by
  unfold chk at h
  split at h
  · rename_i hb; exact absurd h hb
  rename_i hb
  split at h
  · cases h
  rename_i hl
  have hb' := Classical.not_not.1 hb
  have hl' := Classical.not_not.1 hl
  have ok := bErr_ok hb'
  refine ⟨hb', by have := ok.size; rw [hl']; exact this.1, ?_⟩
  cases hq : badEl a.Elements with
  | inl i => rw [hq] at h; cases h
  | inr u => exact (badEl_iff _ 0).2 hq
theorem valid_chk {a : api_Array} (h : Valid a) : chk a = (0, 0) := by
  unfold chk
  have ok := bErr_ok h.b
  have hl : (a.Elements.length : Int) = prodE (exs a.Bounds) := by rw [h.len]; exact ok.size.1.symm
  simp only [h.b, ne_eq, not_true, if_false, hl]
  have : badEl a.Elements = .inr () := (badEl_iff _ 0).1 h.int
  rw [this]
def elAt (xs : List Int) (o : Int) : Int := (xs[o.toNat]?).getD 0
def ofExt (es : List Int) : List api_Bound := es.map fun e => api_Bound.mk 1 e
theorem from_eq {es : List Int} (h : es.length < 16777216) : shapes_from es = some (ofExt es) := by
  unfold shapes_from
  rw [loop_map (step := shapes_from.s1 es) es (fun e => api_Bound.mk 1 e) (fun i b => (i, b)) (fun b => b) rfl ?_ ?_ (by omega)]
  · rfl
  · intro i hi b hb
    simp only [shapes_from.s1, lt_len hi, if_true, at_lt hi, Option.bind_some]
    rw [app_one (by omega), wn (by omega)]; rfl
  · intro b; simp only [shapes_from.s1, not_lt_len, if_false]
theorem refOf_eq {es xs : List Int} (h : es.length < 16777216) : ref15_Of es xs = some (api_Array.mk (ofExt es) xs) := by
  unfold ref15_Of
  rw [loop_map (step := ref15_Of.s1 es) es (fun e => api_Bound.mk 1 e) (fun i b => (i, b)) (fun b => b) rfl ?_ ?_ (by omega)]
  · rfl
  · intro i hi b hb
    simp only [ref15_Of.s1, lt_len hi, if_true, at_lt hi, Option.bind_some]
    rw [app_one (by omega), wn (by omega)]; rfl
  · intro b; simp only [ref15_Of.s1, not_lt_len, if_false]
theorem at_el {xs : List Int} {o : Int} (h0 : 0 ≤ o) (h1 : o < (xs.length : Int)) : at_ xs o = some (elAt xs o) := by
  unfold at_ elAt
  rw [if_pos h0]
  have : o.toNat < xs.length := by omega
  simp [this]
def itemR (a : api_Array) (i : Nat) : Int := if a.Bounds.length = 0 then elAt a.Elements 0 else elAt a.Elements i
theorem copied_eq {a : api_Array} (h1 : a.Bounds.length ≤ 16777216) (h2 : a.Elements.length ≤ 16777216) : shapes_copied a = some a := by
  unfold shapes_copied slices_Clone_api_Bound slices_Clone_int
  rw [app_nil h1, app_nil h2]; rfl
theorem same_self {a : api_Array} (h1 : a.Bounds.length < 16777216) (h2 : a.Elements.length < 16777216) : ref15_Same a a = some true := by
  unfold ref15_Same
  rw [ints_eq h2 h2]
  simp only [Option.bind_some, beq_self_eq_true, not_true, if_false]
  rw [loop_find (step := ref15_Same.s1 a a) a.Bounds (fun _ => (none : Option Bool)) (fun c => Sum.inr c) (Sum.inl ()) rfl ?_ ?_ (by omega)]
  · have : a.Bounds.findSome? (fun _ => (none : Option Bool)) = none := by simp
    rw [this]; rfl
  · intro i hi
    simp only [ref15_Same.s1, lt_len hi, if_true, at_lt hi, Option.bind_some, beq_self_eq_true, Bool.and_self, not_true, if_false]
    rw [wn (by omega)]
  · simp only [ref15_Same.s1, not_lt_len, if_false]
theorem is_self {a : api_Array} {e : Int} (h1 : a.Bounds.length < 16777216) (h2 : a.Elements.length < 16777216) : law15_is a e a e = some true := by
  unfold law15_is; rw [if_pos rfl, same_self h1 h2]; rfl
theorem ofExt_exs {es : List Int} (h : ∀ e, e ∈ es → 0 ≤ e ∧ e ≤ 512) : exs (ofExt es) = es := by
  unfold exs ofExt
  rw [List.map_map]
  conv => rhs; rw [← List.map_id es]
  refine List.map_congr_left fun e he => ?_
  have := h e he
  show shapes_extent (api_Bound.mk 1 e) = id e
  unfold shapes_extent mx
  simp only [id]
  rw [w_id (n := e - 1) (by omega) (by omega), w_id (by omega) (by omega)]
  split <;> omega
theorem ofExt_bErr {es : List Int} (h : ∀ e, e ∈ es → 0 ≤ e ∧ e ≤ 512) (h7 : es.length ≤ 7) (hp : P es ≤ 512) : bErr (ofExt es) = 0 := by
  have hx := ofExt_exs h
  unfold bErr
  rw [if_neg (by simp [ofExt]; omega)]
  have n1 : (ofExt es).any (fun b => !num b) = false := by
    rw [List.any_eq_false]
    intro b hb
    obtain ⟨e, he, rfl⟩ := List.mem_map.1 hb
    have := h e he
    simp [num, shapes_isNumber, shapes_inside]
    omega
  have n2 : (ofExt es).any (fun b => decide (shapes_extent b > 512)) = false := by
    rw [List.any_eq_false]
    intro b hb
    have hm : shapes_extent b ∈ exs (ofExt es) := List.mem_map_of_mem hb
    rw [hx] at hm
    have := h _ hm
    simp; omega
  rw [n1, n2]
  simp only [Bool.false_eq_true, if_false]
  have hx' : (ofExt es).map shapes_extent = es := hx
  rw [hx']
  have hpe : prodE es ≤ 512 := by
    by_cases h0 : es.any (fun x => 0 == x) = true
    · unfold prodE; rw [if_pos h0]; omega
    · unfold prodE
      rw [if_neg h0]
      have hr : ∀ x, x ∈ es → 1 ≤ x ∧ x ≤ 512 := by
        intro x hx
        simp only [List.any_eq_true, not_exists, not_and, beq_iff_eq] at h0
        have := h0 x hx
        have := h x hx
        omega
      have := capP_eq (a := 1) hr (by omega) (by omega)
      unfold capP
      omega
  rw [if_neg (by omega)]
end Go.Sh
namespace Go.Sh
open Go.Lx
set_option linter.unusedVariables false
set_option linter.unusedSimpArgs false
theorem arraysErr3 {a b c : api_Array} (ha : a.Elements.length < 16777216) (hb : b.Elements.length < 16777216) (hc : c.Elements.length < 16777216) :
    shapes_arraysErr [a, b, c] = some (if (chk a).2 ≠ 0 then (chk a).2 else if (chk b).2 ≠ 0 then (chk b).2 else (chk c).2) := by
  unfold shapes_arraysErr
  rw [loop_find (step := shapes_arraysErr.s1 [a, b, c]) [a, b, c] (fun x => if (chk x).2 = 0 then none else some (chk x).2) (fun c => Sum.inr c) (Sum.inl ()) rfl ?_ ?_ (by simp)]
  · by_cases h1 : (chk a).2 = 0
    · by_cases h2 : (chk b).2 = 0
      · by_cases h3 : (chk c).2 = 0
        · simp [h1, h2, h3]
        · simp [h1, h2, h3]
      · simp [h1, h2]
    · simp [h1]
  · intro i hi
    have hx : [a, b, c][i].Elements.length < 16777216 := by
      match i, hi with
      | 0, _ => exact ha
      | 1, _ => exact hb
      | 2, _ => exact hc
    simp only [shapes_arraysErr.s1, lt_len hi, if_true, at_lt hi, Option.bind_some, checkArray_eq hx]
    by_cases e : (chk [a, b, c][i]).2 = 0
    · simp only [e, not_true, if_false, if_true]; rw [wn (by simp at hi; omega)]
    · simp only [e, not_false_eq_true, if_true, if_false]
  · simp only [shapes_arraysErr.s1, not_lt_len, if_false]
def fitsA (b a : api_Array) : Bool := b.Bounds.length == 0 || exs b.Bounds == exs a.Bounds
theorem item_ok {a b : api_Array} (va : Valid a) (vb : Valid b) (hf : fitsA b a = true) {i : Nat} (hi : i < a.Elements.length) : shapes_item b i = some (itemR b i) ∧ ref15_At b i = some (itemR b i) := by
  unfold shapes_item ref15_At itemR shapes_isScalar
  by_cases h0 : b.Bounds.length = 0
  · have hl : b.Elements.length = 1 := by
      have := vb.len
      have e : b.Bounds = [] := List.length_eq_zero_iff.1 h0
      rw [e] at this
      simp [exs, P] at this
      omega
    have e1 : ((b.Bounds.length : Int) == 0) = true := by simp; exact List.length_eq_zero_iff.1 h0
    have e2 : (b.Bounds.length : Int) = 0 := by omega
    rw [if_pos e1, if_pos e2, if_pos h0, at_el (by omega) (by omega)]
    exact ⟨rfl, rfl⟩
  · have e2 : ¬ (b.Bounds.length : Int) = 0 := by omega
    have e1 : ¬ ((b.Bounds.length : Int) == 0) = true := by rw [beq_iff_eq]; exact e2
    have hx : exs b.Bounds = exs a.Bounds := by
      unfold fitsA at hf
      have : (b.Bounds.length == 0) = false := by rw [beq_eq_false_iff_ne]; exact h0
      rw [this, Bool.false_or, beq_iff_eq] at hf
      exact hf
    have hl := vb.len
    rw [hx, ← va.len] at hl
    rw [if_neg e1, if_neg e2, if_neg h0, at_el (by omega) (by omega)]
    exact ⟨rfl, rfl⟩
theorem brokenAB (a b : Bool) : shapes_broken [shapes_rule.mk a 10, shapes_rule.mk b 32] = some (if a = true then (if b = true then 0 else 32) else 10) := by
  cases a <;> cases b <;> decide +kernel
theorem brokenBA (a b : Bool) : shapes_broken [shapes_rule.mk a 32, shapes_rule.mk b 10] = some (if a = true then (if b = true then 0 else 10) else 32) := by
  cases a <;> cases b <;> decide +kernel
theorem sameShape_eq {a b : api_Array} (ha : a.Bounds.length < 16777216) (hb : b.Bounds.length < 16777216) : shapes_sameShape a b = some (exs a.Bounds == exs b.Bounds) := by
  unfold shapes_sameShape
  rw [extents_eq' ha, extents_eq' hb]
  simp only [Option.bind_some]
  rw [equal_eq (by simp [exs]; omega)]; rfl
def kept : List Int → List Int → List Int
  | m :: ms, x :: xs => if m ≠ 0 then x :: kept ms xs else kept ms xs
  | _, _ => []
theorem kept_len : ∀ (ms xs : List Int), (kept ms xs).length ≤ xs.length
  | [], xs => by simp [kept]
  | m :: ms, [] => by simp [kept]
  | m :: ms, x :: xs => by
    have := kept_len ms xs
    simp only [kept]
    split <;> simp <;> omega
theorem kept_mem : ∀ (ms xs : List Int) (y : Int), y ∈ kept ms xs → y ∈ xs
  | [], xs, y, h => by simp [kept] at h
  | m :: ms, [], y, h => by simp [kept] at h
  | m :: ms, x :: xs, y, h => by
    simp only [kept] at h
    split at h
    · cases h with
      | head => exact .head _
      | tail _ h => exact .tail _ (kept_mem ms xs y h)
    · exact .tail _ (kept_mem ms xs y h)
def items (b : api_Array) (n : Nat) : List Int := (List.range n).map (itemR b)
theorem scan_pack (b : api_Array) : ∀ (xs : List Int) (i : Nat) (acc : List Int) (ms : List Int), ms.length = xs.length → (∀ j (h : j < ms.length), ms[j] = itemR b (i + j)) →
    scanE (ρ := Empty) (fun i (l : List Int) x => .inr (if itemR b i ≠ 0 then l ++ [x] else l)) i xs acc = .inr (acc ++ kept ms xs)
  | [], i, acc, ms, hl, _ => by
    have : ms = [] := List.length_eq_zero_iff.1 (by simpa using hl)
    subst this
    simp [scanE, kept]
  | x :: xs, i, acc, [], hl, _ => by cases hl
  | x :: xs, i, acc, m :: ms, hl, h => by
    have h0 : m = itemR b i := by
      have := h 0 (by simp)
      simp only [Nat.add_zero, List.getElem_cons_zero] at this
      exact this
    simp only [scanE]
    rw [scan_pack b xs (i + 1) _ ms (by simpa using hl) (fun j hj => by
      have := h (j + 1) (by simpa using hj)
      simp only [List.getElem_cons_succ] at this
      rw [this]; congr 1; omega)]
    rw [← h0]
    simp only [kept]
    by_cases hm : m = 0
    · simp [hm]
    · simp [hm]
def packL (a b : api_Array) : List Int := kept (items b a.Elements.length) a.Elements
theorem pack_loop {a b : api_Array} {step : Int × List Int → Option (Sum (Int × List Int) (List Int))} (hl : a.Elements.length < 1152921504606846976)
    (h : ∀ i (hi : i < a.Elements.length) (l : List Int), l.length ≤ i → step (i, l) = some (.inl (((i + 1 : Nat) : Int), if itemR b i ≠ 0 then l ++ [a.Elements[i]] else l))) (hend : ∀ l, step ((a.Elements.length : Int), l) = some (.inr l)) :
    loopO step (0, []) = some (packL a b) := by
  rw [loop_scan (ρ := Empty) a.Elements (fun i b => (i, b)) (fun e => e.elim) (fun b => b) (fun i (l : List Int) x => .inr (if itemR b i ≠ 0 then l ++ [x] else l)) (fun i l => l.length ≤ i) rfl (fun i hi l hI => ⟨h i hi l hI, fun b' e => by
    cases e
    by_cases hq : itemR b i ≠ 0
    · rw [if_pos hq]; simp; omega
    · rw [if_neg hq]; omega⟩) (fun l _ => hend l) (Nat.le_refl _) hl]
  rw [scan_pack b a.Elements 0 [] (items b a.Elements.length) (by simp [items]) (fun j hj => by simp [items])]
  simp [packL]
def packR (a b c : api_Array) : api_Array × Int :=
  if (chk a).2 ≠ 0 then (⟨[], []⟩, (chk a).2)
  else if (chk b).2 ≠ 0 then (⟨[], []⟩, (chk b).2)
  else if (chk c).2 ≠ 0 then (⟨[], []⟩, (chk c).2)
  else if fitsA b a = false then (⟨[], []⟩, 10)
  else if c.Bounds.length > 1 then (⟨[], []⟩, 32)
  else if c.Bounds.length = 1 then (if (c.Elements.length : Int) < ((packL a b).length : Int) then (⟨[], []⟩, 17) else (⟨[⟨1, ((packL a b ++ c.Elements.drop (packL a b).length).length : Int)⟩], packL a b ++ c.Elements.drop (packL a b).length⟩, 0))
  else (⟨[⟨1, ((packL a b).length : Int)⟩], packL a b⟩, 0)
theorem cut_tail {xs : List Int} {k : Nat} (h : k ≤ xs.length) : cut xs (k : Int) (xs.length : Int) = some (xs.drop k) := by
  unfold cut; rw [if_pos (by omega)]; simp
theorem pack_eq {a b c : api_Array} (ha : a.Bounds.length ≤ 9 ∧ a.Elements.length ≤ 80) (hb : b.Bounds.length ≤ 9 ∧ b.Elements.length ≤ 80) (hc : c.Bounds.length ≤ 9 ∧ c.Elements.length ≤ 80) : shapes_Pack a b c = some (packR a b c) := by
  unfold shapes_Pack packR
  rw [arraysErr3 (by omega) (by omega) (by omega)]
  simp only [Option.bind_some]
  by_cases h1 : (chk a).2 = 0
  · by_cases h2 : (chk b).2 = 0
    · by_cases h3 : (chk c).2 = 0
      · have va := chk_valid h1
        have vb := chk_valid h2
        simp only [h1, h2, h3, ne_eq, not_true, if_false]
        have kl := kept_len (items b a.Elements.length) a.Elements
        have j : fitsA b a = true → shapes_Pack.j1 a b c () = some (if c.Bounds.length = 1 then (if (c.Elements.length : Int) < ((packL a b).length : Int) then (⟨[], []⟩, 17) else (⟨[⟨1, ((packL a b ++ c.Elements.drop (packL a b).length).length : Int)⟩], packL a b ++ c.Elements.drop (packL a b).length⟩, 0)) else (⟨[⟨1, ((packL a b).length : Int)⟩], packL a b⟩, 0)) := by
          intro hf
          unfold shapes_Pack.j1
          rw [pack_loop (a := a) (b := b) (step := shapes_Pack.s2 a b) (by omega) ?_ ?_]
          · simp only [Option.bind_some]
            have pl : (packL a b).length ≤ 80 := by unfold packL; omega
            by_cases hc1 : c.Bounds.length = 1
            · have hc1' : (c.Bounds.length : Int) = 1 := by omega
              rw [if_pos hc1', if_pos hc1]
              by_cases hlt : (c.Elements.length : Int) < ((packL a b).length : Int)
              · simp only [hlt, if_true]
              · simp only [hlt, if_false]
                rw [cut_tail (by omega)]
                simp only [Option.bind_some]
                have : app (packL a b) (c.Elements.drop (packL a b).length) = some (packL a b ++ c.Elements.drop (packL a b).length) := by unfold app; rw [if_pos (by simp; omega)]
                rw [this]
                simp only [Option.bind_some]
                rw [from_eq (by simp)]
                rfl
            · have hc1' : ¬ (c.Bounds.length : Int) = 1 := by omega
              rw [if_neg hc1', if_neg hc1, from_eq (by simp)]
              rfl
          · intro i hi l hl
            simp only [shapes_Pack.s2, lt_len hi, if_true, at_lt hi, Option.bind_some, (item_ok va vb hf hi).1]
            by_cases hm : itemR b i = 0
            · simp only [hm, not_true, if_false, ne_eq]; rw [wn (by omega)]
            · simp only [hm, not_false_eq_true, if_true, ne_eq]
              rw [app_one (by omega), wn (by omega)]; rfl
          · intro l; simp only [shapes_Pack.s2, not_lt_len, if_false]
        by_cases h0 : shapes_isScalar b = true
        · rw [if_pos h0, brokenAB]
          simp only [Option.bind_some, if_true]
          have hf : fitsA b a = true := by
            unfold shapes_isScalar at h0
            unfold fitsA
            have : (b.Bounds.length == 0) = true := by simp at h0 ⊢; exact h0
            rw [this]; rfl
          rw [j hf]
          simp only [hf, Bool.true_eq_false, if_false]
          by_cases hc2 : c.Bounds.length > 1
          · have : ¬ (c.Bounds.length : Int) ≤ 1 := by omega
            simp [this, hc2]
          · have : (c.Bounds.length : Int) ≤ 1 := by omega
            simp [this, hc2]
        · rw [if_neg h0, sameShape_eq (by omega) (by omega)]
          simp only [Option.bind_some]
          rw [brokenAB]
          simp only [Option.bind_some]
          have hz : (b.Bounds.length == 0) = false := by unfold shapes_isScalar at h0; simp at h0 ⊢; exact h0
          have hff : fitsA b a = (exs a.Bounds == exs b.Bounds) := by
            unfold fitsA
            rw [hz, Bool.false_or]
            by_cases e : exs a.Bounds = exs b.Bounds
            · rw [e]
            · have e' : ¬ exs b.Bounds = exs a.Bounds := fun q => e q.symm
              rw [beq_eq_false_iff_ne.2 e, beq_eq_false_iff_ne.2 e']
          cases hq : (exs a.Bounds == exs b.Bounds) with
          | false => rw [hq] at hff; simp [hff]
          | true =>
            rw [hq] at hff
            rw [j hff]
            simp only [hff, Bool.true_eq_false, if_false]
            by_cases hc2 : c.Bounds.length > 1
            · have : ¬ (c.Bounds.length : Int) ≤ 1 := by omega
              simp [this, hc2]
            · have : (c.Bounds.length : Int) ≤ 1 := by omega
              simp [this, hc2]
      · simp [h1, h2, h3]
    · simp [h1, h2]
  · simp [h1]
theorem refPacked_eq {a b c : api_Array} (ha : a.Bounds.length ≤ 9 ∧ a.Elements.length ≤ 80) (hb : b.Bounds.length ≤ 9 ∧ b.Elements.length ≤ 80) (hc : c.Bounds.length ≤ 9 ∧ c.Elements.length ≤ 80) : ref15_Packed a b c = some (packR a b c) := by
  unfold ref15_Packed packR
  rw [refErr_eq (by omega), refErr_eq (by omega), refErr_eq (by omega)]
  simp only [Option.bind_some]
  by_cases h1 : (chk a).2 = 0
  · by_cases h2 : (chk b).2 = 0
    · by_cases h3 : (chk c).2 = 0
      · have va := chk_valid h1
        have vb := chk_valid h2
        simp only [h1, h2, h3, ne_eq, not_true, if_false]
        have kl := kept_len (items b a.Elements.length) a.Elements
        have j : fitsA b a = true → ref15_Packed.j1 a b c () = some (if c.Bounds.length > 1 then (⟨[], []⟩, 32) else if c.Bounds.length = 1 then (if (c.Elements.length : Int) < ((packL a b).length : Int) then (⟨[], []⟩, 17) else (⟨[⟨1, ((packL a b ++ c.Elements.drop (packL a b).length).length : Int)⟩], packL a b ++ c.Elements.drop (packL a b).length⟩, 0)) else (⟨[⟨1, ((packL a b).length : Int)⟩], packL a b⟩, 0)) := by
          intro hf
          unfold ref15_Packed.j1
          by_cases hc2 : c.Bounds.length > 1
          · have : (c.Bounds.length : Int) > 1 := by omega
            simp only [this, hc2, if_true]
          have hc2' : ¬ (c.Bounds.length : Int) > 1 := by omega
          rw [if_neg hc2', if_neg hc2]
          rw [pack_loop (a := a) (b := b) (step := ref15_Packed.s2 a b) (by omega) ?_ ?_]
          · simp only [Option.bind_some]
            have pl : (packL a b).length ≤ 80 := by unfold packL; omega
            by_cases hc1 : c.Bounds.length = 1
            · have hc1' : (c.Bounds.length : Int) = 1 := by omega
              rw [if_pos hc1', if_pos hc1]
              by_cases hlt : (c.Elements.length : Int) < ((packL a b).length : Int)
              · simp only [hlt, if_true]
              · simp only [hlt, if_false]
                rw [cut_tail (by omega)]
                simp only [Option.bind_some]
                have : app (packL a b) (c.Elements.drop (packL a b).length) = some (packL a b ++ c.Elements.drop (packL a b).length) := by unfold app; rw [if_pos (by simp; omega)]
                rw [this]
                simp only [Option.bind_some]
                rw [refOf_eq (by simp)]
                rfl
            · have hc1' : ¬ (c.Bounds.length : Int) = 1 := by omega
              rw [if_neg hc1', if_neg hc1, refOf_eq (by simp)]
              rfl
          · intro i hi l hl
            simp only [ref15_Packed.s2, lt_len hi, if_true, at_lt hi, Option.bind_some, (item_ok va vb hf hi).2]
            by_cases hm : itemR b i = 0
            · simp only [hm, not_true, if_false, ne_eq]; rw [wn (by omega)]
            · simp only [hm, not_false_eq_true, if_true, ne_eq]
              rw [app_one (by omega), wn (by omega)]; rfl
          · intro l; simp only [ref15_Packed.s2, not_lt_len, if_false]
        rw [refExtents_eq' (by omega), refExtents_eq' (by omega)]
        simp only [Option.bind_some]
        rw [ints_eq (by simp [exs]; omega) (by simp [exs]; omega)]
        simp only [Option.bind_some]
        by_cases hq : exs b.Bounds = exs a.Bounds
        · have hf : fitsA b a = true := by unfold fitsA; simp [hq]
          have e : (exs b.Bounds == exs a.Bounds) = true := by rw [beq_iff_eq]; exact hq
          simp only [e, not_true, if_false, hf, Bool.true_eq_false]
          exact j hf
        · have e : (exs b.Bounds == exs a.Bounds) = false := by rw [beq_eq_false_iff_ne]; exact hq
          simp only [e, Bool.false_eq_true, not_false_eq_true, if_true]
          by_cases hz : b.Bounds.length = 0
          · have hf : fitsA b a = true := by unfold fitsA; have : (b.Bounds.length == 0) = true := by rw [beq_iff_eq]; exact hz
                                             rw [this]; rfl
            rw [if_neg (show ¬ (b.Bounds.length : Int) > 0 by omega)]
            simp only [hf, Bool.true_eq_false, if_false]
            exact j hf
          · have hf : fitsA b a = false := by unfold fitsA; have : (b.Bounds.length == 0) = false := by rw [beq_eq_false_iff_ne]; exact hz
                                              rw [this, e]; rfl
            rw [if_pos (show (b.Bounds.length : Int) > 0 by omega)]
            simp [hf]
      · simp [h1, h2, h3]
    · simp [h1, h2]
  · simp [h1]
def unF (vec : List Int) (fld : api_Array) (i : Nat) (s : Nat × List Int) (m : Int) : Sum Unit (Nat × List Int) :=
  if m = 0 then .inr (s.1, s.2.set i (itemR fld i)) else if vec.length ≤ s.1 then .inl () else .inr (s.1 + 1, s.2.set i ((vec[s.1]?).getD 0))
def unpackS (vec : List Int) (ms : List Int) (fld : api_Array) : Sum Unit (Nat × List Int) := scanE (unF vec fld) 0 ms (0, ms)
def unpackR (v m f : api_Array) : api_Array × Int :=
  if (chk v).2 ≠ 0 then (⟨[], []⟩, (chk v).2)
  else if (chk m).2 ≠ 0 then (⟨[], []⟩, (chk m).2)
  else if (chk f).2 ≠ 0 then (⟨[], []⟩, (chk f).2)
  else if v.Bounds.length ≠ 1 then (⟨[], []⟩, 32)
  else if fitsA f m = false then (⟨[], []⟩, 10)
  else match unpackS v.Elements m.Elements f with
    | .inl _ => (⟨[], []⟩, 17)
    | .inr r => (⟨m.Bounds, r.2⟩, 0)
def unInv (vec : List Int) (n : Nat) (i : Nat) (s : Nat × List Int) : Prop := s.2.length = n ∧ s.1 ≤ vec.length ∧ s.1 ≤ i
theorem unInv_step {vec : List Int} {fld : api_Array} {n i : Nat} {s s' : Nat × List Int} {m : Int} (h : unInv vec n i s) (e : unF vec fld i s m = .inr s') : unInv vec n (i + 1) s' := by
  obtain ⟨h1, h2, h3⟩ := h
  unfold unF at e
  split at e
  · cases e; exact ⟨by simpa using h1, h2, by simp only; omega⟩
  · split at e
    · cases e
    · cases e; exact ⟨by simpa using h1, by simp only; omega, by simp only; omega⟩
theorem unpack_eq {v m f : api_Array} (hv : v.Bounds.length ≤ 9 ∧ v.Elements.length ≤ 80) (hm : m.Bounds.length ≤ 9 ∧ m.Elements.length ≤ 80) (hf : f.Bounds.length ≤ 9 ∧ f.Elements.length ≤ 80) : shapes_Unpack v m f = some (unpackR v m f) := by
  unfold shapes_Unpack unpackR
  rw [arraysErr3 (by omega) (by omega) (by omega)]
  simp only [Option.bind_some]
  by_cases h1 : (chk v).2 = 0
  · by_cases h2 : (chk m).2 = 0
    · by_cases h3 : (chk f).2 = 0
      · have vm := chk_valid h2
        have vf := chk_valid h3
        simp only [h1, h2, h3, ne_eq, not_true, if_false]
        have j : fitsA f m = true → shapes_Unpack.j1 v m f () = some (match unpackS v.Elements m.Elements f with | .inl _ => (⟨[], []⟩, 17) | .inr r => (⟨m.Bounds, r.2⟩, 0)) := by
          intro hfit
          unfold shapes_Unpack.j1
          rw [copied_eq (by omega) (by omega)]
          simp only [Option.bind_some]
          rw [loop_scan (step := shapes_Unpack.s2 m f) m.Elements (fun i (s : Nat × List Int) => (v.Elements.drop s.1, i, s.2)) (fun (_ : Unit) => Sum.inr (⟨[], []⟩, 17)) (fun s => Sum.inl s.2) (unF v.Elements f) (unInv v.Elements m.Elements.length) (a := (0, m.Elements)) (by simp) ?_ ?_ ⟨rfl, Nat.zero_le _, Nat.le_refl _⟩ (by omega)]
          · unfold unpackS
            cases scanE (unF v.Elements f) 0 m.Elements (0, m.Elements) <;> rfl
          · intro i hi s hI
            refine ⟨?_, fun s' e => unInv_step hI e⟩
            obtain ⟨i1, i2, i3⟩ := hI
            have his : i < s.2.length := by omega
            simp only [shapes_Unpack.s2, lt_len hi, if_true, at_lt hi, at_lt his, Option.bind_some, (item_ok vm vf hfit hi).1, unF, Int.toNat_natCast]
            by_cases hz : m.Elements[i] = 0
            · simp only [hz, if_true]; rw [wn (by omega)]
            · simp only [hz, if_false]
              by_cases hk : v.Elements.length ≤ s.1
              · have : ((v.Elements.drop s.1).length : Int) = 0 := by simp; omega
                simp only [this, if_true, hk]
              · have hne : ¬ ((v.Elements.drop s.1).length : Int) = 0 := by simp; omega
                have a0 : at_ (v.Elements.drop s.1) 0 = some ((v.Elements[s.1]?).getD 0) := by
                  have hlt : s.1 < v.Elements.length := by omega
                  unfold at_; simp [hlt]
                have c0 : cut (v.Elements.drop s.1) 1 ((v.Elements.drop s.1).length : Int) = some (v.Elements.drop (s.1 + 1)) := by
                  have := cut_tail (xs := v.Elements.drop s.1) (k := 1) (by simp; omega)
                  rw [List.drop_drop] at this
                  exact this
                simp only [hne, if_false, hk, a0, c0, Option.bind_some]
                rw [wn (by omega)]
          · intro s hI; simp only [shapes_Unpack.s2, not_lt_len, if_false]
        by_cases h0 : shapes_isScalar f = true
        · rw [if_pos h0, brokenBA]
          simp only [Option.bind_some, if_true]
          have hfit : fitsA f m = true := by
            unfold shapes_isScalar at h0
            unfold fitsA
            have : (f.Bounds.length == 0) = true := by simp at h0 ⊢; exact h0
            rw [this]; rfl
          rw [j hfit]
          simp only [hfit, Bool.true_eq_false, if_false]
          by_cases hc2 : v.Bounds.length = 1
          · simp [hc2]
          · have : ¬ (v.Bounds.length : Int) = 1 := by omega
            simp [this, hc2]
        · rw [if_neg h0, sameShape_eq (by omega) (by omega)]
          simp only [Option.bind_some]
          rw [brokenBA]
          simp only [Option.bind_some]
          have hz : (f.Bounds.length == 0) = false := by unfold shapes_isScalar at h0; simp at h0 ⊢; exact h0
          have hff : fitsA f m = (exs f.Bounds == exs m.Bounds) := by unfold fitsA; rw [hz, Bool.false_or]
          by_cases hc2 : v.Bounds.length = 1
          · cases hq : (exs f.Bounds == exs m.Bounds) with
            | false => rw [hq] at hff; simp [hff, hc2]
            | true =>
              rw [hq] at hff
              rw [j hff]
              simp [hff, hc2]
          · have : ¬ (v.Bounds.length : Int) = 1 := by omega
            simp [this, hc2]
      · simp [h1, h2, h3]
    · simp [h1, h2]
  · simp [h1]
theorem refUnpacked_eq {v m f : api_Array} (hv : v.Bounds.length ≤ 9 ∧ v.Elements.length ≤ 80) (hm : m.Bounds.length ≤ 9 ∧ m.Elements.length ≤ 80) (hf : f.Bounds.length ≤ 9 ∧ f.Elements.length ≤ 80) : ref15_Unpacked v m f = some (unpackR v m f) := by
  unfold ref15_Unpacked unpackR
  rw [refErr_eq (by omega), refErr_eq (by omega), refErr_eq (by omega)]
  simp only [Option.bind_some]
  by_cases h1 : (chk v).2 = 0
  · by_cases h2 : (chk m).2 = 0
    · by_cases h3 : (chk f).2 = 0
      · have vm := chk_valid h2
        have vf := chk_valid h3
        simp only [h1, h2, h3, ne_eq, not_true, if_false]
        have j : fitsA f m = true → ref15_Unpacked.j1 v m f () = some (match unpackS v.Elements m.Elements f with | .inl _ => (⟨[], []⟩, 17) | .inr r => (⟨m.Bounds, r.2⟩, 0)) := by
          intro hfit
          unfold ref15_Unpacked.j1
          rw [refCopy_eq (by omega) (by omega)]
          simp only [Option.bind_some]
          rw [loop_scan (step := ref15_Unpacked.s2 v m f) m.Elements (fun i (s : Nat × List Int) => ((s.1 : Int), i, s.2)) (fun (_ : Unit) => Sum.inr (⟨[], []⟩, 17)) (fun s => Sum.inl s.2) (unF v.Elements f) (unInv v.Elements m.Elements.length) (a := (0, m.Elements)) (by simp) ?_ ?_ ⟨rfl, Nat.zero_le _, Nat.le_refl _⟩ (by omega)]
          · unfold unpackS
            cases scanE (unF v.Elements f) 0 m.Elements (0, m.Elements) <;> rfl
          · intro i hi s hI
            refine ⟨?_, fun s' e => unInv_step hI e⟩
            obtain ⟨i1, i2, i3⟩ := hI
            have his : i < s.2.length := by omega
            simp only [ref15_Unpacked.s2, lt_len his, if_true, at_lt hi, at_lt his, Option.bind_some, (item_ok vm vf hfit hi).2, unF, Int.toNat_natCast]
            by_cases hz : m.Elements[i] = 0
            · simp only [hz, if_true]; rw [wn (by omega)]
            · simp only [hz, if_false]
              by_cases hk : v.Elements.length ≤ s.1
              · have : (s.1 : Int) ≥ (v.Elements.length : Int) := by omega
                simp only [this, if_true, hk]
              · have hne : ¬ (s.1 : Int) ≥ (v.Elements.length : Int) := by omega
                have hlt : s.1 < v.Elements.length := by omega
                have a0 : at_ v.Elements (s.1 : Int) = some ((v.Elements[s.1]?).getD 0) := by
                  rw [at_lt hlt]; simp [hlt]
                simp only [hne, if_false, hk, a0, Option.bind_some]
                rw [wn (by omega), wn (by omega)]
          · intro s hI
            obtain ⟨i1, _⟩ := hI
            rw [← i1]
            simp only [ref15_Unpacked.s2, not_lt_len, if_false]
        by_cases hc2 : v.Bounds.length = 1
        · have hc2' : (v.Bounds.length : Int) = 1 := by omega
          simp only [hc2', not_true, if_false, hc2]
          by_cases hz : f.Bounds.length = 0
          · rw [if_neg (show ¬ (f.Bounds.length : Int) > 0 by omega)]
            have hfit : fitsA f m = true := by unfold fitsA; have : (f.Bounds.length == 0) = true := by rw [beq_iff_eq]; exact hz
                                               rw [this]; rfl
            simp only [hfit, Bool.true_eq_false, if_false]
            exact j hfit
          · rw [if_pos (show (f.Bounds.length : Int) > 0 by omega), refExtents_eq' (by omega), refExtents_eq' (by omega)]
            simp only [Option.bind_some]
            rw [ints_eq (by simp [exs]; omega) (by simp [exs]; omega)]
            simp only [Option.bind_some]
            have hz' : (f.Bounds.length == 0) = false := by rw [beq_eq_false_iff_ne]; exact hz
            have hff : fitsA f m = (exs f.Bounds == exs m.Bounds) := by unfold fitsA; rw [hz', Bool.false_or]
            cases hq : (exs f.Bounds == exs m.Bounds) with
            | false => rw [hq] at hff; simp [hff]
            | true =>
              rw [hq] at hff
              simp only [hff, not_true, if_false, Bool.true_eq_false]
              exact j hff
        · have : ¬ (v.Bounds.length : Int) = 1 := by omega
          simp [this, hc2]
      · simp [h1, h2, h3]
    · simp [h1, h2]
  · simp [h1]
theorem un_back (vec : List Int) (fld : api_Array) : ∀ (ms xs : List Int) (i k : Nat) (pre post rest : List Int), ms.length = xs.length → pre.length = i → post.length = ms.length → vec.drop k = kept ms xs ++ rest → (∀ j (h : j < xs.length), itemR fld (i + j) = xs[j]) →
    ∃ k', scanE (unF vec fld) i ms (k, pre ++ post) = .inr (k', pre ++ xs)
  | [], [], i, k, pre, post, rest, _, _, hp, _, _ => by
    have : post = [] := List.length_eq_zero_iff.1 (by simpa using hp)
    subst this
    exact ⟨k, rfl⟩
  | [], _ :: _, _, _, _, _, _, h, _, _, _, _ => by cases h
  | _ :: _, [], _, _, _, _, _, h, _, _, _, _ => by cases h
  | m :: ms, x :: xs, i, k, pre, [], rest, _, _, hp, _, _ => by cases hp
  | m :: ms, x :: xs, i, k, pre, p :: post, rest, hl, hpre, hp, hd, hi => by
    have h0 : itemR fld i = x := by
      have := hi 0 (by simp)
      simp only [Nat.add_zero, List.getElem_cons_zero] at this
      exact this
    have hset : ∀ y : Int, (pre ++ p :: post).set i y = (pre ++ [y]) ++ post := by
      intro y
      rw [List.set_append_right _ _ (by omega)]
      simp [hpre]
    have hi' : ∀ j (h : j < xs.length), itemR fld (i + 1 + j) = xs[j] := fun j hj => by
      have := hi (j + 1) (by simpa using hj)
      simp only [List.getElem_cons_succ] at this
      rw [← this]; congr 1; omega
    simp only [scanE, unF]
    by_cases hm : m = 0
    · simp only [hm, if_true, h0, hset]
      simp only [kept, hm, ne_eq, not_true, if_false] at hd
      obtain ⟨k', hk⟩ := un_back vec fld ms xs (i + 1) k (pre ++ [x]) post rest (by simpa using hl) (by simp [hpre]) (by simpa using hp) hd hi'
      exact ⟨k', by rw [hk]; simp⟩
    · simp only [kept, hm, ne_eq, not_false_eq_true, if_true, List.cons_append] at hd
      have hlt : k < vec.length := by
        have := congrArg List.length hd
        simp at this
        omega
      have hk0 : ¬ vec.length ≤ k := by omega
      have hx : (vec[k]?).getD 0 = x := by
        have := congrArg (fun l => l[0]?) hd
        simp at this
        rw [this]; rfl
      have hd' : vec.drop (k + 1) = kept ms xs ++ rest := by
        have := congrArg (fun l => l.drop 1) hd
        simpa [Nat.add_comm] using this
      simp only [hm, if_false, hk0, hx, hset]
      obtain ⟨k', hk⟩ := un_back vec fld ms xs (i + 1) (k + 1) (pre ++ [x]) post rest (by simpa using hl) (by simp [hpre]) (by simpa using hp) hd' hi'
      exact ⟨k', by rw [hk]; simp⟩
theorem item_self {a : api_Array} (va : Valid a) : ∀ j (h : j < a.Elements.length), itemR a j = a.Elements[j] := by
  intro j hj
  unfold itemR
  by_cases h0 : a.Bounds.length = 0
  · rw [if_pos h0]
    have e : a.Bounds = [] := List.length_eq_zero_iff.1 h0
    have hl := va.len
    rw [e] at hl
    simp [exs, P] at hl
    have : j = 0 := by omega
    subst this
    unfold elAt; simp [hj]
  · rw [if_neg h0]
    unfold elAt; simp [hj]
theorem vec_valid {l : List Int} (hl : l.length ≤ 80) (hi : ∀ x, x ∈ l → shapes_isInteger x = true) : Valid ⟨[⟨1, (l.length : Int)⟩], l⟩ := by
  have h : ∀ e, e ∈ [(l.length : Int)] → 0 ≤ e ∧ e ≤ 512 := by intro e he; simp at he; omega
  refine ⟨ofExt_bErr h (by simp) (by simp [P]; omega), ?_, hi⟩
  have := ofExt_exs h
  simp only
  rw [show [api_Bound.mk 1 (l.length : Int)] = ofExt [(l.length : Int)] from rfl, this]
  simp [P]
theorem packR_len {a b c : api_Array} (ha : a.Elements.length ≤ 80) (hc : c.Elements.length ≤ 80) : (packR a b c).1.Bounds.length ≤ 1 ∧ (packR a b c).1.Elements.length ≤ 160 := by
  have kl := kept_len (items b a.Elements.length) a.Elements
  unfold packR packL
  repeat' split
  all_goals first
    | (simp; done)
    | (simp; omega)
theorem un_len (vec : List Int) (fld : api_Array) : ∀ (ms : List Int) (i : Nat) (s s' : Nat × List Int), scanE (unF vec fld) i ms s = .inr s' → s'.2.length = s.2.length
  | [], i, s, s', h => by cases h; rfl
  | m :: ms, i, s, s', h => by
    simp only [scanE] at h
    cases hf : unF vec fld i s m with
    | inl e => rw [hf] at h; cases h
    | inr s2 =>
      rw [hf] at h
      have h1 := un_len vec fld ms _ _ _ h
      rw [h1]
      unfold unF at hf
      split at hf
      · cases hf; simp
      · split at hf
        · cases hf
        · cases hf; simp
theorem unpackR_len {v m f : api_Array} (hm : m.Bounds.length ≤ 9 ∧ m.Elements.length ≤ 80) : (unpackR v m f).1.Bounds.length ≤ 9 ∧ (unpackR v m f).1.Elements.length ≤ 80 := by
  unfold unpackR
  repeat' split
  all_goals first
    | (simp; done)
    | skip
  rename_i r hr
  have := un_len _ _ _ _ _ _ hr
  simp only at this ⊢
  omega
theorem ShapesPacks_true (a b c : api_Array) : law15_ShapesPacks a b c = some true := by
  unfold law15_ShapesPacks
  rw [awake_eq]
  simp only [Option.bind_some, not_true, if_false]
  by_cases hg : (((!(law15_few a)) || (!(law15_few b))) || (!(law15_few c))) = true
  · rw [if_pos hg]
  · rw [if_neg hg]
    simp at hg
    have fa := few_ok hg.1.1
    have fb := few_ok hg.1.2
    have fc := few_ok hg.2
    rw [refCopy_eq (a := a) (by omega) (by omega), refCopy_eq (a := b) (by omega) (by omega), refCopy_eq (a := c) (by omega) (by omega)]
    simp only [Option.bind_some]
    rw [pack_eq fa fb fc, unpack_eq fc fb fa, refPacked_eq fa fb fc, refUnpacked_eq fc fb fa]
    simp only [Option.bind_some]
    have p1 := packR_len (a := a) (b := b) (c := c) fa.2 fc.2
    have u1 := unpackR_len (v := c) (m := b) (f := a) fb
    rw [is_self (by omega) (by omega), is_self (by omega) (by omega)]
    simp only [Option.bind_some, not_true, if_false]
    by_cases hq : (((packR a b c).2 != 0) || ((b.Bounds.length : Int) != (a.Bounds.length : Int))) = true
    · rw [if_pos hq]
    · rw [if_neg hq]
      simp at hq
      obtain ⟨q1, q2⟩ := hq
      have q2 : b.Bounds.length = a.Bounds.length := by omega
      have h1 : (chk a).2 = 0 := by
        unfold packR at q1
        split at q1
        · rename_i h; exact absurd q1 h
        · rename_i h; exact Classical.not_not.1 h
      have h2 : (chk b).2 = 0 := by
        unfold packR at q1
        rw [if_neg (by simp [h1])] at q1
        split at q1
        · rename_i h; exact absurd q1 h
        · rename_i h; exact Classical.not_not.1 h
      have h3 : (chk c).2 = 0 := by
        unfold packR at q1
        rw [if_neg (by simp [h1]), if_neg (by simp [h2])] at q1
        split at q1
        · rename_i h; exact absurd q1 h
        · rename_i h; exact Classical.not_not.1 h
      have va := chk_valid h1
      have vb := chk_valid h2
      have vc := chk_valid h3
      have kl := kept_len (items b a.Elements.length) a.Elements
      have hfit : fitsA b a = true := by
        cases hf : fitsA b a with
        | true => rfl
        | false => unfold packR at q1; simp [h1, h2, h3, hf] at q1
      have hx : exs b.Bounds = exs a.Bounds := by
        unfold fitsA at hfit
        by_cases h0 : b.Bounds.length = 0
        · have e1 : b.Bounds = [] := List.length_eq_zero_iff.1 h0
          have e2 : a.Bounds = [] := List.length_eq_zero_iff.1 (by omega)
          rw [e1, e2]
        · have : (b.Bounds.length == 0) = false := by rw [beq_eq_false_iff_ne]; exact h0
          rw [this, Bool.false_or, beq_iff_eq] at hfit
          exact hfit
      have hlen : b.Elements.length = a.Elements.length := by
        have l1 := va.len
        have l2 := vb.len
        rw [hx] at l2
        omega
      have hp : ∃ rest, packR a b c = (⟨[⟨1, ((packL a b ++ rest).length : Int)⟩], packL a b ++ rest⟩, 0) ∧ (packL a b ++ rest).length ≤ 80 ∧ ∀ x, x ∈ packL a b ++ rest → shapes_isInteger x = true := by
        have hm : ∀ x, x ∈ packL a b → shapes_isInteger x = true := fun x hx => va.int x (kept_mem _ _ x hx)
        unfold packR at q1 ⊢
        simp only [h1, h2, h3, hfit, ne_eq, not_true, if_false, Bool.true_eq_false] at q1 ⊢
        by_cases c1 : c.Bounds.length > 1
        · simp [c1] at q1
        · simp only [c1, if_false] at q1 ⊢
          by_cases c2 : c.Bounds.length = 1
          · simp only [c2, if_true] at q1 ⊢
            by_cases c3 : (c.Elements.length : Int) < ((packL a b).length : Int)
            · simp [c3] at q1
            · simp only [c3, if_false] at q1 ⊢
              refine ⟨c.Elements.drop (packL a b).length, rfl, by simp; omega, ?_⟩
              intro x hx
              rcases List.mem_append.1 hx with h | h
              · exact hm x h
              · exact vc.int x (List.mem_of_mem_drop h)
          · simp only [c2, if_false] at q1 ⊢
            refine ⟨[], by simp, ?_, ?_⟩
            · simp only [List.append_nil]; unfold packL; omega
            · simpa using hm
      obtain ⟨rest, e1, e2, e3⟩ := hp
      rw [e1]
      simp only
      have vv := vec_valid e2 e3
      rw [unpack_eq (by simp only; exact ⟨by simp, e2⟩) fb fa]
      simp only [Option.bind_some]
      have hfit2 : fitsA a b = true := by
        unfold fitsA; simp [hx]
      have hits : items b a.Elements.length = b.Elements := by
        apply List.ext_getElem
        · simp [items, hlen]
        · intro j h1 h2
          simp only [items, List.getElem_map, List.getElem_range]
          exact item_self vb j h2
      obtain ⟨k', hk⟩ := un_back (packL a b ++ rest) a b.Elements a.Elements 0 0 [] b.Elements rest hlen rfl rfl (by simp only [List.drop_zero, packL, hits]) (fun j hj => by rw [Nat.zero_add]; exact item_self va j hj)
      simp only [List.nil_append] at hk
      have hR : unpackR ⟨[⟨1, ((packL a b ++ rest).length : Int)⟩], packL a b ++ rest⟩ b a = (⟨b.Bounds, a.Elements⟩, 0) := by
        unfold unpackR unpackS
        simp only [valid_chk vv, h2, h1, ne_eq, not_true, if_false, List.length_cons, List.length_nil, hfit2, Bool.true_eq_false, hk]
      rw [hR]
      simp only [if_true]
      rw [ints_eq (by omega) (by omega)]
      simp
end Go.Sh
