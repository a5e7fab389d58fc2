/- What the functions compute answers as the statement says. -/
import Derived.Test.YtoelcmbacfhdnaaShapesReducesSh
set_option linter.all false
namespace Go.Sh
open Go.Lx
set_option linter.unusedVariables false
set_option linter.unusedSimpArgs false
theorem awake_eq : law15_awake = some true := by decide +kernel
theorem lt_len {i n : Nat} (h : i < n) : ((i : Int) < (n : Int)) = True := eq_true (by omega)
theorem not_lt_len (n : Nat) : ((n : Int) < (n : Int)) = False := eq_false (by omega)
theorem copyBounds_eq {p : List api_Bound} (h : p.length ≤ 16777216) : ref15_CopyBounds p = some p := by
  unfold ref15_CopyBounds; rw [app_nil h]; rfl
theorem copyInts_eq {p : List Int} (h : p.length ≤ 16777216) : base_CopyInts p = some p := by
  unfold base_CopyInts; rw [mkSl_len h]; simp [copied_all]
theorem extents_eq {p : List api_Bound} (h : p.length < 16777216) : shapes_extents p = some (p.map shapes_extent) := by
  unfold shapes_extents
  rw [loop_map p shapes_extent (fun i b => (i, b)) (fun b => b) rfl ?_ ?_ (by omega)]
  · rfl
  · intro i hi b hb
    simp only [shapes_extents.s1, lt_len hi, if_true, at_lt hi, Option.bind_some]
    rw [app_one (by omega), wn (by omega)]; rfl
  · intro b; simp only [shapes_extents.s1, not_lt_len, if_false]
theorem refExtents_eq {p : List api_Bound} (h : p.length < 16777216) : ref15_Extents p = some (p.map shapes_extent) := by
  unfold ref15_Extents
  rw [loop_map p shapes_extent (fun i b => (i, b)) (fun b => b) rfl ?_ ?_ (by omega)]
  · rfl
  · intro i hi b hb
    simp only [ref15_Extents.s1, lt_len hi, if_true, at_lt hi, Option.bind_some]
    rw [app_one (by omega), wn (by omega)]; rfl
  · intro b; simp only [ref15_Extents.s1, not_lt_len, if_false]
theorem index_any (p : List Int) (v : Int) (h : p.length < 16777216) : ∃ k : Nat, slices_Index_int p v = some (if p.any (fun x => v == x) = true then (k : Int) else -1) := by
  unfold slices_Index_int
  obtain ⟨k, hk⟩ := loop_any (step := slices_Index_int.s1 p v) p (fun x => v == x) (fun i => Sum.inr i) (Sum.inl ()) (s := 0) rfl (fun i hi => by
    simp only [slices_Index_int.s1, lt_len hi, if_true, at_lt hi, Option.bind_some]
    by_cases e : v = p[i]
    · simp [e]
    · simp only [e, if_false, beq_iff_eq]; rw [wn (by omega)]) (by simp only [slices_Index_int.s1, not_lt_len, if_false]) (by omega)
  refine ⟨k, ?_⟩
  rw [hk]
  by_cases e : p.any (fun x => v == x) = true
  · rw [if_pos e, if_pos e]; rfl
  · rw [if_neg e, if_neg e]; rfl
theorem contains_eq {p : List Int} {v : Int} (h : p.length < 16777216) : slices_Contains_int p v = some (p.any (fun x => v == x)) := by
  unfold slices_Contains_int
  obtain ⟨k, hk⟩ := index_any p v h
  rw [hk]
  by_cases e : p.any (fun x => v == x) = true
  · rw [if_pos e, e]; simp
  · rw [if_neg e, eq_false_of_ne_true e]; rfl
def capP (xs : List Int) : Int := xs.foldl (fun a x => mn (w (a * mn x 513)) 513) 1
def prodE (xs : List Int) : Int := if xs.any (fun x => 0 == x) = true then 0 else capP xs
theorem product_eq {p : List Int} (h : p.length < 16777216) : shapes_product p = some (prodE p) := by
  unfold shapes_product
  rw [loop_fold (step := shapes_product.s1 p) p (fun i b => (b, i)) (fun b => b) (fun a x => mn (w (a * mn x 513)) 513) (fun _ _ => True) (a := 1) rfl ?_ ?_ trivial (by omega)]
  · simp only [Option.bind_some, contains_eq h]
    unfold prodE capP
    split <;> rfl
  · intro i hi b _
    refine ⟨?_, trivial⟩
    simp only [shapes_product.s1, lt_len hi, if_true, at_lt hi, Option.bind_some]
    rw [wn (by omega)]
  · intro b _; simp only [shapes_product.s1, not_lt_len, if_false]
theorem scan_prod : ∀ (xs : List Int) (i : Nat) (a : Int), scanE (ρ := Unit) (fun _ (b : Int) x => if x = 0 then .inl () else .inr (mn (w (b * mn x 513)) 513)) i xs a = (if xs.any (fun x => 0 == x) = true then .inl () else .inr (xs.foldl (fun a x => mn (w (a * mn x 513)) 513) a))
  | [], i, a => rfl
  | x :: xs, i, a => by
    simp only [scanE, List.any_cons, List.foldl_cons]
    by_cases e : x = 0
    · subst e; simp
    · have e' : (0 == x) = false := by simp; exact fun q => e q.symm
      simp only [e, if_false, e', Bool.false_or]
      exact scan_prod xs (i + 1) _
theorem refProduct_eq {p : List Int} (h : p.length < 16777216) : ref15_Product p = some (prodE p) := by
  unfold ref15_Product
  rw [loop_scan (step := ref15_Product.s1 p) p (fun i b => (b, i)) (fun (_ : Unit) => Sum.inr 0) (fun b => Sum.inl b) (fun _ (b : Int) x => if x = 0 then .inl () else .inr (mn (w (b * mn x 513)) 513)) (fun _ _ => True) (a := 1) rfl ?_ ?_ trivial (by omega)]
  · rw [scan_prod]
    unfold prodE capP
    by_cases e : p.any (fun x => 0 == x) = true
    · simp only [e, if_true]; rfl
    · simp only [e, if_false]; rfl
  · intro i hi b _
    refine ⟨?_, fun _ _ => trivial⟩
    simp only [ref15_Product.s1, lt_len hi, if_true, at_lt hi, Option.bind_some]
    by_cases e : p[i] = 0
    · simp only [e, if_true]
    · simp only [e, if_false]; rw [wn (by omega)]
  · intro b _; simp only [ref15_Product.s1, not_lt_len, if_false]
def num (b : api_Bound) : Bool := shapes_isNumber b.Low && shapes_isNumber b.High
def bErr (p : List api_Bound) : Int := if (p.length : Int) > 7 then 32 else if p.any (fun b => !num b) = true then 2 else if p.any (fun b => decide (shapes_extent b > 512)) = true then 8 else if prodE (p.map shapes_extent) > 512 then 8 else 0
theorem within_eq (a b c : Int) : base_Within a b c = shapes_inside a b c := by
  unfold base_Within shapes_inside
  simp only [Bool.not_or, ← decide_not]
  congr 1 <;> exact decide_eq_decide.2 (by omega)
theorem findSome_const {α ρ : Type} {p : α → Bool} {c : ρ} : ∀ xs : List α, xs.findSome? (fun x => if p x = true then some c else none) = if xs.any p = true then some c else none
  | [] => rfl
  | x :: xs => by
    simp only [List.findSome?_cons, List.any_cons]
    by_cases e : p x = true
    · simp [e]
    · simp only [e, if_false, Bool.false_or]; exact findSome_const xs
theorem broken1 (b : Bool) (c : Int) : shapes_broken [shapes_rule.mk b c] = some (if b = true then 0 else c) := by
  unfold shapes_broken
  rw [loop_find (step := shapes_broken.s1 [shapes_rule.mk b c]) [shapes_rule.mk b c] (fun r => if r.holds = true then none else some r.code) (fun c => Sum.inr c) (Sum.inl ()) rfl ?_ ?_ (by simp)]
  · cases b <;> rfl
  · intro i hi
    simp only [shapes_broken.s1, lt_len hi, if_true, at_lt hi, Option.bind_some]
    have : i = 0 := by simpa using hi
    subst this
    cases b <;> simp [w, IntKind.wrap] <;> rfl
  · rfl
theorem cmpOr2 (a b : Int) : cmp_Or_api_Errno [a, b] = some (if a = 0 then b else a) := by
  unfold cmp_Or_api_Errno
  rw [loop_find (step := cmp_Or_api_Errno.s1 [a, b]) [a, b] (fun x => if x = 0 then none else some x) (fun c => Sum.inr c) (Sum.inl ()) rfl ?_ ?_ (by simp)]
  · by_cases h1 : a = 0
    · by_cases h2 : b = 0
      · simp [h1, h2]
      · simp [h1, h2]
    · simp [h1]
  · intro i hi
    simp only [cmp_Or_api_Errno.s1, lt_len hi, if_true, at_lt hi, Option.bind_some]
    by_cases e : [a, b][i] = 0
    · simp only [e, not_true, if_false, if_true]; rw [wn (by simp at hi; omega)]
    · simp only [e, not_false_eq_true, if_true, if_false]
  · simp only [cmp_Or_api_Errno.s1, not_lt_len, if_false]
theorem index1_eq (p : List api_Bound) (h : p.length < 16777216) : slices_ContainsFunc_api_Bound__shapes_boundsErr_c1 p = some (p.any (fun b => !num b)) := by
  unfold slices_ContainsFunc_api_Bound__shapes_boundsErr_c1 slices_IndexFunc_api_Bound__shapes_boundsErr_c1
  obtain ⟨k, hk⟩ := loop_any (step := slices_IndexFunc_api_Bound__shapes_boundsErr_c1.s1 p) p (fun b => !num b) (fun i => Sum.inr i) (Sum.inl ()) (s := 0) rfl (fun i hi => by
    simp only [slices_IndexFunc_api_Bound__shapes_boundsErr_c1.s1, lt_len hi, if_true, at_lt hi, Option.bind_some]
    have : shapes_boundsErr_c1 p[i] = !num p[i] := by unfold shapes_boundsErr_c1 num; simp
    rw [this, wn (by omega)]; split <;> rfl) (by simp only [slices_IndexFunc_api_Bound__shapes_boundsErr_c1.s1, not_lt_len, if_false]) (by omega)
  rw [hk]
  by_cases e : p.any (fun b => !num b) = true
  · rw [if_pos e, e]; simp
  · rw [if_neg e, eq_false_of_ne_true e]; rfl
theorem index2_eq (p : List api_Bound) (h : p.length < 16777216) : slices_ContainsFunc_api_Bound__shapes_boundsErr_c2 p = some (p.any (fun b => decide (shapes_extent b > 512))) := by
  unfold slices_ContainsFunc_api_Bound__shapes_boundsErr_c2 slices_IndexFunc_api_Bound__shapes_boundsErr_c2
  obtain ⟨k, hk⟩ := loop_any (step := slices_IndexFunc_api_Bound__shapes_boundsErr_c2.s1 p) p (fun b => decide (shapes_extent b > 512)) (fun i => Sum.inr i) (Sum.inl ()) (s := 0) rfl (fun i hi => by
    simp only [slices_IndexFunc_api_Bound__shapes_boundsErr_c2.s1, lt_len hi, if_true, at_lt hi, Option.bind_some]
    unfold shapes_boundsErr_c2
    rw [wn (by omega)]; split <;> rfl) (by simp only [slices_IndexFunc_api_Bound__shapes_boundsErr_c2.s1, not_lt_len, if_false]) (by omega)
  rw [hk]
  by_cases e : p.any (fun b => decide (shapes_extent b > 512)) = true
  · rw [if_pos e, e]; simp
  · rw [if_neg e, eq_false_of_ne_true e]; rfl
theorem size_eq {p : List api_Bound} (h : p.length < 16777216) : shapes_size p = some (prodE (p.map shapes_extent)) := by
  unfold shapes_size
  rw [extents_eq h]; simp only [Option.bind_some]
  rw [product_eq (by simpa using h)]; rfl
theorem boundsErr_eq (p : List api_Bound) : shapes_boundsErr p = some (bErr p) := by
  unfold shapes_boundsErr bErr
  by_cases h7 : (p.length : Int) > 7
  · simp only [h7, if_true]
  · have h : p.length < 16777216 := by omega
    simp only [h7, if_false, index1_eq p h, index2_eq p h, size_eq h, broken1, Option.bind_some]
    by_cases e1 : p.any (fun b => !num b) = true
    · simp only [e1, if_true]
    · simp only [e1, if_false]
      by_cases e2 : p.any (fun b => decide (shapes_extent b > 512)) = true
      · simp [e2]
      · simp only [e2, if_false]
        by_cases e3 : prodE (p.map shapes_extent) > 512
        · have : ¬ prodE (p.map shapes_extent) ≤ 512 := by omega
          simp [e3, this]
        · have : prodE (p.map shapes_extent) ≤ 512 := by omega
          simp [e3, this]
theorem refBoundsErr_eq (p : List api_Bound) : ref15_BoundsErr p = some (bErr p) := by
  unfold ref15_BoundsErr bErr
  by_cases h7 : (p.length : Int) > 7
  · simp only [h7, if_true]
  · have h : p.length < 16777216 := by omega
    simp only [h7, if_false, refExtents_eq h, Option.bind_some]
    rw [loop_find (step := ref15_BoundsErr.s1 p) p (fun b => if (!num b) = true then some (2 : Int) else none) (fun c => Sum.inr c) (Sum.inl ()) rfl ?_ ?_ (by omega), findSome_const]
    · by_cases e1 : p.any (fun b => !num b) = true
      · simp only [e1, if_true, Option.bind_some]
      · simp only [e1, if_false, Option.bind_some]
        rw [loop_find (step := ref15_BoundsErr.s2 (p.map shapes_extent)) (p.map shapes_extent) (fun x => if (decide (x > 512)) = true then some (8 : Int) else none) (fun c => Sum.inr c) (Sum.inl ()) rfl ?_ ?_ (by simp; omega), findSome_const, List.any_map]
        · by_cases e2 : p.any (fun b => decide (shapes_extent b > 512)) = true
          · have e2' : p.any ((fun x => decide (x > 512)) ∘ shapes_extent) = true := e2
            simp only [e2, e2', if_true, Option.bind_some, Bool.false_eq_true, if_false]
          · have e2' : ¬ p.any ((fun x => decide (x > 512)) ∘ shapes_extent) = true := e2
            simp only [e2, e2', if_false, Option.bind_some, Bool.false_eq_true]
            rw [refProduct_eq (by simpa using h)]
            simp only [Option.bind_some]
            split <;> rfl
        · intro i hi
          simp only [ref15_BoundsErr.s2, lt_len hi, if_true, at_lt hi, Option.bind_some]
          by_cases e : (p.map shapes_extent)[i] > 512
          · simp only [e, if_true, decide_true]
          · simp only [e, if_false, decide_false, Bool.false_eq_true]; rw [wn (by simp at hi; omega)]
        · simp only [ref15_BoundsErr.s2, not_lt_len, if_false]
    · intro i hi
      simp only [ref15_BoundsErr.s1, lt_len hi, if_true, at_lt hi, Option.bind_some, ref15_isBound, within_eq, num, shapes_isNumber]
      rw [wn (by omega)]
      by_cases e1 : shapes_inside p[i].Low (-2147483647) 2147483647 = true
      · by_cases e2 : shapes_inside p[i].High (-2147483647) 2147483647 = true
        · simp [e1, e2]
        · simp [e1, e2]
      · simp [e1]
    · simp only [ref15_BoundsErr.s1, not_lt_len, if_false]
end Go.Sh
namespace Go.Sh
open Go.Lx
set_option linter.unusedVariables false
set_option linter.unusedSimpArgs false
theorem before_eq : ∀ (n : Nat) (a b : List Int), a.length < n → n ≤ 16777217 → b.length < 16777216 → ∃ r, base_Before.N n a b = some r ∧ (r = true → a ≠ b)
  | 0, a, b, h, _, _ => absurd h (Nat.not_lt_zero _)
  | n + 1, a, b, h, hn, hb => by
    show ∃ r, base_Before.F (base_Before.N n) a b = some r ∧ _
    unfold base_Before.F
    match a, b with
    | [], b => exact ⟨_, rfl, fun h => by simp at h; intro q; subst q; simp at h⟩
    | x :: a, [] => exact ⟨_, rfl, fun h => by simp at h; omega⟩
    | x :: a, y :: b =>
      have e0 : ¬ ((((x :: a).length : Int) == 0) || (((y :: b).length : Int) == 0)) = true := by simp; omega
      have c1 : cut (x :: a) 1 ((x :: a).length : Int) = some a := by unfold cut; rw [if_pos (by simp; omega)]; simp
      have c2 : cut (y :: b) 1 ((y :: b).length : Int) = some b := by unfold cut; rw [if_pos (by simp; omega)]; simp
      have a1 : at_ (x :: a) 0 = some x := rfl
      have a2 : at_ (y :: b) 0 = some y := rfl
      rw [if_neg e0]
      simp only [a1, a2, Option.bind_some]
      by_cases h1 : x < y
      · exact ⟨true, by simp [h1], fun _ q => by simp at q; omega⟩
      · by_cases h2 : x = y
        · obtain ⟨r, h3, h4⟩ := before_eq n a b (by simp at h; omega) (by omega) (by simp at hb; omega)
          refine ⟨r, ?_, fun hr q => h4 hr (by simp at q; exact q.2)⟩
          subst h2
          rw [if_neg h1, if_pos rfl, c1, c2]
          simp only [Option.bind_some, h3]
        · exact ⟨false, by simp [h1, h2], fun q => by cases q⟩
theorem before_tri : ∀ (n m : Nat) (a b : List Int), base_Before.N n a b = some false → base_Before.N m b a = some false → a.length = b.length → a = b
  | 0, m, a, b, h, _, _ => by cases h
  | n + 1, 0, a, b, _, h, _ => by cases h
  | n + 1, m + 1, a, b, h, k, hl => by
    change base_Before.F (base_Before.N n) a b = some false at h
    change base_Before.F (base_Before.N m) b a = some false at k
    unfold base_Before.F at h k
    match a, b, hl with
    | [], [], _ => rfl
    | x :: a, y :: b, hl =>
      have e0 : ¬ ((((x :: a).length : Int) == 0) || (((y :: b).length : Int) == 0)) = true := by simp; omega
      have e1 : ¬ ((((y :: b).length : Int) == 0) || (((x :: a).length : Int) == 0)) = true := by simp; omega
      have c1 : cut (x :: a) 1 ((x :: a).length : Int) = some a := by unfold cut; rw [if_pos (by simp; omega)]; simp
      have c2 : cut (y :: b) 1 ((y :: b).length : Int) = some b := by unfold cut; rw [if_pos (by simp; omega)]; simp
      have a1 : at_ (x :: a) 0 = some x := rfl
      have a2 : at_ (y :: b) 0 = some y := rfl
      rw [if_neg e0] at h
      rw [if_neg e1] at k
      simp only [a1, a2, Option.bind_some, c1, c2] at h k
      by_cases h1 : x < y
      · simp [h1] at h
      · by_cases h2 : y < x
        · simp [h2] at k
        · have h3 : x = y := by omega
          subst h3
          simp only [h1, if_false, if_true] at h k
          obtain ⟨r, hr, h⟩ := Option.bind_eq_some_iff.1 h
          obtain ⟨r', hr', k⟩ := Option.bind_eq_some_iff.1 k
          cases h
          cases k
          rw [before_tri n m a b hr hr' (by simpa using hl)]
theorem ints_eq {a b : List Int} (ha : a.length < 16777216) (hb : b.length < 16777216) : base_Ints a b = some (a == b) := by
  unfold base_Ints
  have hF : (16777217 : Nat) ≤ FUEL := by unfold FUEL; omega
  have step : ∀ (n : Nat) (a b : List Int) (r : Bool), base_Before.N n a b = some r → base_Before.N (n + 1) a b = some r := by
    intro n
    induction n with
    | zero => intro a b r h; cases h
    | succ n ih =>
      intro a b r h
      change base_Before.F (base_Before.N n) a b = some r at h
      show base_Before.F (base_Before.N (n + 1)) a b = some r
      unfold base_Before.F at h ⊢
      split
      · rename_i hc; rw [if_pos hc] at h; exact h
      · rename_i hc
        rw [if_neg hc] at h
        obtain ⟨x4, h4, h⟩ := Option.bind_eq_some_iff.1 h
        obtain ⟨x5, h5, h⟩ := Option.bind_eq_some_iff.1 h
        rw [h4, h5]
        simp only [Option.bind_some]
        split
        · rename_i hd; rw [if_pos hd] at h; exact h
        · rename_i hd
          rw [if_neg hd] at h
          rw [h4, h5] at h
          simp only [Option.bind_some] at h ⊢
          split
          · rename_i he
            rw [if_pos he] at h
            obtain ⟨x6, h6, h⟩ := Option.bind_eq_some_iff.1 h
            obtain ⟨x7, h7, h⟩ := Option.bind_eq_some_iff.1 h
            obtain ⟨x8, h8, h⟩ := Option.bind_eq_some_iff.1 h
            rw [h6, h7]
            simp only [Option.bind_some]
            rw [ih _ _ _ h8]
            exact h
          · rename_i he; rw [if_neg he] at h; exact h
  have up : ∀ (n m : Nat) (a b : List Int) (r : Bool), n ≤ m → base_Before.N n a b = some r → base_Before.N m a b = some r := by
    intro n m a b r hnm h
    induction hnm with
    | refl => exact h
    | step _ ih => exact step _ _ _ _ ih
  have get : ∀ a b : List Int, a.length < 16777216 → b.length < 16777216 → ∃ r, base_Before a b = some r ∧ (r = true → a ≠ b) := by
    intro a b ha hb
    obtain ⟨r, h1, h2⟩ := before_eq 16777217 a b (by omega) (Nat.le_refl _) hb
    exact ⟨r, up _ _ _ _ _ hF h1, h2⟩
  by_cases hl : (a.length : Int) = (b.length : Int)
  · rw [if_pos hl]
    obtain ⟨r, h1, h2⟩ := get a b ha hb
    obtain ⟨r', h3, h4⟩ := get b a hb ha
    rw [h1, h3]
    simp only [Option.bind_some]
    cases r with
    | true => simp; exact h2 rfl
    | false =>
      cases r' with
      | true => simp; exact fun q => h4 rfl q.symm
      | false => simp; exact before_tri _ _ _ _ h1 h3 (by omega)
  · rw [if_neg hl]
    have : a ≠ b := fun q => hl (by rw [q])
    simp [this]
end Go.Sh
namespace Go.Sh
open Go.Lx
set_option linter.unusedVariables false
set_option linter.unusedSimpArgs false
def P : List Int → Int
  | [] => 1
  | x :: xs => x * P xs
def H : List Int → List Int → Int
  | e :: es, d :: ds => d + e * H es ds
  | _, _ => 0
def dig : List Int → Int → List Int
  | [], _ => []
  | e :: es, n => n % e :: dig es (n / e)
def inBase : List Int → List Int → Prop
  | e :: es, d :: ds => 0 ≤ d ∧ d < e ∧ inBase es ds
  | [], [] => True
  | _, _ => False
theorem P_pos : ∀ {es : List Int}, (∀ e, e ∈ es → 1 ≤ e) → 1 ≤ P es
  | [], _ => Int.le_refl 1
  | e :: es, h => by
    have h1 := h e (.head _)
    have h2 := P_pos (es := es) fun x hx => h x (.tail _ hx)
    have := Int.mul_le_mul h1 h2 (by omega) (by omega)
    simpa [P] using this
theorem P_tail {e : Int} {es : List Int} (h : ∀ x, x ∈ e :: es → 1 ≤ x) : P es ≤ P (e :: es) := by
  have h1 := h e (.head _)
  have h2 := P_pos (es := es) fun x hx => h x (.tail _ hx)
  have := Int.mul_le_mul h1 (Int.le_refl (P es)) (by omega) (by omega)
  simpa [P] using this
theorem inBase_pos : ∀ {es ds : List Int}, inBase es ds → ∀ e, e ∈ es → 1 ≤ e
  | [], _, _, e, h => by cases h
  | e :: es, [], h, _, _ => by cases h
  | e :: es, d :: ds, ⟨h1, h2, h3⟩, x, hx => by
    cases hx with
    | head => omega
    | tail _ hx => exact inBase_pos h3 x hx
theorem H_range : ∀ {es ds : List Int}, inBase es ds → 0 ≤ H es ds ∧ H es ds < P es
  | [], [], _ => by simp [H, P]
  | [], _ :: _, h => by cases h
  | e :: es, [], h => by cases h
  | e :: es, d :: ds, ⟨h1, h2, h3⟩ => by
    obtain ⟨i1, i2⟩ := H_range h3
    have a1 : 0 ≤ e * H es ds := Int.mul_nonneg (by omega) i1
    have a2 : e * H es ds ≤ e * (P es - 1) := Int.mul_le_mul_of_nonneg_left (by omega) (by omega)
    rw [Int.mul_sub, Int.mul_one] at a2
    simp only [H, P]
    omega
theorem dig_ok : ∀ {es : List Int} {n : Int}, (∀ e, e ∈ es → 1 ≤ e) → 0 ≤ n → n < P es → inBase es (dig es n) ∧ H es (dig es n) = n
  | [], n, _, h1, h2 => by simp [P] at h2; simp [inBase, dig, H]; omega
  | e :: es, n, h, h1, h2 => by
    have he := h e (.head _)
    have g1 : 0 ≤ n / e := Int.ediv_nonneg h1 (by omega)
    have g2 : n / e < P es := Int.ediv_lt_of_lt_mul (by omega) (by simp only [P] at h2; rw [Int.mul_comm]; exact h2)
    obtain ⟨i1, i2⟩ := dig_ok (es := es) (fun x hx => h x (.tail _ hx)) g1 g2
    refine ⟨⟨Int.emod_nonneg _ (by omega), Int.emod_lt_of_pos _ (by omega), i1⟩, ?_⟩
    simp only [dig, H, i2]
    exact Int.emod_add_mul_ediv n e
theorem dig_len : ∀ (es : List Int) (n : Int), (dig es n).length = es.length
  | [], n => rfl
  | e :: es, n => by simp [dig, dig_len es]
theorem P_zero : ∀ {es : List Int}, (∃ e, e ∈ es ∧ e = 0) → P es = 0
  | [], h => by obtain ⟨e, h, _⟩ := h; cases h
  | e :: es, h => by
    obtain ⟨x, hx, rfl⟩ := h
    cases hx with
    | head => simp [P]
    | tail _ hx => rw [P, P_zero ⟨0, hx, rfl⟩]; simp
theorem min_mul {a b m : Int} (ha : 1 ≤ a) (hb : 1 ≤ b) (hm : 0 ≤ m) : min (min a m * b) m = min (a * b) m := by
  rcases Int.le_total a m with h | h
  · rw [Int.min_eq_left h]
  · rw [Int.min_eq_right h]
    have h1 : m * 1 ≤ m * b := Int.mul_le_mul_of_nonneg_left hb hm
    have h2 : m * b ≤ a * b := Int.mul_le_mul_of_nonneg_right h (by omega)
    omega
theorem capP_eq : ∀ {xs : List Int} {a : Int}, (∀ x, x ∈ xs → 1 ≤ x ∧ x ≤ 512) → 1 ≤ a → a ≤ 513 → xs.foldl (fun a x => mn (w (a * mn x 513)) 513) a = min (a * P xs) 513
  | [], a, _, h1, h2 => by simp [P]; omega
  | x :: xs, a, h, h1, h2 => by
    obtain ⟨g1, g2⟩ := h x (.head _)
    have m1 : mn x 513 = x := by unfold mn; rw [if_neg (by omega)]
    have b1 : 1 * 1 ≤ a * x := Int.mul_le_mul h1 g1 (by omega) (by omega)
    have b2 : a * x ≤ 513 * 512 := Int.mul_le_mul h2 g2 (by omega) (by omega)
    have m2 : mn (w (a * x)) 513 = min (a * x) 513 := by
      rw [w_id (by omega) (by omega)]; unfold mn; split <;> omega
    rw [List.foldl_cons, m1, m2, capP_eq (fun y hy => h y (.tail _ hy)) (by omega) (by omega)]
    have hp := P_pos (es := xs) fun y hy => (h y (.tail _ hy)).1
    rw [min_mul (by omega) hp (by omega), P, Int.mul_assoc]
structure Ok (p : List api_Bound) : Prop where
  len : p.length ≤ 7
  num : ∀ b, b ∈ p → num b = true
  big : ∀ b, b ∈ p → shapes_extent b ≤ 512
  pos : ∀ b, b ∈ p → 0 ≤ shapes_extent b
  sz : prodE (p.map shapes_extent) ≤ 512
theorem ext_nonneg (b : api_Bound) : 0 ≤ shapes_extent b := by unfold shapes_extent mx; split <;> omega
theorem bErr_ok {p : List api_Bound} (h : bErr p = 0) : Ok p := by
  unfold bErr at h
  split at h
  · cases h
  split at h
  · cases h
  split at h
  · cases h
  split at h
  · cases h
  rename_i h1 h2 h3 h4
  refine ⟨by omega, fun b hb => ?_, fun b hb => ?_, fun b _ => ext_nonneg b, by omega⟩
  · simp only [List.any_eq_true, not_exists, not_and, Bool.not_eq_true', Bool.not_eq_false] at h2
    exact h2 b hb
  · simp only [List.any_eq_true, not_exists, not_and, decide_eq_true_eq] at h3
    have := h3 b hb
    omega
theorem prodE_P {xs : List Int} (h : ∀ x, x ∈ xs → 0 ≤ x ∧ x ≤ 512) (hs : prodE xs ≤ 512) : prodE xs = P xs ∧ 0 ≤ P xs := by
  unfold prodE at hs ⊢
  by_cases h0 : xs.any (fun x => 0 == x) = true
  · rw [if_pos h0]
    have : P xs = 0 := P_zero (by
      simp only [List.any_eq_true, beq_iff_eq] at h0
      obtain ⟨x, h1, h2⟩ := h0
      exact ⟨x, h1, h2.symm⟩)
    omega
  · rw [if_neg h0] at hs ⊢
    have hx : ∀ x, x ∈ xs → 1 ≤ x ∧ x ≤ 512 := fun x hx => by
      obtain ⟨h1, h2⟩ := h x hx
      simp only [List.any_eq_true, not_exists, not_and, beq_iff_eq] at h0
      have := h0 x hx
      omega
    have := capP_eq (a := 1) hx (by omega) (by omega)
    unfold capP at hs ⊢
    have hp := P_pos fun x hq => (hx x hq).1
    omega
theorem Ok.size {p : List api_Bound} (h : Ok p) : prodE (p.map shapes_extent) = P (p.map shapes_extent) ∧ 0 ≤ P (p.map shapes_extent) ∧ P (p.map shapes_extent) ≤ 512 := by
  have := prodE_P (xs := p.map shapes_extent) (fun x hx => by
    obtain ⟨b, hb, rfl⟩ := List.mem_map.1 hx
    exact ⟨h.pos b hb, h.big b hb⟩) h.sz
  have hs := h.sz
  omega
def exs (bs : List api_Bound) : List Int := bs.map shapes_extent
def str : Int → List Int → List Int
  | _, [] => []
  | s, e :: es => s :: str (w (s * e)) es
theorem str_len : ∀ (es : List Int) (s : Int), (str s es).length = es.length
  | [], s => rfl
  | e :: es, s => by simp [str, str_len es]
theorem str_fold : ∀ (es : List Int) (s : Int) (acc : List Int), (es.foldl (fun (b : Int × List Int) e => (w (b.1 * e), b.2 ++ [b.1])) (s, acc)).2 = acc ++ str s es
  | [], s, acc => by simp [str]
  | e :: es, s, acc => by rw [List.foldl_cons, str_fold es]; simp [str]
theorem strides_eq {p : List Int} (h : p.length < 16777216) : shapes_strides p = some (str 1 p) := by
  unfold shapes_strides
  rw [loop_fold (step := shapes_strides.s1 p) p (fun i (b : Int × List Int) => (b.1, i, b.2)) (fun b => b.2) (fun b e => (w (b.1 * e), b.2 ++ [b.1])) (fun i b => b.2.length = i) (a := (1, [])) rfl ?_ ?_ rfl (by omega)]
  · simp only [Option.bind_some]; rw [str_fold]; rfl
  · intro i hi b hb
    refine ⟨?_, by simp [hb]⟩
    simp only [shapes_strides.s1, lt_len hi, if_true, at_lt hi, Option.bind_some]
    rw [app_one (by omega), wn (by omega)]; rfl
  · intro b _; simp only [shapes_strides.s1, not_lt_len, if_false]
end Go.Sh
namespace Go.Sh
open Go.Lx
set_option linter.unusedVariables false
set_option linter.unusedSimpArgs false
theorem extents_eq' {p : List api_Bound} (h : p.length < 16777216) : shapes_extents p = some (exs p) := extents_eq h
theorem refExtents_eq' {p : List api_Bound} (h : p.length < 16777216) : ref15_Extents p = some (exs p) := refExtents_eq h
theorem foldr_place : ∀ {es ds : List Int}, inBase es ds → P es ≤ 512 → (∀ e, e ∈ es → e ≤ 512) → (es.zip ds).foldr (fun (t : Int × Int) b => w (w (b * t.1) + t.2)) 0 = H es ds
  | [], [], _, _, _ => rfl
  | [], _ :: _, h, _, _ => by cases h
  | _ :: _, [], h, _, _ => by cases h
  | e :: es, d :: ds, h, hp, hb => by
    have hpos := inBase_pos h
    have ht := P_tail hpos
    have hr := H_range h
    obtain ⟨h1, h2, h3⟩ := h
    have hq := H_range h3
    rw [List.zip_cons_cons, List.foldr_cons, foldr_place h3 (by omega) (fun x hx => hb x (.tail _ hx))]
    simp only [H] at hr ⊢
    rw [Int.mul_comm e] at hr
    have e0 : 0 ≤ H es ds * e := Int.mul_nonneg hq.1 (by omega)
    have e1 : w (H es ds * e) = H es ds * e := w_id (by omega) (by omega)
    rw [e1, w_id (by omega) (by omega), Int.mul_comm e]
    omega
theorem refPlace_eq {es ds : List Int} (h : inBase es ds) (hp : P es ≤ 512) (hb : ∀ e, e ∈ es → e ≤ 512) (hl : es.length = ds.length) (hn : es.length < 16777216) : ref15_Place es ds = some (H es ds) := by
  unfold ref15_Place
  have hlen : (es.zip ds).reverse.length = es.length := by simp; omega
  rw [loop_fold (step := ref15_Place.s1 es ds) (es.zip ds).reverse (fun i (b : Int) => (b, (es.length : Int) - 1 - i)) (fun b => b) (fun b (t : Int × Int) => w (w (b * t.1) + t.2)) (fun _ _ => True) (a := 0) (by rw [w_id (by omega) (by omega)]; simp) ?_ ?_ trivial (by omega)]
  · rw [List.foldl_reverse, foldr_place h hp hb]; rfl
  · intro i hi b _
    refine ⟨?_, trivial⟩
    rw [hlen] at hi
    have c : ((es.length : Int) - 1 - (i : Int)) = ((es.length - 1 - i : Nat) : Int) := by omega
    have k : es.length - 1 - i < es.length := by omega
    have k2 : es.length - 1 - i < ds.length := by omega
    simp only [ref15_Place.s1, c]
    rw [if_pos (by omega), at_lt k, at_lt k2]
    simp only [Option.bind_some]
    have hz : (es.zip ds).reverse[i]'(by omega) = (es[es.length - 1 - i], ds[es.length - 1 - i]) := by
      rw [List.getElem_reverse]
      simp only [List.getElem_zip, List.length_zip]
      have : min es.length ds.length - 1 - i = es.length - 1 - i := by omega
      simp only [this]
    rw [hz]
    have e2 : w (((es.length - 1 - i : Nat) : Int) - 1) = (es.length : Int) - 1 - ((i + 1 : Nat) : Int) := by rw [w_id (by omega) (by omega)]; omega
    rw [e2]
  · intro b _
    rw [hlen]
    simp only [ref15_Place.s1]
    rw [if_neg (by omega)]
theorem dig_fold : ∀ (es : List Int) (n : Int) (acc : List Int), (es.foldl (fun (b : Int × List Int) e => (b.1 / e, b.2 ++ [b.1 % e])) (n, acc)).2 = acc ++ dig es n
  | [], n, acc => by simp [dig]
  | e :: es, n, acc => by rw [List.foldl_cons, dig_fold es]; simp [dig]
theorem div_ok {n e : Int} (hn : 0 ≤ n) (hb : n ≤ 4611686018427387904) (he : 1 ≤ e) : rem n e = some (n % e) ∧ quo .i64 n e = some (n / e) ∧ 0 ≤ n / e ∧ n / e ≤ n := by
  have h0 : ¬ e = 0 := by omega
  have h1 : 0 ≤ n / e := Int.ediv_nonneg hn (by omega)
  have h2 : n / e ≤ n := Int.ediv_le_self e hn
  refine ⟨by unfold rem; rw [if_neg h0, Int.tmod_eq_emod_of_nonneg hn], ?_, h1, h2⟩
  unfold quo
  rw [if_neg h0, Int.tdiv_eq_ediv_of_nonneg hn]
  exact congrArg some (w_id (n := n / e) (by omega) (by omega))
theorem digits_eq {es : List Int} {n : Int} (h : ∀ e, e ∈ es → 1 ≤ e) (h0 : 0 ≤ n) (hb : n ≤ 4611686018427387904) (hl : es.length < 16777216) : shapes_digits es n = some (dig es n) := by
  unfold shapes_digits
  rw [loop_fold (step := shapes_digits.s1 es) es (fun i (b : Int × List Int) => (b.1, i, b.2)) (fun b => b.2) (fun b e => (b.1 / e, b.2 ++ [b.1 % e])) (fun i b => b.2.length = i ∧ 0 ≤ b.1 ∧ b.1 ≤ 4611686018427387904) (a := (n, [])) rfl ?_ ?_ ⟨rfl, h0, hb⟩ (by omega)]
  · simp only [Option.bind_some]; rw [dig_fold]; rfl
  · rintro i hi b ⟨k1, k2, k3⟩
    obtain ⟨d1, d2, d3, d4⟩ := div_ok k2 k3 (h es[i] (List.getElem_mem hi))
    refine ⟨?_, by simp [k1], d3, by simp only; omega⟩
    simp only [shapes_digits.s1, lt_len hi, if_true, at_lt hi, Option.bind_some, d1, d2]
    rw [app_one (by omega), wn (by omega)]; rfl
  · intro b _; simp only [shapes_digits.s1, not_lt_len, if_false]
theorem refIndexes_eq {es : List Int} {n : Int} (h : ∀ e, e ∈ es → 1 ≤ e) (h0 : 0 ≤ n) (hb : n ≤ 4611686018427387904) (hl : es.length < 16777216) : ref15_Indexes es n = some (dig es n) := by
  unfold ref15_Indexes
  rw [loop_fold (step := ref15_Indexes.s1 es) es (fun i (b : Int × List Int) => (b.1, i, b.2)) (fun b => b.2) (fun b e => (b.1 / e, b.2 ++ [b.1 % e])) (fun i b => b.2.length = i ∧ 0 ≤ b.1 ∧ b.1 ≤ 4611686018427387904) (a := (n, [])) rfl ?_ ?_ ⟨rfl, h0, hb⟩ (by omega)]
  · simp only [Option.bind_some]; rw [dig_fold]; rfl
  · rintro i hi b ⟨k1, k2, k3⟩
    obtain ⟨d1, d2, d3, d4⟩ := div_ok k2 k3 (h es[i] (List.getElem_mem hi))
    refine ⟨?_, by simp [k1], d3, by simp only; omega⟩
    simp only [ref15_Indexes.s1, lt_len hi, if_true, at_lt hi, Option.bind_some, d1, d2]
    rw [app_one (by omega)]
    simp only [Option.bind_some]
    rw [wn (by omega)]
  · intro b _; simp only [ref15_Indexes.s1, not_lt_len, if_false]
end Go.Sh
namespace Go.Sh
open Go.Lx
set_option linter.unusedVariables false
set_option linter.unusedSimpArgs false
def badEl (xs : List Int) : Sum Nat Unit := scanE (fun i b x => if shapes_isInteger x = true then .inr b else .inl i) 0 xs ()
def chk (a : api_Array) : Int × Int :=
  if bErr a.Bounds ≠ 0 then (0, bErr a.Bounds)
  else if (a.Elements.length : Int) ≠ prodE (exs a.Bounds) then (0, 10)
  else match badEl a.Elements with | .inl i => ((i : Int), 2) | .inr _ => (0, 0)
theorem isInteger_eq (x : Int) : ref15_IsInteger x = shapes_isInteger x := by unfold ref15_IsInteger shapes_isInteger; exact within_eq _ _ _
theorem checkArray_eq {a : api_Array} (h : a.Elements.length < 16777216) : shapes_CheckArray a = some (chk a) := by
  unfold shapes_CheckArray chk
  rw [boundsErr_eq]
  simp only [Option.bind_some]
  by_cases hb : bErr a.Bounds = 0
  · have hl7 := (bErr_ok hb).len
    simp only [hb, not_true, if_false, ne_eq]
    rw [size_eq (by omega)]
    simp only [Option.bind_some]
    by_cases hl : (a.Elements.length : Int) = prodE (exs a.Bounds)
    · have hl' : (a.Elements.length : Int) = prodE (a.Bounds.map shapes_extent) := hl
      simp only [hl', hl, not_true, if_false]
      unfold shapes_firstBad_int__shapes_CheckArray_c1
      rw [loop_scan (step := shapes_firstBad_int__shapes_CheckArray_c1.s1 a.Elements) a.Elements (fun i (_ : Unit) => i) (fun k : Nat => Sum.inr ((k : Int), 2)) (fun _ => Sum.inl ()) (fun i b x => if shapes_isInteger x = true then .inr b else .inl i) (fun _ _ => True) (a := ()) rfl ?_ ?_ trivial (by omega)]
      · unfold badEl
        cases scanE (fun i b x => if shapes_isInteger x = true then Sum.inr b else Sum.inl i) 0 a.Elements () <;> simp [hl, exs]
      · intro i hi b _
        refine ⟨?_, fun _ _ => trivial⟩
        simp only [shapes_firstBad_int__shapes_CheckArray_c1.s1, lt_len hi, if_true, at_lt hi, Option.bind_some, shapes_CheckArray_c1, broken1]
        by_cases hq : shapes_isInteger a.Elements[i] = true
        · simp only [hq, if_true, not_true, if_false]; rw [wn (by omega)]
        · simp only [hq, if_false, Bool.false_eq_true]; simp
      · intro b _; simp only [shapes_firstBad_int__shapes_CheckArray_c1.s1, not_lt_len, if_false]
    · have hl' : ¬ (a.Elements.length : Int) = prodE (a.Bounds.map shapes_extent) := hl
      simp [hl', hl, exs]
  · simp [hb]
theorem refCheck_eq {a : api_Array} (h : a.Elements.length < 16777216) : ref15_Check a = some (chk a) := by
  unfold ref15_Check chk
  rw [refBoundsErr_eq]
  simp only [Option.bind_some]
  by_cases hb : bErr a.Bounds = 0
  · have hl7 := (bErr_ok hb).len
    simp only [hb, not_true, if_false, ne_eq]
    rw [refExtents_eq' (by omega)]
    simp only [Option.bind_some]
    rw [refProduct_eq (by simp [exs]; omega)]
    simp only [Option.bind_some]
    by_cases hl : (a.Elements.length : Int) = prodE (exs a.Bounds)
    · simp only [hl, not_true, if_false]
      rw [loop_scan (step := ref15_Check.s1 a) a.Elements (fun i (_ : Unit) => i) (fun k : Nat => Sum.inr ((k : Int), 2)) (fun _ => Sum.inl ()) (fun i b x => if shapes_isInteger x = true then .inr b else .inl i) (fun _ _ => True) (a := ()) rfl ?_ ?_ trivial (by omega)]
      · unfold badEl
        cases scanE (fun i b x => if shapes_isInteger x = true then Sum.inr b else Sum.inl i) 0 a.Elements () <;> rfl
      · intro i hi b _
        refine ⟨?_, fun _ _ => trivial⟩
        simp only [ref15_Check.s1, lt_len hi, if_true, at_lt hi, Option.bind_some, isInteger_eq]
        by_cases hq : shapes_isInteger a.Elements[i] = true
        · simp only [hq, if_true, not_true, if_false]; rw [wn (by omega)]
        · simp only [hq, if_false, Bool.false_eq_true, not_false_eq_true, if_true]
      · intro b _; simp only [ref15_Check.s1, not_lt_len, if_false]
    · simp [hl]
  · simp [hb]
theorem refErr_eq {a : api_Array} (h : a.Elements.length < 16777216) : ref15_Err a = some (chk a).2 := by
  unfold ref15_Err; rw [refCheck_eq h]; rfl
theorem refCopy_eq {a : api_Array} (h1 : a.Bounds.length ≤ 16777216) (h : a.Elements.length < 16777216) : ref15_Copy a = some a := by
  unfold ref15_Copy; rw [copyBounds_eq h1, copyInts_eq (by omega)]; rfl
theorem few_ok {a : api_Array} (h : law15_few a = true) : a.Bounds.length ≤ 9 ∧ a.Elements.length ≤ 80 := by
  unfold law15_few at h
  simp at h
  omega
end Go.Sh
namespace Go.Sh
open Go.Lx
set_option linter.unusedVariables false
set_option linter.unusedSimpArgs false
end Go.Sh
namespace Go.Sh
open Go.Lx
set_option linter.unusedVariables false
set_option linter.unusedSimpArgs false
abbrev Sec := List Int × List (List Int) × List Int
section
variable {p : List api_Bound} {q : List api_Subscript} {v : Sec}
structure SecOk (p : List api_Bound) (q : List api_Subscript) (v : Sec) : Prop where
  lists : v.2.1.length = p.length
  lens : v.2.2 = v.2.1.map fun l => (l.length : Int)
  small : ∀ l, l ∈ v.2.1 → l.length ≤ 512
  ins : ∀ t, t ∈ p.zip v.2.1 → ∀ x, x ∈ t.2 → shapes_inside x t.1.Low t.1.High = true
theorem SecOk.pos (h : SecOk p q v) : 0 ≤ prodE v.2.2 := by
  unfold prodE
  split
  · omega
  · rename_i h0
    have hr : ∀ x, x ∈ v.2.2 → 1 ≤ x ∧ x ≤ 512 := by
      intro x hx
      have hx' := hx
      rw [h.lens] at hx
      obtain ⟨l, hl, rfl⟩ := List.mem_map.1 hx
      have := h.small l hl
      simp only [List.any_eq_true, not_exists, not_and, beq_iff_eq] at h0
      have := h0 _ hx'
      omega
    have := capP_eq (a := 1) hr (by omega) (by omega)
    have hp := P_pos fun x hq => (hr x hq).1
    unfold capP
    omega
end
end Go.Sh
namespace Go.Sh
open Go.Lx
set_option linter.unusedVariables false
set_option linter.unusedSimpArgs false
structure Valid (a : api_Array) : Prop where
  b : bErr a.Bounds = 0
  len : (a.Elements.length : Int) = P (exs a.Bounds)
  int : ∀ x, x ∈ a.Elements → shapes_isInteger x = true
theorem badEl_iff : ∀ (xs : List Int) (i : Nat), (∀ x, x ∈ xs → shapes_isInteger x = true) ↔ scanE (fun i b x => if shapes_isInteger x = true then Sum.inr b else Sum.inl i) i xs () = .inr ()
  | [], i => by simp [scanE]
  | x :: xs, i => by
    simp only [scanE, List.mem_cons, forall_eq_or_imp]
    by_cases h : shapes_isInteger x = true
    · simp only [h, if_true, true_and]; exact badEl_iff xs (i + 1)
    · simp [h]
theorem chk_valid {a : api_Array} (h : (chk a).2 = 0) : Valid a := by
  unfold chk at h
  split at h
  · rename_i hb; exact absurd h hb
  rename_i hb
  split at h
  · cases h
  rename_i hl
  have hb' := Classical.not_not.1 hb
  have hl' := Classical.not_not.1 hl
  have ok := bErr_ok hb'
  refine ⟨hb', by have := ok.size; rw [hl']; exact this.1, ?_⟩
  cases hq : badEl a.Elements with
  | inl i => rw [hq] at h; cases h
  | inr u => exact (badEl_iff _ 0).2 hq
def elAt (xs : List Int) (o : Int) : Int := (xs[o.toNat]?).getD 0
def ofExt (es : List Int) : List api_Bound := es.map fun e => api_Bound.mk 1 e
theorem from_eq {es : List Int} (h : es.length < 16777216) : shapes_from es = some (ofExt es) := by
  unfold shapes_from
  rw [loop_map (step := shapes_from.s1 es) es (fun e => api_Bound.mk 1 e) (fun i b => (i, b)) (fun b => b) rfl ?_ ?_ (by omega)]
  · rfl
  · intro i hi b hb
    simp only [shapes_from.s1, lt_len hi, if_true, at_lt hi, Option.bind_some]
    rw [app_one (by omega), wn (by omega)]; rfl
  · intro b; simp only [shapes_from.s1, not_lt_len, if_false]
theorem refOf_eq {es xs : List Int} (h : es.length < 16777216) : ref15_Of es xs = some (api_Array.mk (ofExt es) xs) := by
  unfold ref15_Of
  rw [loop_map (step := ref15_Of.s1 es) es (fun e => api_Bound.mk 1 e) (fun i b => (i, b)) (fun b => b) rfl ?_ ?_ (by omega)]
  · rfl
  · intro i hi b hb
    simp only [ref15_Of.s1, lt_len hi, if_true, at_lt hi, Option.bind_some]
    rw [app_one (by omega), wn (by omega)]; rfl
  · intro b; simp only [ref15_Of.s1, not_lt_len, if_false]
theorem at_el {xs : List Int} {o : Int} (h0 : 0 ≤ o) (h1 : o < (xs.length : Int)) : at_ xs o = some (elAt xs o) := by
  unfold at_ elAt
  rw [if_pos h0]
  have : o.toNat < xs.length := by omega
  simp [this]
theorem arraysErr1 {a : api_Array} (ha : a.Elements.length < 16777216) : shapes_arraysErr [a] = some (chk a).2 := by
  unfold shapes_arraysErr
  rw [loop_find (step := shapes_arraysErr.s1 [a]) [a] (fun x => if (chk x).2 = 0 then none else some (chk x).2) (fun c => Sum.inr c) (Sum.inl ()) rfl ?_ ?_ (by simp)]
  · by_cases h1 : (chk a).2 = 0
    · simp [h1]
    · simp [h1]
  · intro i hi
    have hx : [a][i].Elements.length < 16777216 := by
      match i, hi with
      | 0, _ => exact ha
    simp only [shapes_arraysErr.s1, lt_len hi, if_true, at_lt hi, Option.bind_some, checkArray_eq hx]
    by_cases e : (chk [a][i]).2 = 0
    · simp only [e, not_true, if_false, if_true]; rw [wn (by simp at hi; omega)]
    · simp only [e, not_false_eq_true, if_true, if_false]
  · simp only [shapes_arraysErr.s1, not_lt_len, if_false]
theorem same_self {a : api_Array} (h1 : a.Bounds.length < 16777216) (h2 : a.Elements.length < 16777216) : ref15_Same a a = some true := by
  unfold ref15_Same
  rw [ints_eq h2 h2]
  simp only [Option.bind_some, beq_self_eq_true, not_true, if_false]
  rw [loop_find (step := ref15_Same.s1 a a) a.Bounds (fun _ => (none : Option Bool)) (fun c => Sum.inr c) (Sum.inl ()) rfl ?_ ?_ (by omega)]
  · have : a.Bounds.findSome? (fun _ => (none : Option Bool)) = none := by simp
    rw [this]; rfl
  · intro i hi
    simp only [ref15_Same.s1, lt_len hi, if_true, at_lt hi, Option.bind_some, beq_self_eq_true, Bool.and_self, not_true, if_false]
    rw [wn (by omega)]
  · simp only [ref15_Same.s1, not_lt_len, if_false]
theorem is_self {a : api_Array} {e : Int} (h1 : a.Bounds.length < 16777216) (h2 : a.Elements.length < 16777216) : law15_is a e a e = some true := by
  unfold law15_is; rw [if_pos rfl, same_self h1 h2]; rfl
theorem elAt_mem {xs : List Int} {o : Int} (h0 : 0 ≤ o) (h1 : o < (xs.length : Int)) : elAt xs o ∈ xs := by
  unfold elAt
  have : o.toNat < xs.length := by omega
  simp [this]
end Go.Sh
namespace Go.Sh
open Go.Lx
set_option linter.unusedVariables false
set_option linter.unusedSimpArgs false
end Go.Sh
namespace Go.Sh
open Go.Lx
set_option linter.unusedVariables false
set_option linter.unusedSimpArgs false
def nth (l : List Int) (d : Nat) : Int := (l[d]?).getD 0
def er : Nat → List Int → List Int
  | _, [] => []
  | 0, _ :: l => l
  | n + 1, x :: l => x :: er n l
def ins : Nat → Int → List Int → List Int
  | 0, x, l => x :: l
  | _ + 1, x, [] => [x]
  | n + 1, x, a :: l => a :: ins n x l
def S : List Int → List Int → Int
  | s :: ss, d :: ds => s * d + S ss ds
  | _, _ => 0
theorem nth_succ (x : Int) (l : List Int) (d : Nat) : nth (x :: l) (d + 1) = nth l d := by simp [nth]
theorem nth_zero (x : Int) (l : List Int) : nth (x :: l) 0 = x := by simp [nth]
theorem nth_lt {l : List Int} {d : Nat} (h : d < l.length) : at_ l (d : Int) = some (nth l d) := by rw [at_lt h]; simp [nth, h]
theorem er_eq : ∀ (n : Nat) (l : List Int), l.take n ++ l.drop (n + 1) = er n l
  | n, [] => by simp [er]
  | 0, x :: l => by simp [er]
  | n + 1, x :: l => by simp only [List.take_succ_cons, List.drop_succ_cons, List.cons_append, er]; rw [er_eq n l]
theorem er_len : ∀ (n : Nat) (l : List Int), n < l.length → (er n l).length + 1 = l.length
  | n, [], h => by simp at h
  | 0, x :: l, h => by simp [er]
  | n + 1, x :: l, h => by
    have := er_len n l (by simpa using h)
    simp only [er, List.length_cons]
    omega
theorem ins_len : ∀ (n : Nat) (x : Int) (l : List Int), (ins n x l).length = l.length + 1
  | 0, x, l => rfl
  | n + 1, x, [] => rfl
  | n + 1, x, a :: l => by simp only [ins, List.length_cons, ins_len n x l]
theorem mem_er : ∀ {n : Nat} {l : List Int} {e : Int}, e ∈ l → e = nth l n ∨ e ∈ er n l
  | n, [], e, h => by cases h
  | 0, x :: l, e, h => by
    cases h with
    | head => exact .inl (nth_zero _ _).symm
    | tail _ h => exact .inr h
  | n + 1, x :: l, e, h => by
    cases h with
    | head => exact .inr (.head _)
    | tail _ h =>
      rcases mem_er (n := n) h with h1 | h1
      · exact .inl (by rw [nth_succ]; exact h1)
      · exact .inr (.tail _ h1)
theorem er_mem : ∀ {n : Nat} {l : List Int} {e : Int}, e ∈ er n l → e ∈ l
  | n, [], e, h => by simp [er] at h
  | 0, x :: l, e, h => .tail _ h
  | n + 1, x :: l, e, h => by
    cases h with
    | head => exact .head _
    | tail _ h => exact .tail _ (er_mem h)
theorem P_er : ∀ (n : Nat) (l : List Int), n < l.length → P l = nth l n * P (er n l)
  | n, [], h => by simp at h
  | 0, x :: l, h => by rw [nth_zero]; rfl
  | n + 1, x :: l, h => by
    rw [nth_succ, er, P, P, P_er n l (by simpa using h), ← Int.mul_assoc, ← Int.mul_assoc, Int.mul_comm x]
theorem S_ins : ∀ (n : Nat) (ss ds : List Int) (i : Int), n < ss.length → ds.length + 1 = ss.length → S ss (ins n i ds) = S (er n ss) ds + nth ss n * i
  | n, [], ds, i, h, _ => by simp at h
  | 0, s :: ss, ds, i, h, _ => by rw [nth_zero]; simp only [ins, er, S]; omega
  | n + 1, s :: ss, [], i, h, hl => by simp at h hl; subst hl; simp at h
  | n + 1, s :: ss, d :: ds, i, h, hl => by
    rw [nth_succ]
    simp only [ins, er, S]
    rw [S_ins n ss ds i (by simpa using h) (by simpa using hl)]
    omega
theorem base_ins : ∀ {n : Nat} {es ds : List Int} {i : Int}, n < es.length → inBase (er n es) ds → 0 ≤ i → i < nth es n → inBase es (ins n i ds)
  | n, [], ds, i, h, _, _, _ => by simp at h
  | 0, e :: es, ds, i, h, hb, h0, h1 => ⟨h0, by rw [nth_zero] at h1; exact h1, hb⟩
  | n + 1, e :: es, [], i, h, hb, h0, h1 => by cases hb
  | n + 1, e :: es, d :: ds, i, h, hb, h0, h1 => by
    obtain ⟨b1, b2, b3⟩ := hb
    rw [nth_succ] at h1
    exact ⟨b1, b2, base_ins (by simpa using h) b3 h0 h1⟩
theorem S_str : ∀ (es ds : List Int) (s : Int), inBase es ds → 1 ≤ s → s * P es ≤ 512 → S (str s es) ds = s * H es ds ∧ ∀ x, x ∈ str s es → 0 ≤ x
  | [], [], s, _, _, _ => by simp [str, S, H]
  | [], _ :: _, _, h, _, _ => by cases h
  | _ :: _, [], _, h, _, _ => by cases h
  | e :: es, d :: ds, s, ⟨h1, h2, h3⟩, hs, hp => by
    have hpos := P_pos (inBase_pos h3)
    have e0 : s * P (e :: es) = s * e * P es := by simp [P, Int.mul_assoc]
    rw [e0] at hp
    have e1 : 1 * 1 ≤ s * e := Int.mul_le_mul hs (by omega) (by omega) (by omega)
    have e2 : s * e * 1 ≤ s * e * P es := Int.mul_le_mul_of_nonneg_left hpos (by omega)
    have w1 : w (s * e) = s * e := w_id (by omega) (by omega)
    obtain ⟨i1, i2⟩ := S_str es ds (s * e) h3 (by omega) hp
    simp only [str, S, w1, H]
    refine ⟨by rw [i1, Int.mul_add, Int.mul_assoc], ?_⟩
    intro x hx
    cases hx with
    | head => omega
    | tail _ hx => exact i2 x hx
theorem S_nonneg : ∀ (ss ds : List Int), (∀ x, x ∈ ss → 0 ≤ x) → (∀ x, x ∈ ds → 0 ≤ x) → 0 ≤ S ss ds
  | [], ds, _, _ => by cases ds <;> simp [S]
  | s :: ss, [], _, _ => by simp [S]
  | s :: ss, d :: ds, h1, h2 => by
    have a := Int.mul_nonneg (h1 s (.head _)) (h2 d (.head _))
    have b := S_nonneg ss ds (fun x hx => h1 x (.tail _ hx)) (fun x hx => h2 x (.tail _ hx))
    simp only [S]; omega
def sumF (a : Int) (t : Int × Int) : Int := w (a + w (t.2 * t.1))
theorem fold_S : ∀ (ss ds : List Int) (a : Int), (∀ x, x ∈ ss → 0 ≤ x) → (∀ x, x ∈ ds → 0 ≤ x) → 0 ≤ a → a + S ss ds ≤ 1000000 → (ds.zip ss).foldl sumF a = a + S ss ds
  | [], ds, a, _, _, _, _ => by cases ds <;> simp [S]
  | s :: ss, [], a, _, _, _, _ => by simp [S]
  | s :: ss, d :: ds, a, h1, h2, h0, hb => by
    have p := Int.mul_nonneg (h1 s (.head _)) (h2 d (.head _))
    have q := S_nonneg ss ds (fun x hx => h1 x (.tail _ hx)) (fun x hx => h2 x (.tail _ hx))
    simp only [S] at hb ⊢
    have e : sumF a (d, s) = a + s * d := by
      unfold sumF
      simp only
      rw [w_id (n := s * d) (by omega) (by omega), w_id (by omega) (by omega)]
    rw [List.zip_cons_cons, List.foldl_cons, e, fold_S ss ds _ (fun x hx => h1 x (.tail _ hx)) (fun x hx => h2 x (.tail _ hx)) (by omega) (by omega)]
    omega
theorem inBase_nonneg : ∀ {es ds : List Int}, inBase es ds → ∀ x, x ∈ ds → 0 ≤ x
  | [], [], _, x, h => by cases h
  | [], _ :: _, h, _, _ => by cases h
  | _ :: _, [], h, _, _ => by cases h
  | e :: es, d :: ds, ⟨h1, h2, h3⟩, x, hx => by
    cases hx with
    | head => exact h1
    | tail _ hx => exact inBase_nonneg h3 x hx
def baseW (es : List Int) (d j : Nat) : Int := ((dig (er d es) j).zip (er d (str 1 es))).foldl sumF 0
def lineW (es : List Int) (d j : Nat) : List Int := (List.range (nth es d).toNat).map fun i : Nat => w (baseW es d j + w ((i : Int) * nth (str 1 es) d))
def linesW (es : List Int) (d : Nat) : List (List Int) := (List.range (prodE (er d es)).toNat).map fun j : Nat => lineW es d j
structure Exts (es : List Int) (d : Nat) : Prop where
  len : es.length ≤ 7
  d : d < es.length
  r : ∀ e, e ∈ es → 0 ≤ e ∧ e ≤ 512
  p : P es ≤ 512
theorem prodE_small {xs : List Int} (h : ∀ x, x ∈ xs → 0 ≤ x ∧ x ≤ 512) : 0 ≤ prodE xs ∧ prodE xs ≤ 513 ∧ (0 < prodE xs → (∀ x, x ∈ xs → 1 ≤ x) ∧ prodE xs = min (P xs) 513) := by
  unfold prodE
  by_cases h0 : xs.any (fun x => 0 == x) = true
  · rw [if_pos h0]; exact ⟨by omega, by omega, fun h => by omega⟩
  · rw [if_neg h0]
    have hr : ∀ x, x ∈ xs → 1 ≤ x ∧ x ≤ 512 := by
      intro x hx
      simp only [List.any_eq_true, not_exists, not_and, beq_iff_eq] at h0
      have := h0 x hx
      have := h x hx
      omega
    have c := capP_eq (a := 1) hr (by omega) (by omega)
    have hp := P_pos fun x hq => (hr x hq).1
    have e : capP xs = min (1 * P xs) 513 := c
    rw [Int.one_mul] at e
    exact ⟨by omega, by omega, fun _ => ⟨fun x hx => (hr x hx).1, e⟩⟩
section
variable {es : List Int} {d : Nat}
theorem line_spec (h : Exts es d) {j i : Nat} (hj : (j : Int) < prodE (er d es)) (hi : (i : Int) < nth es d) :
    (∀ e, e ∈ es → 1 ≤ e) ∧ inBase (er d es) (dig (er d es) j) ∧ inBase es (ins d i (dig (er d es) j)) ∧ w (baseW es d j + w ((i : Int) * nth (str 1 es) d)) = H es (ins d i (dig (er d es) j)) := by
  obtain ⟨z1, z2, z3⟩ := prodE_small (xs := er d es) (fun x hx => h.r x (er_mem hx))
  obtain ⟨y1, y2⟩ := z3 (by omega)
  have pos : ∀ e, e ∈ es → 1 ≤ e := by
    intro e he
    rcases mem_er (n := d) he with q | q
    · omega
    · exact y1 e q
  have hpe := P_er d es h.d
  have hn : 1 ≤ nth es d := by omega
  have hP1 := P_pos y1
  have hle : 1 * P (er d es) ≤ nth es d * P (er d es) := Int.mul_le_mul_of_nonneg_right hn (by omega)
  have hp512 := h.p
  have hjP : (j : Int) < P (er d es) := by omega
  obtain ⟨b1, b2⟩ := dig_ok y1 (by omega) hjP
  have b3 := base_ins h.d b1 (by omega) hi
  refine ⟨pos, b1, b3, ?_⟩
  obtain ⟨s1, s2⟩ := S_str es _ 1 b3 (by omega) (by omega)
  have hsl : d < (str 1 es).length := by rw [str_len]; exact h.d
  have hdl : (dig (er d es) j).length + 1 = (str 1 es).length := by rw [dig_len, str_len]; exact er_len d es h.d
  rw [S_ins d _ _ _ hsl hdl] at s1
  have r := H_range b3
  have n1 : 0 ≤ S (er d (str 1 es)) (dig (er d es) j) := S_nonneg _ _ (fun x hx => s2 x (er_mem hx)) (inBase_nonneg b1)
  have n2 : 0 ≤ nth (str 1 es) d := by
    unfold nth
    rw [List.getElem?_eq_getElem hsl]
    exact s2 _ (List.getElem_mem hsl)
  have n3 : 0 ≤ nth (str 1 es) d * (i : Int) := Int.mul_nonneg n2 (by omega)
  have hb : baseW es d j = S (er d (str 1 es)) (dig (er d es) j) := by
    unfold baseW
    rw [fold_S _ _ 0 (fun x hx => s2 x (er_mem hx)) (inBase_nonneg b1) (by omega) (by omega)]
    omega
  rw [hb, Int.mul_comm (i : Int), w_id (n := nth (str 1 es) d * (i : Int)) (by omega) (by omega), w_id (by omega) (by omega)]
  omega
theorem range_loopG {β τ : Type} {step : Int × List β → Option (Sum (Int × List β) τ)} (n : Int) (g : Nat → β) (fin : List β → τ) (h0 : 0 ≤ n) (hn : n < 16777216)
    (h : ∀ i : Nat, (i : Int) < n → ∀ b : List β, b.length = i → step (i, b) = some (.inl (((i + 1 : Nat) : Int), b ++ [g i]))) (hend : ∀ b, step (n, b) = some (.inr (fin b))) :
    loopO step (0, []) = some (fin ((List.range n.toNat).map g)) := by
  have hl : (List.range n.toNat).length = n.toNat := by simp
  have hc : ((List.range n.toNat).length : Int) = n := by rw [hl]; omega
  refine loop_map (step := step) (List.range n.toNat) g (fun i b => (i, b)) fin rfl ?_ ?_ (by omega)
  · intro i hi b hb
    have : (List.range n.toNat)[i] = i := by simp
    rw [this]
    exact h i (by omega) b hb
  · intro b; rw [hc]; exact hend b
theorem nth_range (h : Exts es d) : 0 ≤ nth es d ∧ nth es d ≤ 512 := by
  have hd := h.d
  have : nth es d ∈ es := by unfold nth; simp [hd]
  exact h.r _ this
theorem lines_eq (h : Exts es d) : shapes_lines es (d : Int) = some (linesW es d) := by
  have h7 := h.len
  have hd := h.d
  unfold shapes_lines slices_Clone_int
  rw [app_nil (by omega)]
  simp only [Option.bind_some]
  rw [wn (by omega)]
  have del1 : ∀ l : List Int, l.length = es.length → del l (d : Int) ((d + 1 : Nat) : Int) = some (er d l) := by
    intro l hl
    unfold del
    rw [if_pos (by omega)]
    simp only [Int.toNat_natCast]
    rw [er_eq]
  rw [del1 es rfl, strides_eq (by omega)]
  simp only [Option.bind_some]
  have hsl : (str 1 es).length = es.length := str_len es 1
  rw [nth_lt (by omega), app_nil (by omega)]
  simp only [Option.bind_some]
  have erl := er_len d es hd
  rw [del1 _ hsl, product_eq (by omega)]
  simp only [Option.bind_some]
  obtain ⟨z1, z2, z3⟩ := prodE_small (xs := er d es) (fun x hx => h.r x (er_mem hx))
  have nr := nth_range h
  rw [range_loopG (step := shapes_lines.s1 es d (er d es) (nth (str 1 es) d) (er d (str 1 es)) (prodE (er d es))) (prodE (er d es)) (fun j => lineW es d j) (fun b => b) z1 (by omega) ?_ ?_]
  · rfl
  · intro j hj b hb
    obtain ⟨y1, y2⟩ := z3 (by omega)
    simp only [shapes_lines.s1, hj, if_true]
    rw [digits_eq y1 (by omega) (by omega) (by omega)]
    simp only [Option.bind_some]
    have hdl : (dig (er d es) j).length = (er d (str 1 es)).length := by
      have e1 := er_len d (str 1 es) (by omega)
      rw [dig_len]; omega
    have hz : ((dig (er d es) j).zip (er d (str 1 es))).length = (dig (er d es) j).length := by simp; omega
    have hdle : (dig (er d es) j).length ≤ 7 := by rw [dig_len]; omega
    rw [loop_fold (step := shapes_lines.s2 (er d (str 1 es)) (dig (er d es) j)) ((dig (er d es) j).zip (er d (str 1 es))) (fun i (b : Int) => (b, i)) (fun b => b) sumF (fun _ _ => True) (a := 0) rfl ?_ ?_ trivial (by omega)]
    · simp only [Option.bind_some]
      rw [nth_lt hd]
      simp only [Option.bind_some]
      rw [range_loopG (step := shapes_lines.s3 (nth (str 1 es) d) (((dig (er d es) j).zip (er d (str 1 es))).foldl sumF 0) (nth es d)) (nth es d) (fun i : Nat => w (baseW es d j + w ((i : Int) * nth (str 1 es) d))) (fun b => b) nr.1 (by omega) ?_ ?_]
      · simp only [Option.bind_some]
        rw [app_one (by omega), wn (by omega)]; rfl
      · intro i hi b hb
        simp only [shapes_lines.s3, hi, if_true]
        rw [app_one (by omega), wn (by omega)]; rfl
      · intro b; simp only [shapes_lines.s3, Int.lt_irrefl, if_false]
    · intro i hi b _
      refine ⟨?_, trivial⟩
      rw [hz] at hi
      have h2 : i < (er d (str 1 es)).length := by omega
      simp only [shapes_lines.s2, lt_len hi, if_true, at_lt hi, at_lt h2, Option.bind_some, List.getElem_zip, sumF]
      rw [wn (by omega)]
    · intro b _; rw [hz]; simp only [shapes_lines.s2, not_lt_len, if_false]
  · intro b; simp only [shapes_lines.s1, Int.lt_irrefl, if_false]
end
def dErr (a : api_Array) (dim : Int) : Int := if (chk a).2 ≠ 0 then (chk a).2 else if shapes_inside dim 1 (a.Bounds.length : Int) = true then 0 else 32
theorem dim_ok {a : api_Array} {dim : Int} (h : dErr a dim = 0) : Valid a ∧ ∃ d : Nat, w (dim - 1) = d ∧ dim = d + 1 ∧ Exts (exs a.Bounds) d := by
  unfold dErr at h
  split at h
  · rename_i q; exact absurd h q
  rename_i q
  split at h
  · rename_i h2
    have va := chk_valid (Classical.not_not.1 q)
    have ok := bErr_ok va.b
    have hl7 := ok.len
    simp [shapes_inside] at h2
    refine ⟨va, (dim - 1).toNat, ?_, by omega, ⟨by simp [exs]; omega, by simp [exs]; omega, ?_, ok.size.2.2⟩⟩
    · rw [w_id (by omega) (by omega)]; omega
    · intro e he
      obtain ⟨b, hb, rfl⟩ := List.mem_map.1 he
      exact ⟨ok.pos b hb, ok.big b hb⟩
  · cases h
end Go.Sh
namespace Go.Sh
open Go.Lx
set_option linter.unusedVariables false
set_option linter.unusedSimpArgs false
section
variable {a : api_Array} {d : Nat}
end
end Go.Sh
namespace Go.Sh
open Go.Lx
set_option linter.unusedVariables false
set_option linter.unusedSimpArgs false
def prodF (_ : Nat) (b x : Int) : Sum Unit Int := if shapes_isInteger (w (b * x)) = true then .inr (w (b * x)) else .inl ()
def cntF (b x : Int) : Int := if x = 0 then b else w (b + 1)
def foldV (k : Int) (l : List Int) : Int × Bool :=
  if k = 2 then (l.foldl mx (-2147483648), true)
  else if k = 3 then (l.foldl mn 2147483647, true)
  else if k = 1 then (match scanE prodF 0 l 1 with | .inl _ => (0, false) | .inr n => (n, shapes_isInteger n))
  else if k = 4 then (l.foldl cntF 0, shapes_isInteger (l.foldl cntF 0))
  else (l.foldl (fun b x => w (b + x)) 0, shapes_isInteger (l.foldl (fun b x => w (b + x)) 0))
theorem mx_int : ∀ (l : List Int) (b : Int), (∀ x, x ∈ l → shapes_isInteger x = true) → shapes_isInteger b = true → shapes_isInteger (l.foldl mx b) = true
  | [], b, _, h => h
  | x :: l, b, hl, h => mx_int l (mx b x) (fun y hy => hl y (.tail _ hy)) (by unfold mx; split; exact hl x (.head _); exact h)
theorem mn_int : ∀ (l : List Int) (b : Int), (∀ x, x ∈ l → shapes_isInteger x = true) → shapes_isInteger b = true → shapes_isInteger (l.foldl mn b) = true
  | [], b, _, h => h
  | x :: l, b, hl, h => mn_int l (mn b x) (fun y hy => hl y (.tail _ hy)) (by unfold mn; split; exact hl x (.head _); exact h)
theorem max_eq {l : List Int} {b : Int} (h : l.length < 16777215) : slices_Max_int (b :: l) = some (l.foldl mx b) := by
  unfold slices_Max_int
  rw [if_neg (by simp; omega)]
  have : at_ (b :: l) 0 = some b := rfl
  rw [this]
  simp only [Option.bind_some]
  rw [loop_fold (step := slices_Max_int.s1 (b :: l)) l (fun i (c : Int) => (c, i + 1)) (fun c => c) mx (fun _ _ => True) (a := b) (s := (b, 1)) rfl ?_ ?_ trivial (by omega)]
  · rfl
  · intro i hi c _
    refine ⟨?_, trivial⟩
    have e : ((i : Int) + 1) = ((i + 1 : Nat) : Int) := by omega
    have hl : i + 1 < (b :: l).length := by simp; omega
    simp only [slices_Max_int.s1]
    rw [e, if_pos (by omega), at_lt hl]
    simp only [Option.bind_some, List.getElem_cons_succ]
    rw [wn (by omega)]; rfl
  · intro c _
    have e : ((l.length : Int) + 1) = ((b :: l).length : Int) := by simp
    simp only [slices_Max_int.s1, e, not_lt_len, if_false]
theorem min_eq {l : List Int} {b : Int} (h : l.length < 16777215) : slices_Min_int (b :: l) = some (l.foldl mn b) := by
  unfold slices_Min_int
  rw [if_neg (by simp; omega)]
  have : at_ (b :: l) 0 = some b := rfl
  rw [this]
  simp only [Option.bind_some]
  rw [loop_fold (step := slices_Min_int.s1 (b :: l)) l (fun i (c : Int) => (c, i + 1)) (fun c => c) mn (fun _ _ => True) (a := b) (s := (b, 1)) rfl ?_ ?_ trivial (by omega)]
  · rfl
  · intro i hi c _
    refine ⟨?_, trivial⟩
    have e : ((i : Int) + 1) = ((i + 1 : Nat) : Int) := by omega
    have hl : i + 1 < (b :: l).length := by simp; omega
    simp only [slices_Min_int.s1]
    rw [e, if_pos (by omega), at_lt hl]
    simp only [Option.bind_some, List.getElem_cons_succ]
    rw [wn (by omega)]; rfl
  · intro c _
    have e : ((l.length : Int) + 1) = ((b :: l).length : Int) := by simp
    simp only [slices_Min_int.s1, e, not_lt_len, if_false]
theorem app_cons {l : List Int} {b : Int} (h : l.length < 16777215) : app [b] l = some (b :: l) := by unfold app; rw [if_pos (by simp; omega)]; rfl
theorem kind5 {k : Int} (h : shapes_inside k 0 4 = true) : k = 0 ∨ k = 1 ∨ k = 2 ∨ k = 3 ∨ k = 4 := by
  simp [shapes_inside] at h; omega
theorem fold_eq {l : List Int} (h : l.length < 16777215) {k : Int} (hk : shapes_inside k 0 4 = true) : shapes_fold k l = some (foldV k l) := by
  rcases kind5 hk with rfl | rfl | rfl | rfl | rfl
  · unfold shapes_fold foldV shapes_fold.j1
    simp only [show ¬ (0 : Int) = 2 by decide, show ¬ (0 : Int) = 3 by decide, show ¬ (0 : Int) = 1 by decide, show ¬ (0 : Int) = 4 by decide, if_false]
    rw [loop_fold (step := shapes_fold.s2 0 l) l (fun i (c : Int) => (c, i)) (fun c => Sum.inl c) (fun b x => w (b + x)) (fun _ _ => True) (a := 0) rfl ?_ ?_ trivial (by omega)]
    · rfl
    · intro i hi c _
      refine ⟨?_, trivial⟩
      simp only [shapes_fold.s2, lt_len hi, if_true, at_lt hi, Option.bind_some]
      rw [wn (by omega)]
    · intro c _; simp only [shapes_fold.s2, not_lt_len, if_false]
  · unfold shapes_fold foldV shapes_fold.j1
    simp only [show ¬ (1 : Int) = 2 by decide, show ¬ (1 : Int) = 3 by decide, if_false, if_true]
    rw [loop_scan (step := shapes_fold.s2 1 l) l (fun i (c : Int) => (c, i)) (fun (_ : Unit) => Sum.inr (0, false)) (fun c => Sum.inl c) prodF (fun _ _ => True) (a := 1) rfl ?_ ?_ trivial (by omega)]
    · cases scanE prodF 0 l 1 <;> rfl
    · intro i hi c _
      refine ⟨?_, fun _ _ => trivial⟩
      simp only [shapes_fold.s2, lt_len hi, if_true, at_lt hi, Option.bind_some, show ¬ (1 : Int) = 0 by decide, show ¬ (1 : Int) = 4 by decide, if_false, prodF]
      by_cases e : shapes_isInteger (w (c * l[i])) = true
      · simp only [e, not_true, if_false, if_true]; rw [wn (by omega)]
      · simp only [e, not_false_eq_true, if_true, if_false, Bool.false_eq_true]
    · intro c _; simp only [shapes_fold.s2, not_lt_len, if_false]
  · unfold shapes_fold foldV
    simp only [if_true]
    rw [app_cons h]
    simp only [Option.bind_some]
    rw [max_eq h]; rfl
  · unfold shapes_fold foldV
    simp only [show ¬ (3 : Int) = 2 by decide, if_false, if_true]
    rw [app_cons h]
    simp only [Option.bind_some]
    rw [min_eq h]; rfl
  · unfold shapes_fold foldV shapes_fold.j1
    simp only [show ¬ (4 : Int) = 2 by decide, show ¬ (4 : Int) = 3 by decide, show ¬ (4 : Int) = 1 by decide, if_false, if_true]
    rw [loop_fold (step := shapes_fold.s2 4 l) l (fun i (c : Int) => (c, i)) (fun c => Sum.inl c) cntF (fun _ _ => True) (a := 0) rfl ?_ ?_ trivial (by omega)]
    · rfl
    · intro i hi c _
      refine ⟨?_, trivial⟩
      simp only [shapes_fold.s2, lt_len hi, if_true, at_lt hi, Option.bind_some, show ¬ (4 : Int) = 0 by decide, if_false, cntF]
      by_cases e : l[i] = 0
      · simp only [e, not_true, if_false, if_true]; rw [wn (by omega)]
      · simp only [e, not_false_eq_true, if_true, if_false]; rw [wn (by omega)]
    · intro c _; simp only [shapes_fold.s2, not_lt_len, if_false]
theorem value_eq {l : List Int} (h : l.length < 16777215) (hi : ∀ x, x ∈ l → shapes_isInteger x = true) {k : Int} (hk : shapes_inside k 0 4 = true) : ref15_value l k = some (foldV k l) := by
  rcases kind5 hk with rfl | rfl | rfl | rfl | rfl
  · unfold ref15_value foldV
    simp only [show ¬ (0 : Int) = 2 by decide, show ¬ (0 : Int) = 3 by decide, show ¬ (0 : Int) = 1 by decide, show ¬ (0 : Int) = 4 by decide, if_false, if_true]
    rw [loop_fold (step := ref15_value.s1 l) l (fun i (c : Int) => (c, i)) (fun c => c) (fun b x => w (b + x)) (fun _ _ => True) (a := 0) rfl ?_ ?_ trivial (by omega)]
    · simp only [Option.bind_some, isInteger_eq]
    · intro i hi c _
      refine ⟨?_, trivial⟩
      simp only [ref15_value.s1, lt_len hi, if_true, at_lt hi, Option.bind_some]
      rw [wn (by omega)]
    · intro c _; simp only [ref15_value.s1, not_lt_len, if_false]
  · unfold ref15_value foldV
    simp only [show ¬ (1 : Int) = 2 by decide, show ¬ (1 : Int) = 3 by decide, show ¬ (1 : Int) = 0 by decide, if_false, if_true]
    rw [loop_scan (step := ref15_value.s2 l) l (fun i (c : Int) => (c, i)) (fun (_ : Unit) => Sum.inr (0, false)) (fun c => Sum.inl c) prodF (fun _ _ => True) (a := 1) rfl ?_ ?_ trivial (by omega)]
    · cases scanE prodF 0 l 1 with
      | inl _ => rfl
      | inr n => simp only [Option.bind_some, isInteger_eq]
    · intro i hi c _
      refine ⟨?_, fun _ _ => trivial⟩
      simp only [ref15_value.s2, lt_len hi, if_true, at_lt hi, Option.bind_some, prodF, isInteger_eq]
      by_cases e : shapes_isInteger (w (c * l[i])) = true
      · simp only [e, not_true, if_false, if_true]; rw [wn (by omega)]
      · simp only [e, not_false_eq_true, if_true, if_false, Bool.false_eq_true]
    · intro c _; simp only [ref15_value.s2, not_lt_len, if_false]
  · unfold ref15_value foldV
    simp only [show ¬ (2 : Int) = 1 by decide, show ¬ (2 : Int) = 0 by decide, if_false, if_true]
    rw [loop_fold (step := ref15_value.s3 l) l (fun i (c : Int) => (c, i)) (fun c => c) mx (fun _ _ => True) (a := -2147483648) rfl ?_ ?_ trivial (by omega)]
    · simp only [Option.bind_some, isInteger_eq, mx_int l (-2147483648) hi (by decide)]
    · intro i hi c _
      refine ⟨?_, trivial⟩
      simp only [ref15_value.s3, lt_len hi, if_true, at_lt hi, Option.bind_some]
      rw [wn (by omega)]
    · intro c _; simp only [ref15_value.s3, not_lt_len, if_false]
  · unfold ref15_value foldV
    simp only [show ¬ (3 : Int) = 1 by decide, show ¬ (3 : Int) = 0 by decide, show ¬ (3 : Int) = 2 by decide, if_false, if_true]
    rw [loop_fold (step := ref15_value.s4 l) l (fun i (c : Int) => (c, i)) (fun c => c) mn (fun _ _ => True) (a := 2147483647) rfl ?_ ?_ trivial (by omega)]
    · simp only [Option.bind_some, isInteger_eq, mn_int l 2147483647 hi (by decide)]
    · intro i hi c _
      refine ⟨?_, trivial⟩
      simp only [ref15_value.s4, lt_len hi, if_true, at_lt hi, Option.bind_some]
      rw [wn (by omega)]
    · intro c _; simp only [ref15_value.s4, not_lt_len, if_false]
  · unfold ref15_value foldV
    simp only [show ¬ (4 : Int) = 1 by decide, show ¬ (4 : Int) = 0 by decide, show ¬ (4 : Int) = 2 by decide, show ¬ (4 : Int) = 3 by decide, if_false, if_true]
    rw [loop_fold (step := ref15_value.s5 l) l (fun i (c : Int) => (c, i)) (fun c => c) cntF (fun i c => 0 ≤ c ∧ c ≤ (i : Int)) (a := 0) rfl ?_ ?_ ⟨by omega, by omega⟩ (by omega)]
    · simp only [Option.bind_some, isInteger_eq]
    · rintro i hi c ⟨c1, c2⟩
      simp only [ref15_value.s5, lt_len hi, if_true, at_lt hi, Option.bind_some, cntF, base_Bit]
      rw [wn (by omega)]
      by_cases e : l[i] = 0
      · simp only [e, bne_self_eq_false, Bool.false_eq_true, if_false, if_true]
        rw [w_id (by omega) (by omega), Int.add_zero]
        exact ⟨by first | trivial | rfl, c1, by omega⟩
      · have e' : (l[i] != 0) = true := by simp [e]
        simp only [e, e', if_true, if_false]
        rw [w_id (by omega) (by omega)]
        exact ⟨by first | trivial | rfl, by omega, by omega⟩
    · intro c _; simp only [ref15_value.s5, not_lt_len, if_false]
def redF (k : Int) (_ : Nat) (b : List Int) (l : List Int) : Sum Unit (List Int) := if (foldV k l).2 = true then .inr (b ++ [(foldV k l).1]) else .inl ()
def redAll (k : Int) (bs : List api_Bound) (L : List (List Int)) : api_Array × Int := match scanE (redF k) 0 L [] with | .inl _ => (⟨[], []⟩, 28) | .inr b => (⟨bs, b⟩, 0)
theorem redF_len {k : Int} {i : Nat} {b b' l : List Int} (h : redF k i b l = .inr b') : b'.length = b.length + 1 := by
  unfold redF at h
  split at h
  · cases h; simp
  · cases h
theorem scan_len {k : Int} : ∀ {L : List (List Int)} {i : Nat} {b b' : List Int}, scanE (redF k) i L b = .inr b' → b'.length = b.length + L.length
  | [], i, b, b', h => by cases h; simp
  | l :: L, i, b, b', h => by
    simp only [scanE] at h
    cases hf : redF k i b l with
    | inl _ => rw [hf] at h; cases h
    | inr c =>
      rw [hf] at h
      have h1 := redF_len hf
      have h2 := scan_len h
      simp only [List.length_cons]; omega
theorem reduced_j {k : Int} (hk : shapes_inside k 0 4 = true) {bs : List api_Bound} {L : List (List Int)} (hL : L.length < 16777216) (hl : ∀ l, l ∈ L → l.length < 16777215) : shapes_Reduced.j1 k (bs, L) = some (redAll k bs L) := by
  unfold shapes_Reduced.j1 redAll
  rw [loop_scan (step := shapes_Reduced.s2 k (bs, L)) L (fun i b => (i, b)) (fun (_ : Unit) => Sum.inr (⟨[], []⟩, 28)) (fun b => Sum.inl b) (redF k) (fun i b => b.length = i) (a := []) rfl ?_ ?_ rfl (by omega)]
  · cases scanE (redF k) 0 L [] <;> rfl
  · intro i hi b hb
    refine ⟨?_, fun b' h => by rw [redF_len h, hb]⟩
    simp only [shapes_Reduced.s2, lt_len hi, if_true, at_lt hi, Option.bind_some]
    rw [fold_eq (hl _ (List.getElem_mem hi)) hk]
    simp only [Option.bind_some, redF]
    by_cases e : (foldV k L[i]).2 = true
    · simp only [e, not_true, if_false, if_true]
      rw [app_one (by omega)]
      simp only [Option.bind_some]
      rw [wn (by omega)]
    · simp only [e, not_false_eq_true, if_true, if_false, Bool.false_eq_true]
  · intro b _; simp only [shapes_Reduced.s2, not_lt_len, if_false]
theorem brokenR (a b : Bool) : shapes_broken [shapes_rule.mk a 32, shapes_rule.mk b 15] = some (if a = true then (if b = true then 0 else 15) else 32) := by
  cases a <;> cases b <;> decide +kernel
theorem ins_app : ∀ (n : Nat) (x : Int) (l : List Int), n ≤ l.length → ins n x l = l.take n ++ [x] ++ l.drop n
  | 0, x, l, _ => by simp [ins]
  | n + 1, x, [], h => by simp at h
  | n + 1, x, a :: l, h => by
    simp only [ins, List.take_succ_cons, List.drop_succ_cons, List.cons_append]
    rw [ins_app n x l (by simpa using h)]
def elsL (a : api_Array) (d j : Nat) : List Int := (List.range (nth (exs a.Bounds) d).toNat).map fun i : Nat => elAt a.Elements (H (exs a.Bounds) (ins d i (dig (er d (exs a.Bounds)) j)))
def linesL (a : api_Array) (d : Nat) : List (List Int) := (List.range (prodE (er d (exs a.Bounds))).toNat).map fun j : Nat => elsL a d j
section
variable {a : api_Array} {d : Nat}
theorem line_els (h : Exts (exs a.Bounds) d) {j : Nat} (hj : (j : Int) < prodE (er d (exs a.Bounds))) : (lineW (exs a.Bounds) d j).map (elAt a.Elements) = elsL a d j := by
  unfold lineW elsL
  rw [List.map_map]
  apply List.map_congr_left
  intro i hi
  have hi' := List.mem_range.1 hi
  have nr := nth_range h
  simp only [Function.comp]
  rw [(line_spec h hj (i := i) (by omega)).2.2.2]
theorem picked_line (va : Valid a) (h : Exts (exs a.Bounds) d) {j : Nat} (hj : (j : Int) < prodE (er d (exs a.Bounds))) : shapes_picked a [] (lineW (exs a.Bounds) d j) = some ⟨[], elsL a d j⟩ := by
  have nr := nth_range h
  have lil : (lineW (exs a.Bounds) d j).length = (nth (exs a.Bounds) d).toNat := by simp [lineW]
  have hl := va.len
  unfold shapes_picked
  rw [from_eq (by simp)]
  simp only [Option.bind_some]
  rw [loop_map (step := shapes_picked.s1 a (lineW (exs a.Bounds) d j)) (lineW (exs a.Bounds) d j) (elAt a.Elements) (fun i b => (i, b)) (fun b => b) rfl ?_ ?_ (by omega)]
  · simp only [Option.bind_some]; rw [line_els h hj]; rfl
  · intro i hi b hb
    simp only [shapes_picked.s1, lt_len hi, if_true, at_lt hi, Option.bind_some]
    have hi' : (i : Int) < nth (exs a.Bounds) d := by omega
    have sp := line_spec h hj hi'
    have rg := H_range sp.2.2.1
    have e : (lineW (exs a.Bounds) d j)[i] = H (exs a.Bounds) (ins d i (dig (er d (exs a.Bounds)) j)) := by rw [← sp.2.2.2]; simp [lineW]
    rw [e, at_el rg.1 (by omega)]
    simp only [Option.bind_some]
    rw [app_one (by omega), wn (by omega)]; rfl
  · intro b; simp only [shapes_picked.s1, not_lt_len, if_false]
theorem linesL_len (h : Exts (exs a.Bounds) d) : (linesL a d).length ≤ 513 ∧ ∀ l, l ∈ linesL a d → l.length ≤ 512 := by
  obtain ⟨z1, z2, z3⟩ := prodE_small (xs := er d (exs a.Bounds)) (fun x hx => h.r x (er_mem hx))
  have nr := nth_range h
  refine ⟨by simp [linesL]; omega, fun l hl => ?_⟩
  obtain ⟨j, _, rfl⟩ := List.mem_map.1 hl
  simp [elsL]; omega
theorem elsL_int (va : Valid a) (h : Exts (exs a.Bounds) d) {j : Nat} (hj : (j : Int) < prodE (er d (exs a.Bounds))) : ∀ x, x ∈ elsL a d j → shapes_isInteger x = true := by
  intro x hx
  obtain ⟨i, hi, rfl⟩ := List.mem_map.1 hx
  have hi' := List.mem_range.1 hi
  have nr := nth_range h
  have rg := H_range (line_spec h hj (i := i) (by omega)).2.2.1
  exact va.int _ (elAt_mem rg.1 (by rw [va.len]; exact rg.2))
theorem todo_eq (va : Valid a) (h : Exts (exs a.Bounds) d) : loopO (shapes_Reduced.s3 a (linesW (exs a.Bounds) d)) (0, []) = some (linesL a d) := by
  obtain ⟨z1, z2, z3⟩ := prodE_small (xs := er d (exs a.Bounds)) (fun x hx => h.r x (er_mem hx))
  have ll : (linesW (exs a.Bounds) d).length = (prodE (er d (exs a.Bounds))).toNat := by simp [linesW]
  have lc : ((linesW (exs a.Bounds) d).length : Int) = prodE (er d (exs a.Bounds)) := by omega
  rw [range_loopG (step := shapes_Reduced.s3 a (linesW (exs a.Bounds) d)) (prodE (er d (exs a.Bounds))) (fun j => elsL a d j) (fun b => b) z1 (by omega) ?_ ?_]
  · rfl
  · intro j hj b hb
    have hjl : j < (linesW (exs a.Bounds) d).length := by omega
    have e : (linesW (exs a.Bounds) d)[j] = lineW (exs a.Bounds) d j := by simp [linesW]
    simp only [shapes_Reduced.s3, lc, hj, if_true, at_lt hjl, Option.bind_some]
    rw [e, picked_line va h hj]
    simp only [Option.bind_some]
    rw [app_one (by omega), wn (by omega)]; rfl
  · intro b; simp only [shapes_Reduced.s3, lc, Int.lt_irrefl, if_false]
theorem refLine (va : Valid a) (h : Exts (exs a.Bounds) d) {j : Nat} (hj : (j : Int) < prodE (er d (exs a.Bounds))) {dim : Int} (hd : w (dim - 1) = d) : loopO (ref15_Reduced.s3 a dim (exs a.Bounds) (dig (er d (exs a.Bounds)) j)) (0, []) = some (elsL a d j) := by
  have nr := nth_range h
  have h7 := h.len
  have hl := va.len
  have hp := h.p
  have erl := er_len d (exs a.Bounds) h.d
  have hdd := h.d
  rw [range_loopG (step := ref15_Reduced.s3 a dim (exs a.Bounds) (dig (er d (exs a.Bounds)) j)) (nth (exs a.Bounds) d) (fun i => elAt a.Elements (H (exs a.Bounds) (ins d i (dig (er d (exs a.Bounds)) j)))) (fun b => b) nr.1 (by omega) ?_ ?_]
  · rfl
  · intro i hi b hb
    obtain ⟨_, _, b3, _⟩ := line_spec h hj hi
    have rg := H_range b3
    have dl : (dig (er d (exs a.Bounds)) j).length = (er d (exs a.Bounds)).length := dig_len _ _
    have c1 : cut (dig (er d (exs a.Bounds)) j) 0 (d : Int) = some ((dig (er d (exs a.Bounds)) j).take d) := by unfold cut; rw [if_pos (by omega)]; simp
    have c2 : cut (dig (er d (exs a.Bounds)) j) (d : Int) ((dig (er d (exs a.Bounds)) j).length : Int) = some ((dig (er d (exs a.Bounds)) j).drop d) := by unfold cut; rw [if_pos (by omega)]; simp
    have ia := ins_app d (i : Int) (dig (er d (exs a.Bounds)) j) (by omega)
    have tk : ((dig (er d (exs a.Bounds)) j).take d).length ≤ 7 := by simp; omega
    have dk : ((dig (er d (exs a.Bounds)) j).drop d).length ≤ 7 := by simp; omega
    have il : (exs a.Bounds).length = (ins d (i : Int) (dig (er d (exs a.Bounds)) j)).length := by rw [ins_len]; omega
    simp only [ref15_Reduced.s3, hd]
    rw [nth_lt h.d]
    simp only [Option.bind_some, hi, if_true]
    rw [c1]
    simp only [Option.bind_some]
    rw [copyInts_eq (by omega)]
    simp only [Option.bind_some]
    rw [app_one (by omega), c2]
    simp only [Option.bind_some]
    have ap : app ((dig (er d (exs a.Bounds)) j).take d ++ [(i : Int)]) ((dig (er d (exs a.Bounds)) j).drop d) = some ((dig (er d (exs a.Bounds)) j).take d ++ [(i : Int)] ++ (dig (er d (exs a.Bounds)) j).drop d) := by unfold app; rw [if_pos (by simp; omega)]
    rw [ap]
    simp only [Option.bind_some]
    rw [← ia]
    have same : (if ((dig (er d (exs a.Bounds)) j).drop d).isEmpty = true then ref15_Place (exs a.Bounds) ((dig (er d (exs a.Bounds)) j).take d ++ [(i : Int)]) else ref15_Place (exs a.Bounds) (ins d (i : Int) (dig (er d (exs a.Bounds)) j))) = some (H (exs a.Bounds) (ins d (i : Int) (dig (er d (exs a.Bounds)) j))) := by
      have pl := refPlace_eq b3 hp (fun e he => (h.r e he).2) il (by omega)
      split
      · rename_i q
        rw [List.isEmpty_iff] at q
        rw [q, List.append_nil] at ia
        rw [← ia]; exact pl
      · exact pl
    by_cases q : ((dig (er d (exs a.Bounds)) j).drop d).isEmpty = true
    · rw [if_pos q] at same ⊢
      rw [same]
      simp only [Option.bind_some]
      rw [at_el rg.1 (by omega)]
      simp only [Option.bind_some]
      rw [app_one (by omega), wn (by omega)]; rfl
    · rw [if_neg q] at same ⊢
      rw [same]
      simp only [Option.bind_some]
      rw [at_el rg.1 (by omega)]
      simp only [Option.bind_some]
      rw [app_one (by omega), wn (by omega)]; rfl
  · intro b
    simp only [ref15_Reduced.s3, hd]
    rw [nth_lt h.d]
    simp only [Option.bind_some, Int.lt_irrefl, if_false]
theorem refReduced_j (va : Valid a) (h : Exts (exs a.Bounds) d) {dim k : Int} (hk : shapes_inside k 0 4 = true) (hd : w (dim - 1) = d) :
    ref15_Reduced.j1 a dim k (exs a.Bounds) (er d (exs a.Bounds)) = some (if prodE (er d (exs a.Bounds)) > 512 then (⟨[], []⟩, 8) else redAll k (ofExt (er d (exs a.Bounds))) (linesL a d)) := by
  obtain ⟨z1, z2, z3⟩ := prodE_small (xs := er d (exs a.Bounds)) (fun x hx => h.r x (er_mem hx))
  obtain ⟨L1, L2⟩ := linesL_len h
  have h7 := h.len
  have erl := er_len d (exs a.Bounds) h.d
  unfold ref15_Reduced.j1
  rw [refProduct_eq (by omega)]
  simp only [Option.bind_some]
  by_cases hb : prodE (er d (exs a.Bounds)) > 512
  · simp only [hb, if_true]
  · simp only [hb, if_false]
    have ll : (linesL a d).length = (prodE (er d (exs a.Bounds))).toNat := by simp [linesL]
    have lc : prodE (er d (exs a.Bounds)) = ((linesL a d).length : Int) := by omega
    unfold redAll
    rw [loop_scan (step := ref15_Reduced.s2 a dim k (exs a.Bounds) (er d (exs a.Bounds)) (prodE (er d (exs a.Bounds)))) (linesL a d) (fun i b => (i, b)) (fun (_ : Unit) => Sum.inr (⟨[], []⟩, 28)) (fun b => Sum.inl b) (redF k) (fun i b => b.length = i) (a := []) rfl ?_ ?_ rfl (by omega)]
    · cases hs : scanE (redF k) 0 (linesL a d) [] with
      | inl _ => rfl
      | inr b =>
        have := scan_len hs
        simp only [Option.bind_some]
        rw [refOf_eq (by omega)]; rfl
    · intro i hi b hb
      refine ⟨?_, fun b' h => by rw [redF_len h, hb]⟩
      have hi' : (i : Int) < prodE (er d (exs a.Bounds)) := by omega
      obtain ⟨y1, y2⟩ := z3 (by omega)
      have e : (linesL a d)[i] = elsL a d i := by simp [linesL]
      simp only [ref15_Reduced.s2, hi', if_true]
      rw [refIndexes_eq y1 (by omega) (by omega) (by omega)]
      simp only [Option.bind_some]
      rw [refLine va h hi' hd]
      simp only [Option.bind_some]
      rw [value_eq (by have := L2 _ (List.getElem_mem hi); rw [e] at this; omega) (elsL_int va h hi') hk]
      simp only [Option.bind_some, redF, e]
      by_cases q : (foldV k (elsL a d i)).2 = true
      · simp only [q, not_true, if_false, if_true]
        rw [app_one (by omega)]
        simp only [Option.bind_some]
        rw [wn (by omega)]
      · simp only [q, not_false_eq_true, if_true, if_false, Bool.false_eq_true]
    · intro b _
      rw [lc]
      simp only [ref15_Reduced.s2, Int.lt_irrefl, if_false]
end
theorem redAll_len {k : Int} {bs : List api_Bound} {L : List (List Int)} : (redAll k bs L).1.Bounds.length ≤ bs.length ∧ (redAll k bs L).1.Elements.length ≤ L.length := by
  unfold redAll
  cases hs : scanE (redF k) 0 L [] with
  | inl _ => simp
  | inr b => have := scan_len hs; simp at this; simp; omega
theorem Reduced_both {a : api_Array} (hb9 : a.Bounds.length < 16777216) (he : a.Elements.length < 16777215) (dim k : Int) :
    ∃ r, shapes_Reduced a dim k = some r ∧ ref15_Reduced a dim k = some r ∧ r.1.Bounds.length < 16777216 ∧ r.1.Elements.length < 16777216 := by
  unfold shapes_Reduced ref15_Reduced
  rw [arraysErr1 (by omega), refErr_eq (by omega), brokenR]
  simp only [Option.bind_some, cmpOr2, within_eq]
  by_cases hc : (chk a).2 = 0
  · have va := chk_valid hc
    simp only [hc, if_true, not_true, if_false]
    by_cases h1 : shapes_inside dim 0 (a.Bounds.length : Int) = true
    · simp only [h1, if_true, not_true, if_false]
      by_cases h2 : shapes_inside k 0 4 = true
      · simp only [h2, if_true, not_true, if_false]
        by_cases h0 : dim = 0
        · simp only [h0, if_true]
          have ap : app ([] : List (List Int)) [a.Elements] = some [a.Elements] := app_nil (by simp)
          rw [ap]
          simp only [Option.bind_some]
          rw [reduced_j h2 (by simp) (by intro l hl; simp at hl; subst hl; exact he), value_eq he va.int h2]
          simp only [Option.bind_some]
          have rl := redAll_len (k := k) (bs := []) (L := [a.Elements])
          refine ⟨_, rfl, ?_, by simp at rl; simp [rl.1], by simp at rl; omega⟩
          by_cases e : (foldV k a.Elements).2 = true
          · simp only [e, not_true, if_false]
            rw [refOf_eq (by simp)]
            simp [redAll, scanE, redF, e, ofExt]
          · simp only [e, not_false_eq_true, if_true, Bool.false_eq_true]
            simp [redAll, scanE, redF, e]
        · simp only [h0, if_false]
          have hde : dErr a dim = 0 := by
            unfold dErr
            simp only [hc, ne_eq, not_true, if_false]
            have : shapes_inside dim 1 (a.Bounds.length : Int) = true := by simp [shapes_inside] at h1 ⊢; omega
            simp [this]
          obtain ⟨_, d, hd, hdim, ex⟩ := dim_ok hde
          have h7 := ex.len
          have exd := ex.d
          have erl := er_len d (exs a.Bounds) ex.d
          rw [extents_eq' (by omega), refExtents_eq' (by omega)]
          simp only [Option.bind_some]
          unfold slices_Clone_int
          rw [app_nil (by omega), hd]
          simp only [Option.bind_some]
          have del1 : del (exs a.Bounds) (d : Int) dim = some (er d (exs a.Bounds)) := by
            unfold del
            rw [if_pos (by omega), hdim]
            have : ((d : Int) + 1).toNat = d + 1 := by omega
            simp only [Int.toNat_natCast, this]
            rw [er_eq]
          have c1 : cut (exs a.Bounds) 0 (d : Int) = some ((exs a.Bounds).take d) := by unfold cut; rw [if_pos (by omega)]; simp
          have c2 : cut (exs a.Bounds) dim ((exs a.Bounds).length : Int) = some ((exs a.Bounds).drop (d + 1)) := by
            unfold cut; rw [if_pos (by omega), hdim]
            have : ((d : Int) + 1).toNat = d + 1 := by omega
            simp [this]
          rw [del1, c1, c2]
          simp only [Option.bind_some]
          rw [product_eq (by omega), copyInts_eq (by simp; omega)]
          simp only [Option.bind_some]
          have ap : app ((exs a.Bounds).take d) ((exs a.Bounds).drop (d + 1)) = some (er d (exs a.Bounds)) := by unfold app; rw [if_pos (by simp; omega), er_eq]
          rw [ap]
          simp only [Option.bind_some]
          have rj := refReduced_j va ex (dim := dim) h2 hd
          have both : (if ((exs a.Bounds).drop (d + 1)).isEmpty = true then ref15_Reduced.j1 a dim k (exs a.Bounds) ((exs a.Bounds).take d) else ref15_Reduced.j1 a dim k (exs a.Bounds) (er d (exs a.Bounds))) = ref15_Reduced.j1 a dim k (exs a.Bounds) (er d (exs a.Bounds)) := by
            split
            · rename_i q
              rw [List.isEmpty_iff] at q
              have := er_eq d (exs a.Bounds)
              rw [q, List.append_nil] at this
              rw [this]
            · rfl
          rw [both, rj]
          by_cases hp : prodE (er d (exs a.Bounds)) > 512
          · simp only [hp, if_true]
            exact ⟨_, rfl, rfl, by simp, by simp⟩
          · simp only [hp, if_false]
            rw [from_eq (by omega), lines_eq ex]
            simp only [Option.bind_some]
            rw [todo_eq va ex]
            simp only [Option.bind_some]
            obtain ⟨L1, L2⟩ := linesL_len ex
            rw [reduced_j h2 (by omega) (fun l hl => by have := L2 l hl; omega)]
            have rl := redAll_len (k := k) (bs := ofExt (er d (exs a.Bounds))) (L := linesL a d)
            have ol : (ofExt (er d (exs a.Bounds))).length = (er d (exs a.Bounds)).length := by simp [ofExt]
            exact ⟨_, rfl, rfl, by omega, by omega⟩
      · simp only [h2, if_false, not_false_eq_true, if_true, Bool.false_eq_true, show ¬ (15 : Int) = 0 by decide]
        exact ⟨_, rfl, rfl, by simp, by simp⟩
    · simp only [h1, if_false, not_false_eq_true, if_true, Bool.false_eq_true, show ¬ (32 : Int) = 0 by decide]
      exact ⟨_, rfl, rfl, by simp, by simp⟩
  · simp only [hc, if_false, not_false_eq_true, if_true]
    exact ⟨_, rfl, rfl, by simp, by simp⟩
theorem ShapesReduces_true (a : api_Array) (dim k : Int) : law15_ShapesReduces a dim k = some true := by
  unfold law15_ShapesReduces
  rw [awake_eq]
  simp only [Option.bind_some, not_true, if_false]
  by_cases hg : law15_few a = true
  · have fa := few_ok hg
    simp only [hg, not_true, if_false]
    rw [refCopy_eq (by omega) (by omega)]
    simp only [Option.bind_some]
    obtain ⟨r, e1, e2, e3, e4⟩ := Reduced_both (a := a) (by omega) (by omega) dim k
    rw [e1, e2]
    simp only [Option.bind_some]
    rw [is_self e3 e4]
    rfl
  · simp only [hg, not_false_eq_true, if_true, Bool.false_eq_true]
end Go.Sh
