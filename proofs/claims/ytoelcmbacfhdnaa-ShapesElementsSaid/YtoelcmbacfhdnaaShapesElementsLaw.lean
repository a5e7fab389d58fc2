/- What the functions compute answers as the statement says. -/
import Derived.Test.YtoelcmbacfhdnaaShapesElementsSh
set_option linter.all false
namespace Go.Sh
open Go.Lx
set_option linter.unusedVariables false
set_option linter.unusedSimpArgs false
theorem awake_eq : law15_awake = some true := by decide +kernel
theorem lt_len {i n : Nat} (h : i < n) : ((i : Int) < (n : Int)) = True := eq_true (by omega)
theorem not_lt_len (n : Nat) : ((n : Int) < (n : Int)) = False := eq_false (by omega)
theorem copyBounds_eq {p : List api_Bound} (h : p.length ≤ 16777216) : ref15_CopyBounds p = some p := by
  unfold ref15_CopyBounds; rw [app_nil h]; rfl
theorem copyInts_eq {p : List Int} (h : p.length ≤ 16777216) : base_CopyInts p = some p := by
  unfold base_CopyInts; rw [mkSl_len h]; simp [copied_all]
theorem extents_eq {p : List api_Bound} (h : p.length < 16777216) : shapes_extents p = some (p.map shapes_extent) := by
  unfold shapes_extents
  rw [loop_map p shapes_extent (fun i b => (i, b)) (fun b => b) rfl ?_ ?_ (by omega)]
  · rfl
  · intro i hi b hb
    simp only [shapes_extents.s1, lt_len hi, if_true, at_lt hi, Option.bind_some]
    rw [app_one (by omega), wn (by omega)]; rfl
  · intro b; simp only [shapes_extents.s1, not_lt_len, if_false]
theorem refExtents_eq {p : List api_Bound} (h : p.length < 16777216) : ref15_Extents p = some (p.map shapes_extent) := by
  unfold ref15_Extents
  rw [loop_map p shapes_extent (fun i b => (i, b)) (fun b => b) rfl ?_ ?_ (by omega)]
  · rfl
  · intro i hi b hb
    simp only [ref15_Extents.s1, lt_len hi, if_true, at_lt hi, Option.bind_some]
    rw [app_one (by omega), wn (by omega)]; rfl
  · intro b; simp only [ref15_Extents.s1, not_lt_len, if_false]
theorem index_any (p : List Int) (v : Int) (h : p.length < 16777216) : ∃ k : Nat, slices_Index_int p v = some (if p.any (fun x => v == x) = true then (k : Int) else -1) := by
  unfold slices_Index_int
  obtain ⟨k, hk⟩ := loop_any (step := slices_Index_int.s1 p v) p (fun x => v == x) (fun i => Sum.inr i) (Sum.inl ()) (s := 0) rfl (fun i hi => by
    simp only [slices_Index_int.s1, lt_len hi, if_true, at_lt hi, Option.bind_some]
    by_cases e : v = p[i]
    · simp [e]
    · simp only [e, if_false, beq_iff_eq]; rw [wn (by omega)]) (by simp only [slices_Index_int.s1, not_lt_len, if_false]) (by omega)
  refine ⟨k, ?_⟩
  rw [hk]
  by_cases e : p.any (fun x => v == x) = true
  · rw [if_pos e, if_pos e]; rfl
  · rw [if_neg e, if_neg e]; rfl
theorem contains_eq {p : List Int} {v : Int} (h : p.length < 16777216) : slices_Contains_int p v = some (p.any (fun x => v == x)) := by
  unfold slices_Contains_int
  obtain ⟨k, hk⟩ := index_any p v h
  rw [hk]
  by_cases e : p.any (fun x => v == x) = true
  · rw [if_pos e, e]; simp
  · rw [if_neg e, eq_false_of_ne_true e]; rfl
def capP (xs : List Int) : Int := xs.foldl (fun a x => mn (w (a * mn x 513)) 513) 1
def prodE (xs : List Int) : Int := if xs.any (fun x => 0 == x) = true then 0 else capP xs
theorem product_eq {p : List Int} (h : p.length < 16777216) : shapes_product p = some (prodE p) := by
  unfold shapes_product
  rw [loop_fold (step := shapes_product.s1 p) p (fun i b => (b, i)) (fun b => b) (fun a x => mn (w (a * mn x 513)) 513) (fun _ _ => True) (a := 1) rfl ?_ ?_ trivial (by omega)]
  · simp only [Option.bind_some, contains_eq h]
    unfold prodE capP
    split <;> rfl
  · intro i hi b _
    refine ⟨?_, trivial⟩
    simp only [shapes_product.s1, lt_len hi, if_true, at_lt hi, Option.bind_some]
    rw [wn (by omega)]
  · intro b _; simp only [shapes_product.s1, not_lt_len, if_false]
theorem scan_prod : ∀ (xs : List Int) (i : Nat) (a : Int), scanE (ρ := Unit) (fun _ (b : Int) x => if x = 0 then .inl () else .inr (mn (w (b * mn x 513)) 513)) i xs a = (if xs.any (fun x => 0 == x) = true then .inl () else .inr (xs.foldl (fun a x => mn (w (a * mn x 513)) 513) a))
  | [], i, a => rfl
  | x :: xs, i, a => by
    simp only [scanE, List.any_cons, List.foldl_cons]
    by_cases e : x = 0
    · subst e; simp
    · have e' : (0 == x) = false := by simp; exact fun q => e q.symm
      simp only [e, if_false, e', Bool.false_or]
      exact scan_prod xs (i + 1) _
theorem refProduct_eq {p : List Int} (h : p.length < 16777216) : ref15_Product p = some (prodE p) := by
  unfold ref15_Product
  rw [loop_scan (step := ref15_Product.s1 p) p (fun i b => (b, i)) (fun (_ : Unit) => Sum.inr 0) (fun b => Sum.inl b) (fun _ (b : Int) x => if x = 0 then .inl () else .inr (mn (w (b * mn x 513)) 513)) (fun _ _ => True) (a := 1) rfl ?_ ?_ trivial (by omega)]
  · rw [scan_prod]
    unfold prodE capP
    by_cases e : p.any (fun x => 0 == x) = true
    · simp only [e, if_true]; rfl
    · simp only [e, if_false]; rfl
  · intro i hi b _
    refine ⟨?_, fun _ _ => trivial⟩
    simp only [ref15_Product.s1, lt_len hi, if_true, at_lt hi, Option.bind_some]
    by_cases e : p[i] = 0
    · simp only [e, if_true]
    · simp only [e, if_false]; rw [wn (by omega)]
  · intro b _; simp only [ref15_Product.s1, not_lt_len, if_false]
def num (b : api_Bound) : Bool := shapes_isNumber b.Low && shapes_isNumber b.High
def bErr (p : List api_Bound) : Int := if (p.length : Int) > 7 then 32 else if p.any (fun b => !num b) = true then 2 else if p.any (fun b => decide (shapes_extent b > 512)) = true then 8 else if prodE (p.map shapes_extent) > 512 then 8 else 0
theorem within_eq (a b c : Int) : base_Within a b c = shapes_inside a b c := by
  unfold base_Within shapes_inside
  simp only [Bool.not_or, ← decide_not]
  congr 1 <;> exact decide_eq_decide.2 (by omega)
theorem findSome_const {α ρ : Type} {p : α → Bool} {c : ρ} : ∀ xs : List α, xs.findSome? (fun x => if p x = true then some c else none) = if xs.any p = true then some c else none
  | [] => rfl
  | x :: xs => by
    simp only [List.findSome?_cons, List.any_cons]
    by_cases e : p x = true
    · simp [e]
    · simp only [e, if_false, Bool.false_or]; exact findSome_const xs
theorem broken1 (b : Bool) (c : Int) : shapes_broken [shapes_rule.mk b c] = some (if b = true then 0 else c) := by
  unfold shapes_broken
  rw [loop_find (step := shapes_broken.s1 [shapes_rule.mk b c]) [shapes_rule.mk b c] (fun r => if r.holds = true then none else some r.code) (fun c => Sum.inr c) (Sum.inl ()) rfl ?_ ?_ (by simp)]
  · cases b <;> rfl
  · intro i hi
    simp only [shapes_broken.s1, lt_len hi, if_true, at_lt hi, Option.bind_some]
    have : i = 0 := by simpa using hi
    subst this
    cases b <;> simp [w, IntKind.wrap] <;> rfl
  · rfl
theorem cmpOr2 (a b : Int) : cmp_Or_api_Errno [a, b] = some (if a = 0 then b else a) := by
  unfold cmp_Or_api_Errno
  rw [loop_find (step := cmp_Or_api_Errno.s1 [a, b]) [a, b] (fun x => if x = 0 then none else some x) (fun c => Sum.inr c) (Sum.inl ()) rfl ?_ ?_ (by simp)]
  · by_cases h1 : a = 0
    · by_cases h2 : b = 0
      · simp [h1, h2]
      · simp [h1, h2]
    · simp [h1]
  · intro i hi
    simp only [cmp_Or_api_Errno.s1, lt_len hi, if_true, at_lt hi, Option.bind_some]
    by_cases e : [a, b][i] = 0
    · simp only [e, not_true, if_false, if_true]; rw [wn (by simp at hi; omega)]
    · simp only [e, not_false_eq_true, if_true, if_false]
  · simp only [cmp_Or_api_Errno.s1, not_lt_len, if_false]
theorem index1_eq (p : List api_Bound) (h : p.length < 16777216) : slices_ContainsFunc_api_Bound__shapes_boundsErr_c1 p = some (p.any (fun b => !num b)) := by
  unfold slices_ContainsFunc_api_Bound__shapes_boundsErr_c1 slices_IndexFunc_api_Bound__shapes_boundsErr_c1
  obtain ⟨k, hk⟩ := loop_any (step := slices_IndexFunc_api_Bound__shapes_boundsErr_c1.s1 p) p (fun b => !num b) (fun i => Sum.inr i) (Sum.inl ()) (s := 0) rfl (fun i hi => by
    simp only [slices_IndexFunc_api_Bound__shapes_boundsErr_c1.s1, lt_len hi, if_true, at_lt hi, Option.bind_some]
    have : shapes_boundsErr_c1 p[i] = !num p[i] := by unfold shapes_boundsErr_c1 num; simp
    rw [this, wn (by omega)]; split <;> rfl) (by simp only [slices_IndexFunc_api_Bound__shapes_boundsErr_c1.s1, not_lt_len, if_false]) (by omega)
  rw [hk]
  by_cases e : p.any (fun b => !num b) = true
  · rw [if_pos e, e]; simp
  · rw [if_neg e, eq_false_of_ne_true e]; rfl
theorem index2_eq (p : List api_Bound) (h : p.length < 16777216) : slices_ContainsFunc_api_Bound__shapes_boundsErr_c2 p = some (p.any (fun b => decide (shapes_extent b > 512))) := by
  unfold slices_ContainsFunc_api_Bound__shapes_boundsErr_c2 slices_IndexFunc_api_Bound__shapes_boundsErr_c2
  obtain ⟨k, hk⟩ := loop_any (step := slices_IndexFunc_api_Bound__shapes_boundsErr_c2.s1 p) p (fun b => decide (shapes_extent b > 512)) (fun i => Sum.inr i) (Sum.inl ()) (s := 0) rfl (fun i hi => by
    simp only [slices_IndexFunc_api_Bound__shapes_boundsErr_c2.s1, lt_len hi, if_true, at_lt hi, Option.bind_some]
    unfold shapes_boundsErr_c2
    rw [wn (by omega)]; split <;> rfl) (by simp only [slices_IndexFunc_api_Bound__shapes_boundsErr_c2.s1, not_lt_len, if_false]) (by omega)
  rw [hk]
  by_cases e : p.any (fun b => decide (shapes_extent b > 512)) = true
  · rw [if_pos e, e]; simp
  · rw [if_neg e, eq_false_of_ne_true e]; rfl
theorem size_eq {p : List api_Bound} (h : p.length < 16777216) : shapes_size p = some (prodE (p.map shapes_extent)) := by
  unfold shapes_size
  rw [extents_eq h]; simp only [Option.bind_some]
  rw [product_eq (by simpa using h)]; rfl
theorem boundsErr_eq (p : List api_Bound) : shapes_boundsErr p = some (bErr p) := by
  unfold shapes_boundsErr bErr
  by_cases h7 : (p.length : Int) > 7
  · simp only [h7, if_true]
  · have h : p.length < 16777216 := by omega
    simp only [h7, if_false, index1_eq p h, index2_eq p h, size_eq h, broken1, Option.bind_some]
    by_cases e1 : p.any (fun b => !num b) = true
    · simp only [e1, if_true]
    · simp only [e1, if_false]
      by_cases e2 : p.any (fun b => decide (shapes_extent b > 512)) = true
      · simp [e2]
      · simp only [e2, if_false]
        by_cases e3 : prodE (p.map shapes_extent) > 512
        · have : ¬ prodE (p.map shapes_extent) ≤ 512 := by omega
          simp [e3, this]
        · have : prodE (p.map shapes_extent) ≤ 512 := by omega
          simp [e3, this]
theorem refBoundsErr_eq (p : List api_Bound) : ref15_BoundsErr p = some (bErr p) := by
  unfold ref15_BoundsErr bErr
  by_cases h7 : (p.length : Int) > 7
  · simp only [h7, if_true]
  · have h : p.length < 16777216 := by omega
    simp only [h7, if_false, refExtents_eq h, Option.bind_some]
    rw [loop_find (step := ref15_BoundsErr.s1 p) p (fun b => if (!num b) = true then some (2 : Int) else none) (fun c => Sum.inr c) (Sum.inl ()) rfl ?_ ?_ (by omega), findSome_const]
    · by_cases e1 : p.any (fun b => !num b) = true
      · simp only [e1, if_true, Option.bind_some]
      · simp only [e1, if_false, Option.bind_some]
        rw [loop_find (step := ref15_BoundsErr.s2 (p.map shapes_extent)) (p.map shapes_extent) (fun x => if (decide (x > 512)) = true then some (8 : Int) else none) (fun c => Sum.inr c) (Sum.inl ()) rfl ?_ ?_ (by simp; omega), findSome_const, List.any_map]
        · by_cases e2 : p.any (fun b => decide (shapes_extent b > 512)) = true
          · have e2' : p.any ((fun x => decide (x > 512)) ∘ shapes_extent) = true := e2
            simp only [e2, e2', if_true, Option.bind_some, Bool.false_eq_true, if_false]
          · have e2' : ¬ p.any ((fun x => decide (x > 512)) ∘ shapes_extent) = true := e2
            simp only [e2, e2', if_false, Option.bind_some, Bool.false_eq_true]
            rw [refProduct_eq (by simpa using h)]
            simp only [Option.bind_some]
            split <;> rfl
        · intro i hi
          simp only [ref15_BoundsErr.s2, lt_len hi, if_true, at_lt hi, Option.bind_some]
          by_cases e : (p.map shapes_extent)[i] > 512
          · simp only [e, if_true, decide_true]
          · simp only [e, if_false, decide_false, Bool.false_eq_true]; rw [wn (by simp at hi; omega)]
        · simp only [ref15_BoundsErr.s2, not_lt_len, if_false]
    · intro i hi
      simp only [ref15_BoundsErr.s1, lt_len hi, if_true, at_lt hi, Option.bind_some, ref15_isBound, within_eq, num, shapes_isNumber]
      rw [wn (by omega)]
      by_cases e1 : shapes_inside p[i].Low (-2147483647) 2147483647 = true
      · by_cases e2 : shapes_inside p[i].High (-2147483647) 2147483647 = true
        · simp [e1, e2]
        · simp [e1, e2]
      · simp [e1]
    · simp only [ref15_BoundsErr.s1, not_lt_len, if_false]
end Go.Sh
namespace Go.Sh
open Go.Lx
set_option linter.unusedVariables false
set_option linter.unusedSimpArgs false
theorem before_eq : ∀ (n : Nat) (a b : List Int), a.length < n → n ≤ 16777217 → b.length < 16777216 → ∃ r, base_Before.N n a b = some r ∧ (r = true → a ≠ b)
  | 0, a, b, h, _, _ => absurd h (Nat.not_lt_zero _)
  | n + 1, a, b, h, hn, hb => by
    show ∃ r, base_Before.F (base_Before.N n) a b = some r ∧ _
    unfold base_Before.F
    match a, b with
    | [], b => exact ⟨_, rfl, fun h => by simp at h; intro q; subst q; simp at h⟩
    | x :: a, [] => exact ⟨_, rfl, fun h => by simp at h; omega⟩
    | x :: a, y :: b =>
      have e0 : ¬ ((((x :: a).length : Int) == 0) || (((y :: b).length : Int) == 0)) = true := by simp; omega
      have c1 : cut (x :: a) 1 ((x :: a).length : Int) = some a := by unfold cut; rw [if_pos (by simp; omega)]; simp
      have c2 : cut (y :: b) 1 ((y :: b).length : Int) = some b := by unfold cut; rw [if_pos (by simp; omega)]; simp
      have a1 : at_ (x :: a) 0 = some x := rfl
      have a2 : at_ (y :: b) 0 = some y := rfl
      rw [if_neg e0]
      simp only [a1, a2, Option.bind_some]
      by_cases h1 : x < y
      · exact ⟨true, by simp [h1], fun _ q => by simp at q; omega⟩
      · by_cases h2 : x = y
        · obtain ⟨r, h3, h4⟩ := before_eq n a b (by simp at h; omega) (by omega) (by simp at hb; omega)
          refine ⟨r, ?_, fun hr q => h4 hr (by simp at q; exact q.2)⟩
          subst h2
          rw [if_neg h1, if_pos rfl, c1, c2]
          simp only [Option.bind_some, h3]
        · exact ⟨false, by simp [h1, h2], fun q => by cases q⟩
theorem before_tri : ∀ (n m : Nat) (a b : List Int), base_Before.N n a b = some false → base_Before.N m b a = some false → a.length = b.length → a = b
  | 0, m, a, b, h, _, _ => by cases h
  | n + 1, 0, a, b, _, h, _ => by cases h
  | n + 1, m + 1, a, b, h, k, hl => by
    change base_Before.F (base_Before.N n) a b = some false at h
    change base_Before.F (base_Before.N m) b a = some false at k
    unfold base_Before.F at h k
    match a, b, hl with
    | [], [], _ => rfl
    | x :: a, y :: b, hl =>
      have e0 : ¬ ((((x :: a).length : Int) == 0) || (((y :: b).length : Int) == 0)) = true := by simp; omega
      have e1 : ¬ ((((y :: b).length : Int) == 0) || (((x :: a).length : Int) == 0)) = true := by simp; omega
      have c1 : cut (x :: a) 1 ((x :: a).length : Int) = some a := by unfold cut; rw [if_pos (by simp; omega)]; simp
      have c2 : cut (y :: b) 1 ((y :: b).length : Int) = some b := by unfold cut; rw [if_pos (by simp; omega)]; simp
      have a1 : at_ (x :: a) 0 = some x := rfl
      have a2 : at_ (y :: b) 0 = some y := rfl
      rw [if_neg e0] at h
      rw [if_neg e1] at k
      simp only [a1, a2, Option.bind_some, c1, c2] at h k
      by_cases h1 : x < y
      · simp [h1] at h
      · by_cases h2 : y < x
        · simp [h2] at k
        · have h3 : x = y := by omega
          subst h3
          simp only [h1, if_false, if_true] at h k
          obtain ⟨r, hr, h⟩ := Option.bind_eq_some_iff.1 h
          obtain ⟨r', hr', k⟩ := Option.bind_eq_some_iff.1 k
          cases h
          cases k
          rw [before_tri n m a b hr hr' (by simpa using hl)]
theorem ints_eq {a b : List Int} (ha : a.length < 16777216) (hb : b.length < 16777216) : base_Ints a b = some (a == b) := by
  unfold base_Ints
  have hF : (16777217 : Nat) ≤ FUEL := by unfold FUEL; omega
  have step : ∀ (n : Nat) (a b : List Int) (r : Bool), base_Before.N n a b = some r → base_Before.N (n + 1) a b = some r := by
    intro n
    induction n with
    | zero => intro a b r h; cases h
    | succ n ih =>
      intro a b r h
      change base_Before.F (base_Before.N n) a b = some r at h
      show base_Before.F (base_Before.N (n + 1)) a b = some r
      unfold base_Before.F at h ⊢
      split
      · rename_i hc; rw [if_pos hc] at h; exact h
      · rename_i hc
        rw [if_neg hc] at h
        obtain ⟨x4, h4, h⟩ := Option.bind_eq_some_iff.1 h
        obtain ⟨x5, h5, h⟩ := Option.bind_eq_some_iff.1 h
        rw [h4, h5]
        simp only [Option.bind_some]
        split
        · rename_i hd; rw [if_pos hd] at h; exact h
        · rename_i hd
          rw [if_neg hd] at h
          rw [h4, h5] at h
          simp only [Option.bind_some] at h ⊢
          split
          · rename_i he
            rw [if_pos he] at h
            obtain ⟨x6, h6, h⟩ := Option.bind_eq_some_iff.1 h
            obtain ⟨x7, h7, h⟩ := Option.bind_eq_some_iff.1 h
            obtain ⟨x8, h8, h⟩ := Option.bind_eq_some_iff.1 h
            rw [h6, h7]
            simp only [Option.bind_some]
            rw [ih _ _ _ h8]
            exact h
          · rename_i he; rw [if_neg he] at h; exact h
  have up : ∀ (n m : Nat) (a b : List Int) (r : Bool), n ≤ m → base_Before.N n a b = some r → base_Before.N m a b = some r := by
    intro n m a b r hnm h
    induction hnm with
    | refl => exact h
    | step _ ih => exact step _ _ _ _ ih
  have get : ∀ a b : List Int, a.length < 16777216 → b.length < 16777216 → ∃ r, base_Before a b = some r ∧ (r = true → a ≠ b) := by
    intro a b ha hb
    obtain ⟨r, h1, h2⟩ := before_eq 16777217 a b (by omega) (Nat.le_refl _) hb
    exact ⟨r, up _ _ _ _ _ hF h1, h2⟩
  by_cases hl : (a.length : Int) = (b.length : Int)
  · rw [if_pos hl]
    obtain ⟨r, h1, h2⟩ := get a b ha hb
    obtain ⟨r', h3, h4⟩ := get b a hb ha
    rw [h1, h3]
    simp only [Option.bind_some]
    cases r with
    | true => simp; exact h2 rfl
    | false =>
      cases r' with
      | true => simp; exact fun q => h4 rfl q.symm
      | false => simp; exact before_tri _ _ _ _ h1 h3 (by omega)
  · rw [if_neg hl]
    have : a ≠ b := fun q => hl (by rw [q])
    simp [this]
end Go.Sh
namespace Go.Sh
open Go.Lx
set_option linter.unusedVariables false
set_option linter.unusedSimpArgs false
def P : List Int → Int
  | [] => 1
  | x :: xs => x * P xs
def H : List Int → List Int → Int
  | e :: es, d :: ds => d + e * H es ds
  | _, _ => 0
def dig : List Int → Int → List Int
  | [], _ => []
  | e :: es, n => n % e :: dig es (n / e)
def inBase : List Int → List Int → Prop
  | e :: es, d :: ds => 0 ≤ d ∧ d < e ∧ inBase es ds
  | [], [] => True
  | _, _ => False
theorem P_pos : ∀ {es : List Int}, (∀ e, e ∈ es → 1 ≤ e) → 1 ≤ P es
  | [], _ => Int.le_refl 1
  | e :: es, h => by
    have h1 := h e (.head _)
    have h2 := P_pos (es := es) fun x hx => h x (.tail _ hx)
    have := Int.mul_le_mul h1 h2 (by omega) (by omega)
    simpa [P] using this
theorem P_head {e : Int} {es : List Int} (h : ∀ x, x ∈ e :: es → 1 ≤ x) : e ≤ P (e :: es) := by
  have h1 := h e (.head _)
  have h2 := P_pos (es := es) fun x hx => h x (.tail _ hx)
  have := Int.mul_le_mul (Int.le_refl e) h2 (by omega) (by omega)
  simpa [P] using this
theorem P_tail {e : Int} {es : List Int} (h : ∀ x, x ∈ e :: es → 1 ≤ x) : P es ≤ P (e :: es) := by
  have h1 := h e (.head _)
  have h2 := P_pos (es := es) fun x hx => h x (.tail _ hx)
  have := Int.mul_le_mul h1 (Int.le_refl (P es)) (by omega) (by omega)
  simpa [P] using this
theorem inBase_pos : ∀ {es ds : List Int}, inBase es ds → ∀ e, e ∈ es → 1 ≤ e
  | [], _, _, e, h => by cases h
  | e :: es, [], h, _, _ => by cases h
  | e :: es, d :: ds, ⟨h1, h2, h3⟩, x, hx => by
    cases hx with
    | head => omega
    | tail _ hx => exact inBase_pos h3 x hx
theorem H_range : ∀ {es ds : List Int}, inBase es ds → 0 ≤ H es ds ∧ H es ds < P es
  | [], [], _ => by simp [H, P]
  | [], _ :: _, h => by cases h
  | e :: es, [], h => by cases h
  | e :: es, d :: ds, ⟨h1, h2, h3⟩ => by
    obtain ⟨i1, i2⟩ := H_range h3
    have a1 : 0 ≤ e * H es ds := Int.mul_nonneg (by omega) i1
    have a2 : e * H es ds ≤ e * (P es - 1) := Int.mul_le_mul_of_nonneg_left (by omega) (by omega)
    rw [Int.mul_sub, Int.mul_one] at a2
    simp only [H, P]
    omega
theorem dig_H : ∀ {es ds : List Int}, inBase es ds → dig es (H es ds) = ds
  | [], [], _ => rfl
  | [], _ :: _, h => by cases h
  | e :: es, [], h => by cases h
  | e :: es, d :: ds, ⟨h1, h2, h3⟩ => by
    have q1 : (d + e * H es ds) % e = d := by rw [Int.add_mul_emod_self_left]; exact Int.emod_eq_of_lt h1 h2
    have q2 : (d + e * H es ds) / e = H es ds := by
      rw [Int.add_mul_ediv_left _ _ (by omega), Int.ediv_eq_zero_of_lt h1 h2]; omega
    simp only [H, dig, q1, q2, dig_H h3]
theorem dig_ok : ∀ {es : List Int} {n : Int}, (∀ e, e ∈ es → 1 ≤ e) → 0 ≤ n → n < P es → inBase es (dig es n) ∧ H es (dig es n) = n
  | [], n, _, h1, h2 => by simp [P] at h2; simp [inBase, dig, H]; omega
  | e :: es, n, h, h1, h2 => by
    have he := h e (.head _)
    have g1 : 0 ≤ n / e := Int.ediv_nonneg h1 (by omega)
    have g2 : n / e < P es := Int.ediv_lt_of_lt_mul (by omega) (by simp only [P] at h2; rw [Int.mul_comm]; exact h2)
    obtain ⟨i1, i2⟩ := dig_ok (es := es) (fun x hx => h x (.tail _ hx)) g1 g2
    refine ⟨⟨Int.emod_nonneg _ (by omega), Int.emod_lt_of_pos _ (by omega), i1⟩, ?_⟩
    simp only [dig, H, i2]
    exact Int.emod_add_mul_ediv n e
theorem dig_len : ∀ (es : List Int) (n : Int), (dig es n).length = es.length
  | [], n => rfl
  | e :: es, n => by simp [dig, dig_len es]
theorem P_zero : ∀ {es : List Int}, (∃ e, e ∈ es ∧ e = 0) → P es = 0
  | [], h => by obtain ⟨e, h, _⟩ := h; cases h
  | e :: es, h => by
    obtain ⟨x, hx, rfl⟩ := h
    cases hx with
    | head => simp [P]
    | tail _ hx => rw [P, P_zero ⟨0, hx, rfl⟩]; simp
theorem min_mul {a b m : Int} (ha : 1 ≤ a) (hb : 1 ≤ b) (hm : 0 ≤ m) : min (min a m * b) m = min (a * b) m := by
  rcases Int.le_total a m with h | h
  · rw [Int.min_eq_left h]
  · rw [Int.min_eq_right h]
    have h1 : m * 1 ≤ m * b := Int.mul_le_mul_of_nonneg_left hb hm
    have h2 : m * b ≤ a * b := Int.mul_le_mul_of_nonneg_right h (by omega)
    omega
theorem capP_eq : ∀ {xs : List Int} {a : Int}, (∀ x, x ∈ xs → 1 ≤ x ∧ x ≤ 512) → 1 ≤ a → a ≤ 513 → xs.foldl (fun a x => mn (w (a * mn x 513)) 513) a = min (a * P xs) 513
  | [], a, _, h1, h2 => by simp [P]; omega
  | x :: xs, a, h, h1, h2 => by
    obtain ⟨g1, g2⟩ := h x (.head _)
    have m1 : mn x 513 = x := by unfold mn; rw [if_neg (by omega)]
    have b1 : 1 * 1 ≤ a * x := Int.mul_le_mul h1 g1 (by omega) (by omega)
    have b2 : a * x ≤ 513 * 512 := Int.mul_le_mul h2 g2 (by omega) (by omega)
    have m2 : mn (w (a * x)) 513 = min (a * x) 513 := by
      rw [w_id (by omega) (by omega)]; unfold mn; split <;> omega
    rw [List.foldl_cons, m1, m2, capP_eq (fun y hy => h y (.tail _ hy)) (by omega) (by omega)]
    have hp := P_pos (es := xs) fun y hy => (h y (.tail _ hy)).1
    rw [min_mul (by omega) hp (by omega), P, Int.mul_assoc]
structure Ok (p : List api_Bound) : Prop where
  len : p.length ≤ 7
  num : ∀ b, b ∈ p → num b = true
  big : ∀ b, b ∈ p → shapes_extent b ≤ 512
  pos : ∀ b, b ∈ p → 0 ≤ shapes_extent b
  sz : prodE (p.map shapes_extent) ≤ 512
theorem ext_nonneg (b : api_Bound) : 0 ≤ shapes_extent b := by unfold shapes_extent mx; split <;> omega
theorem bErr_ok {p : List api_Bound} (h : bErr p = 0) : Ok p := by
  unfold bErr at h
  split at h
  · cases h
  split at h
  · cases h
  split at h
  · cases h
  split at h
  · cases h
  rename_i h1 h2 h3 h4
  refine ⟨by omega, fun b hb => ?_, fun b hb => ?_, fun b _ => ext_nonneg b, by omega⟩
  · simp only [List.any_eq_true, not_exists, not_and, Bool.not_eq_true', Bool.not_eq_false] at h2
    exact h2 b hb
  · simp only [List.any_eq_true, not_exists, not_and, decide_eq_true_eq] at h3
    have := h3 b hb
    omega
theorem num_range {b : api_Bound} (h : num b = true) : -2147483647 ≤ b.Low ∧ b.Low ≤ 2147483647 ∧ -2147483647 ≤ b.High ∧ b.High ≤ 2147483647 := by
  simp [num, shapes_isNumber, shapes_inside] at h
  omega
theorem ext_num {b : api_Bound} (h : num b = true) : shapes_extent b = max 0 (b.High - b.Low + 1) := by
  have := num_range h
  unfold shapes_extent mx
  rw [w_id (n := b.High - b.Low) (by omega) (by omega), w_id (by omega) (by omega)]
  split <;> omega
theorem prodE_P {xs : List Int} (h : ∀ x, x ∈ xs → 0 ≤ x ∧ x ≤ 512) (hs : prodE xs ≤ 512) : prodE xs = P xs ∧ 0 ≤ P xs := by
  unfold prodE at hs ⊢
  by_cases h0 : xs.any (fun x => 0 == x) = true
  · rw [if_pos h0]
    have : P xs = 0 := P_zero (by
      simp only [List.any_eq_true, beq_iff_eq] at h0
      obtain ⟨x, h1, h2⟩ := h0
      exact ⟨x, h1, h2.symm⟩)
    omega
  · rw [if_neg h0] at hs ⊢
    have hx : ∀ x, x ∈ xs → 1 ≤ x ∧ x ≤ 512 := fun x hx => by
      obtain ⟨h1, h2⟩ := h x hx
      simp only [List.any_eq_true, not_exists, not_and, beq_iff_eq] at h0
      have := h0 x hx
      omega
    have := capP_eq (a := 1) hx (by omega) (by omega)
    unfold capP at hs ⊢
    have hp := P_pos fun x hq => (hx x hq).1
    omega
theorem Ok.size {p : List api_Bound} (h : Ok p) : prodE (p.map shapes_extent) = P (p.map shapes_extent) ∧ 0 ≤ P (p.map shapes_extent) ∧ P (p.map shapes_extent) ≤ 512 := by
  have := prodE_P (xs := p.map shapes_extent) (fun x hx => by
    obtain ⟨b, hb, rfl⟩ := List.mem_map.1 hx
    exact ⟨h.pos b hb, h.big b hb⟩) h.sz
  have hs := h.sz
  omega
def allIn : List api_Bound → List Int → Bool
  | b :: bs, x :: xs => shapes_inside x b.Low b.High && allIn bs xs
  | _, _ => true
def dsOf (bs : List api_Bound) (xs : List Int) : List Int := (xs.zip bs).map fun p => w (p.1 - p.2.Low)
def exs (bs : List api_Bound) : List Int := bs.map shapes_extent
theorem exs_cons {b : api_Bound} {bs : List api_Bound} : exs (b :: bs) = shapes_extent b :: exs bs := rfl
theorem dsOf_cons {b : api_Bound} {bs : List api_Bound} {x : Int} {xs : List Int} : dsOf (b :: bs) (x :: xs) = w (x - b.Low) :: dsOf bs xs := rfl
theorem inside_d {b : api_Bound} {x : Int} (hn : num b = true) (h : shapes_inside x b.Low b.High = true) : w (x - b.Low) = x - b.Low ∧ 0 ≤ x - b.Low ∧ x - b.Low < shapes_extent b := by
  have := num_range hn
  have he := ext_num hn
  simp [shapes_inside] at h
  refine ⟨w_id (by omega) (by omega), by omega, by omega⟩
theorem allIn_base : ∀ {bs : List api_Bound} {xs : List Int}, bs.length = xs.length → (∀ b, b ∈ bs → num b = true) → allIn bs xs = true → inBase (exs bs) (dsOf bs xs)
  | [], [], _, _, _ => trivial
  | b :: bs, x :: xs, hl, hn, h => by
    simp only [allIn, Bool.and_eq_true] at h
    obtain ⟨h1, h2, h3⟩ := inside_d (hn b (.head _)) h.1
    refine ⟨by show 0 ≤ w (x - b.Low); rw [h1]; exact h2, by show w (x - b.Low) < _; rw [h1]; exact h3, allIn_base (by simpa using hl) (fun c hc => hn c (.tail _ hc)) h.2⟩
  | [], _ :: _, hl, _, _ => by cases hl
  | _ :: _, [], hl, _, _ => by cases hl
def str : Int → List Int → List Int
  | _, [] => []
  | s, e :: es => s :: str (w (s * e)) es
theorem str_len : ∀ (es : List Int) (s : Int), (str s es).length = es.length
  | [], s => rfl
  | e :: es, s => by simp [str, str_len es]
theorem str_fold : ∀ (es : List Int) (s : Int) (acc : List Int), (es.foldl (fun (b : Int × List Int) e => (w (b.1 * e), b.2 ++ [b.1])) (s, acc)).2 = acc ++ str s es
  | [], s, acc => by simp [str]
  | e :: es, s, acc => by rw [List.foldl_cons, str_fold es]; simp [str]
theorem strides_eq {p : List Int} (h : p.length < 16777216) : shapes_strides p = some (str 1 p) := by
  unfold shapes_strides
  rw [loop_fold (step := shapes_strides.s1 p) p (fun i (b : Int × List Int) => (b.1, i, b.2)) (fun b => b.2) (fun b e => (w (b.1 * e), b.2 ++ [b.1])) (fun i b => b.2.length = i) (a := (1, [])) rfl ?_ ?_ rfl (by omega)]
  · simp only [Option.bind_some]; rw [str_fold]; rfl
  · intro i hi b hb
    refine ⟨?_, by simp [hb]⟩
    simp only [shapes_strides.s1, lt_len hi, if_true, at_lt hi, Option.bind_some]
    rw [app_one (by omega), wn (by omega)]; rfl
  · intro b _; simp only [shapes_strides.s1, not_lt_len, if_false]
def offF (_ : Nat) (a : Int) (t : Int × api_Bound × Int) : Sum Unit Int := if shapes_inside t.1 t.2.1.Low t.2.1.High = true then .inr (w (a + w (t.2.2 * w (t.1 - t.2.1.Low)))) else .inl ()
theorem scan_off : ∀ (bs : List api_Bound) (xs : List Int) (s a : Int) (i : Nat), bs.length = xs.length → (∀ b, b ∈ bs → num b = true) →
    (allIn bs xs = false → scanE offF i (xs.zip (bs.zip (str s (exs bs)))) a = .inl ()) ∧
    (allIn bs xs = true → 1 ≤ s → s * P (exs bs) ≤ 512 → 0 ≤ a → a + 512 * bs.length ≤ 5000 → scanE offF i (xs.zip (bs.zip (str s (exs bs)))) a = .inr (a + s * H (exs bs) (dsOf bs xs)))
  | [], [], s, a, i, _, _ => ⟨fun h => (by cases h), fun _ _ _ _ _ => by simp [scanE, exs, dsOf, H]⟩
  | [], _ :: _, _, _, _, hl, _ => by cases hl
  | _ :: _, [], _, _, _, hl, _ => by cases hl
  | b :: bs, x :: xs, s, a, i, hl, hn => by
    have ih := fun s a => scan_off bs xs s a (i + 1) (by simpa using hl) (fun c hc => hn c (.tail _ hc))
    simp only [exs_cons, str, List.zip_cons_cons, scanE]
    by_cases hi : shapes_inside x b.Low b.High = true
    · have hf : offF i a (x, b, s) = .inr (w (a + w (s * w (x - b.Low)))) := by unfold offF; rw [if_pos hi]
      rw [hf]
      refine ⟨fun h => (ih _ _).1 (by simpa [allIn, hi] using h), fun h h1 h2 h3 h4 => ?_⟩
      have ha : allIn bs xs = true := by simpa [allIn, hi] using h
      obtain ⟨d1, d2, d3⟩ := inside_d (hn b (.head _)) hi
      have hb := allIn_base (by simpa using hl) (fun c hc => hn c (.tail _ hc)) ha
      have hp : 1 ≤ P (exs bs) := P_pos (inBase_pos hb)
      have e0 : s * P (shapes_extent b :: exs bs) = s * shapes_extent b * P (exs bs) := by simp [P, Int.mul_assoc]
      have e1 : 1 * 1 ≤ s * shapes_extent b := Int.mul_le_mul h1 (by omega) (by omega) (by omega)
      have e2 : s * shapes_extent b * 1 ≤ s * shapes_extent b * P (exs bs) := Int.mul_le_mul_of_nonneg_left hp (by omega)
      have e3 : s * (x - b.Low) ≤ s * shapes_extent b := Int.mul_le_mul_of_nonneg_left (by omega) (by omega)
      have e4 : 0 ≤ s * (x - b.Low) := Int.mul_nonneg (by omega) d2
      rw [e0] at h2
      simp only [List.length_cons] at h4
      have w1 : w (s * shapes_extent b) = s * shapes_extent b := w_id (by omega) (by omega)
      have w2 : w (s * w (x - b.Low)) = s * (x - b.Low) := by rw [d1]; exact w_id (by omega) (by omega)
      have w3 : w (a + s * (x - b.Low)) = a + s * (x - b.Low) := w_id (by omega) (by omega)
      simp only [w1, w2, w3]
      have := (ih (s * shapes_extent b) (a + s * (x - b.Low))).2 ha (by omega) h2 (by omega) (by omega)
      rw [this, dsOf_cons, H, d1, Int.mul_add, ← Int.mul_assoc, Int.add_assoc]
    · have hf : offF i a (x, b, s) = .inl () := by unfold offF; rw [if_neg hi]
      rw [hf]
      exact ⟨fun _ => rfl, fun h => by simp [allIn, hi] at h⟩
def offE (bs : List api_Bound) (xs : List Int) : Int := if bErr bs ≠ 0 then bErr bs else if (xs.length : Int) ≠ (bs.length : Int) then 32 else if allIn bs xs = true then 0 else 33
def off (bs : List api_Bound) (xs : List Int) : Int := H (exs bs) (dsOf bs xs)
theorem offsetOf_eq (bs : List api_Bound) (xs : List Int) (hx : xs.length < 16777216) : shapes_OffsetOf bs xs = some (if offE bs xs = 0 then (off bs xs, 0) else (0, offE bs xs)) := by
  unfold shapes_OffsetOf offE
  rw [boundsErr_eq, broken1]
  simp only [Option.bind_some, cmpOr2]
  by_cases hb : bErr bs = 0
  · have ok := bErr_ok hb
    simp only [hb, if_true, ne_eq, not_true, if_false]
    by_cases hl : (xs.length : Int) = (bs.length : Int)
    · have hll : bs.length = xs.length := by omega
      simp only [hl, beq_self_eq_true, if_true, not_true, if_false]
      rw [extents_eq (by have := ok.len; omega)]
      simp only [Option.bind_some]
      rw [strides_eq (by have := ok.len; simp; omega)]
      simp only [Option.bind_some]
      have hlen : (xs.zip (bs.zip (str 1 (bs.map shapes_extent)))).length = xs.length := by simp [str_len]; omega
      rw [loop_scan (step := shapes_OffsetOf.s1 bs xs (str 1 (bs.map shapes_extent))) (xs.zip (bs.zip (str 1 (bs.map shapes_extent)))) (fun i b => (b, i)) (fun (_ : Unit) => Sum.inr (0, 33)) (fun b => Sum.inl b) offF (fun _ _ => True) (a := 0) rfl ?_ ?_ trivial (by rw [hlen]; omega)]
      · obtain ⟨s1, s2⟩ := scan_off bs xs 1 0 0 hll ok.num
        simp only [exs] at s1 s2
        by_cases ha : allIn bs xs = true
        · have := ok.size
          have hl7 := ok.len
          rw [s2 ha (by omega) (by omega) (by omega) (by omega)]
          simp [ha, off, exs]
        · rw [s1 (eq_false_of_ne_true ha)]
          simp [ha]
      · intro i hi b _
        refine ⟨?_, fun _ _ => trivial⟩
        rw [hlen] at hi
        have h1 : i < bs.length := by omega
        have h2 : i < (str 1 (bs.map shapes_extent)).length := by simp [str_len]; omega
        simp only [shapes_OffsetOf.s1, hl, lt_len h1, if_true, at_lt hi, at_lt h1, at_lt h2, Option.bind_some, List.getElem_zip, offF]
        by_cases hq : shapes_inside xs[i] bs[i].Low bs[i].High = true
        · simp only [hq, not_true, if_false, if_true]; rw [wn (by omega)]
        · simp only [hq, not_false_eq_true, if_true, if_false, Bool.false_eq_true]
      · intro b _
        rw [hlen]
        simp only [shapes_OffsetOf.s1, not_lt_len, if_false]
    · have hl' : ((xs.length : Int) == (bs.length : Int)) = false := by simp; omega
      simp [hl, hl']
  · simp [hb]
theorem refOffsetErr_eq (bs : List api_Bound) (xs : List Int) : ref15_OffsetErr bs xs = some (offE bs xs) := by
  unfold ref15_OffsetErr offE
  rw [refBoundsErr_eq]
  simp only [Option.bind_some]
  by_cases hb : bErr bs = 0
  · have ok := bErr_ok hb
    have hl7 := ok.len
    simp only [hb, if_true, ne_eq, not_true, if_false]
    by_cases hl : (xs.length : Int) = (bs.length : Int)
    · have hll : bs.length = xs.length := by omega
      simp only [hl, not_true, if_false]
      have hlen : (bs.zip xs).length = bs.length := by simp; omega
      rw [loop_find (step := ref15_OffsetErr.s1 bs xs) (bs.zip xs) (fun p => if (!shapes_inside p.2 p.1.Low p.1.High) = true then some (33 : Int) else none) (fun c => Sum.inr c) (Sum.inl ()) rfl ?_ ?_ (by omega), findSome_const]
      · have key : ∀ (bs : List api_Bound) (xs : List Int), ((bs.zip xs).any fun p => !shapes_inside p.2 p.1.Low p.1.High) = !allIn bs xs := by
          intro bs
          induction bs with
          | nil => intro xs; rfl
          | cons b bs ih =>
            intro xs
            cases xs with
            | nil => rfl
            | cons x xs => simp [allIn, ih, Bool.not_and]
        rw [key]
        cases allIn bs xs <;> rfl
      · intro i hi
        rw [hlen] at hi
        have h1 : i < xs.length := by omega
        simp only [ref15_OffsetErr.s1, lt_len hi, if_true, at_lt hi, at_lt h1, Option.bind_some, List.getElem_zip, within_eq]
        by_cases hq : shapes_inside xs[i] bs[i].Low bs[i].High = true
        · simp only [hq, not_true, if_false, Bool.not_true, Bool.false_eq_true]; rw [wn (by omega)]
        · simp only [hq, not_false_eq_true, if_true, Bool.not_false, if_true, Bool.false_eq_true]
      · rw [hlen]; simp only [ref15_OffsetErr.s1, not_lt_len, if_false]
    · simp [hl]
  · simp [hb]
end Go.Sh
namespace Go.Sh
open Go.Lx
set_option linter.unusedVariables false
set_option linter.unusedSimpArgs false
theorem extents_eq' {p : List api_Bound} (h : p.length < 16777216) : shapes_extents p = some (exs p) := extents_eq h
theorem refExtents_eq' {p : List api_Bound} (h : p.length < 16777216) : ref15_Extents p = some (exs p) := refExtents_eq h
theorem foldr_place : ∀ {es ds : List Int}, inBase es ds → P es ≤ 512 → (∀ e, e ∈ es → e ≤ 512) → (es.zip ds).foldr (fun (t : Int × Int) b => w (w (b * t.1) + t.2)) 0 = H es ds
  | [], [], _, _, _ => rfl
  | [], _ :: _, h, _, _ => by cases h
  | _ :: _, [], h, _, _ => by cases h
  | e :: es, d :: ds, h, hp, hb => by
    have hpos := inBase_pos h
    have ht := P_tail hpos
    have hr := H_range h
    obtain ⟨h1, h2, h3⟩ := h
    have hq := H_range h3
    rw [List.zip_cons_cons, List.foldr_cons, foldr_place h3 (by omega) (fun x hx => hb x (.tail _ hx))]
    simp only [H] at hr ⊢
    rw [Int.mul_comm e] at hr
    have e0 : 0 ≤ H es ds * e := Int.mul_nonneg hq.1 (by omega)
    have e1 : w (H es ds * e) = H es ds * e := w_id (by omega) (by omega)
    rw [e1, w_id (by omega) (by omega), Int.mul_comm e]
    omega
theorem refPlace_eq {es ds : List Int} (h : inBase es ds) (hp : P es ≤ 512) (hb : ∀ e, e ∈ es → e ≤ 512) (hl : es.length = ds.length) (hn : es.length < 16777216) : ref15_Place es ds = some (H es ds) := by
  unfold ref15_Place
  have hlen : (es.zip ds).reverse.length = es.length := by simp; omega
  rw [loop_fold (step := ref15_Place.s1 es ds) (es.zip ds).reverse (fun i (b : Int) => (b, (es.length : Int) - 1 - i)) (fun b => b) (fun b (t : Int × Int) => w (w (b * t.1) + t.2)) (fun _ _ => True) (a := 0) (by rw [w_id (by omega) (by omega)]; simp) ?_ ?_ trivial (by omega)]
  · rw [List.foldl_reverse, foldr_place h hp hb]; rfl
  · intro i hi b _
    refine ⟨?_, trivial⟩
    rw [hlen] at hi
    have c : ((es.length : Int) - 1 - (i : Int)) = ((es.length - 1 - i : Nat) : Int) := by omega
    have k : es.length - 1 - i < es.length := by omega
    have k2 : es.length - 1 - i < ds.length := by omega
    simp only [ref15_Place.s1, c]
    rw [if_pos (by omega), at_lt k, at_lt k2]
    simp only [Option.bind_some]
    have hz : (es.zip ds).reverse[i]'(by omega) = (es[es.length - 1 - i], ds[es.length - 1 - i]) := by
      rw [List.getElem_reverse]
      simp only [List.getElem_zip, List.length_zip]
      have : min es.length ds.length - 1 - i = es.length - 1 - i := by omega
      simp only [this]
    rw [hz]
    have e2 : w (((es.length - 1 - i : Nat) : Int) - 1) = (es.length : Int) - 1 - ((i + 1 : Nat) : Int) := by rw [w_id (by omega) (by omega)]; omega
    rw [e2]
  · intro b _
    rw [hlen]
    simp only [ref15_Place.s1]
    rw [if_neg (by omega)]
theorem refOffset_eq {bs : List api_Bound} {xs : List Int} (h : offE bs xs = 0) : ref15_Offset bs xs = some (off bs xs) := by
  unfold offE at h
  split at h
  · rename_i hb; exact absurd h hb
  rename_i hb
  split at h
  · cases h
  rename_i hl
  split at h
  · rename_i ha
    have ok := bErr_ok (Classical.not_not.1 hb)
    have hl7 := ok.len
    have hll : bs.length = xs.length := by omega
    have hlen : (xs.zip bs).length = bs.length := by simp; omega
    unfold ref15_Offset
    rw [loop_map (step := ref15_Offset.s1 bs xs) (xs.zip bs) (fun p => w (p.1 - p.2.Low)) (fun i b => (i, b)) (fun b => b) rfl ?_ ?_ (by omega)]
    · simp only [Option.bind_some]
      rw [refExtents_eq' (by omega)]
      simp only [Option.bind_some]
      have hsz := ok.size
      show ((ref15_Place (exs bs) (dsOf bs xs)).bind fun x8 => some x8) = _
      rw [refPlace_eq (es := exs bs) (ds := dsOf bs xs) (allIn_base hll ok.num ha) hsz.2.2 (fun e he => by obtain ⟨b, hb, rfl⟩ := List.mem_map.1 he; exact ok.big b hb) (by simp [exs, dsOf]; omega) (by simp [exs]; omega)]
      rfl
    · intro i hi b hbl
      rw [hlen] at hi
      have h1 : i < xs.length := by omega
      simp only [ref15_Offset.s1, lt_len hi, if_true, at_lt hi, at_lt h1, Option.bind_some, List.getElem_zip]
      rw [app_one (by omega), wn (by omega)]; rfl
    · intro b; rw [hlen]; simp only [ref15_Offset.s1, not_lt_len, if_false]
  · cases h
theorem dig_fold : ∀ (es : List Int) (n : Int) (acc : List Int), (es.foldl (fun (b : Int × List Int) e => (b.1 / e, b.2 ++ [b.1 % e])) (n, acc)).2 = acc ++ dig es n
  | [], n, acc => by simp [dig]
  | e :: es, n, acc => by rw [List.foldl_cons, dig_fold es]; simp [dig]
theorem div_ok {n e : Int} (hn : 0 ≤ n) (hb : n ≤ 4611686018427387904) (he : 1 ≤ e) : rem n e = some (n % e) ∧ quo .i64 n e = some (n / e) ∧ 0 ≤ n / e ∧ n / e ≤ n := by
  have h0 : ¬ e = 0 := by omega
  have h1 : 0 ≤ n / e := Int.ediv_nonneg hn (by omega)
  have h2 : n / e ≤ n := Int.ediv_le_self e hn
  refine ⟨by unfold rem; rw [if_neg h0, Int.tmod_eq_emod_of_nonneg hn], ?_, h1, h2⟩
  unfold quo
  rw [if_neg h0, Int.tdiv_eq_ediv_of_nonneg hn]
  exact congrArg some (w_id (n := n / e) (by omega) (by omega))
theorem digits_eq {es : List Int} {n : Int} (h : ∀ e, e ∈ es → 1 ≤ e) (h0 : 0 ≤ n) (hb : n ≤ 4611686018427387904) (hl : es.length < 16777216) : shapes_digits es n = some (dig es n) := by
  unfold shapes_digits
  rw [loop_fold (step := shapes_digits.s1 es) es (fun i (b : Int × List Int) => (b.1, i, b.2)) (fun b => b.2) (fun b e => (b.1 / e, b.2 ++ [b.1 % e])) (fun i b => b.2.length = i ∧ 0 ≤ b.1 ∧ b.1 ≤ 4611686018427387904) (a := (n, [])) rfl ?_ ?_ ⟨rfl, h0, hb⟩ (by omega)]
  · simp only [Option.bind_some]; rw [dig_fold]; rfl
  · rintro i hi b ⟨k1, k2, k3⟩
    obtain ⟨d1, d2, d3, d4⟩ := div_ok k2 k3 (h es[i] (List.getElem_mem hi))
    refine ⟨?_, by simp [k1], d3, by simp only; omega⟩
    simp only [shapes_digits.s1, lt_len hi, if_true, at_lt hi, Option.bind_some, d1, d2]
    rw [app_one (by omega), wn (by omega)]; rfl
  · intro b _; simp only [shapes_digits.s1, not_lt_len, if_false]
theorem refIndexes_eq {es : List Int} {n : Int} (h : ∀ e, e ∈ es → 1 ≤ e) (h0 : 0 ≤ n) (hb : n ≤ 4611686018427387904) (hl : es.length < 16777216) : ref15_Indexes es n = some (dig es n) := by
  unfold ref15_Indexes
  rw [loop_fold (step := ref15_Indexes.s1 es) es (fun i (b : Int × List Int) => (b.1, i, b.2)) (fun b => b.2) (fun b e => (b.1 / e, b.2 ++ [b.1 % e])) (fun i b => b.2.length = i ∧ 0 ≤ b.1 ∧ b.1 ≤ 4611686018427387904) (a := (n, [])) rfl ?_ ?_ ⟨rfl, h0, hb⟩ (by omega)]
  · simp only [Option.bind_some]; rw [dig_fold]; rfl
  · rintro i hi b ⟨k1, k2, k3⟩
    obtain ⟨d1, d2, d3, d4⟩ := div_ok k2 k3 (h es[i] (List.getElem_mem hi))
    refine ⟨?_, by simp [k1], d3, by simp only; omega⟩
    simp only [ref15_Indexes.s1, lt_len hi, if_true, at_lt hi, Option.bind_some, d1, d2]
    rw [app_one (by omega)]
    simp only [Option.bind_some]
    rw [wn (by omega)]
  · intro b _; simp only [ref15_Indexes.s1, not_lt_len, if_false]
def lowAt (bs : List api_Bound) (i : Nat) : Int := (bs[i]?.getD ⟨0, 0⟩).Low
def subs (bs : List api_Bound) (n : Int) : List Int := (dig (exs bs) n).mapIdx fun i x => w (x + lowAt bs i)
theorem subs_len (bs : List api_Bound) (n : Int) : (subs bs n).length = bs.length := by simp [subs, dig_len, exs]
theorem lowAt_lt {bs : List api_Bound} {i : Nat} (h : i < bs.length) : lowAt bs i = bs[i].Low := by simp [lowAt, h]
theorem subs_cons (b : api_Bound) (bs : List api_Bound) (n : Int) : subs (b :: bs) n = w (n % shapes_extent b + b.Low) :: subs bs (n / shapes_extent b) := by
  simp [subs, exs, dig, List.mapIdx_cons, lowAt]
theorem size_pos {bs : List api_Bound} (ok : Ok bs) (h : 1 ≤ P (exs bs)) : ∀ e, e ∈ exs bs → 1 ≤ e := by
  intro e he
  obtain ⟨b, hb, rfl⟩ := List.mem_map.1 he
  have h0 := ok.pos b hb
  rcases Int.lt_or_eq_of_le h0 with h1 | h1
  · omega
  · have : P (exs bs) = 0 := P_zero ⟨_, he, h1.symm⟩
    omega
theorem subscriptsOf_eq (bs : List api_Bound) (n : Int) : shapes_SubscriptsOf bs n = some (if bErr bs ≠ 0 then ([], bErr bs) else if shapes_inside n 0 (P (exs bs) - 1) = true then (subs bs n, 0) else ([], 6)) := by
  unfold shapes_SubscriptsOf
  rw [boundsErr_eq]
  simp only [Option.bind_some]
  by_cases hb : bErr bs = 0
  · have ok := bErr_ok hb
    have hl7 := ok.len
    obtain ⟨z1, z2, z3⟩ := ok.size
    simp only [hb, not_true, if_false, ne_eq]
    rw [size_eq (by omega), z1]
    simp only [Option.bind_some]
    have hw : w (P (bs.map shapes_extent) - 1) = P (exs bs) - 1 := w_id (by omega) (by omega)
    rw [hw]
    by_cases hi : shapes_inside n 0 (P (exs bs) - 1) = true
    · simp only [hi, not_true, if_false, if_true]
      have hi' : 0 ≤ n ∧ n ≤ P (exs bs) - 1 := by simpa [shapes_inside] using hi
      have z3' : P (exs bs) ≤ 512 := z3
      have hpos := size_pos ok (by omega)
      rw [extents_eq' (by omega)]
      simp only [Option.bind_some]
      rw [digits_eq hpos hi'.1 (by omega) (by simp [exs]; omega)]
      simp only [Option.bind_some]
      rw [loop_set (step := shapes_SubscriptsOf.s1 bs (dig (exs bs) n)) (dig (exs bs) n) (fun i x => w (x + lowAt bs i)) (fun i b => (i, b)) (fun b => b) rfl ?_ ?_ (by rw [dig_len]; simp [exs]; omega)]
      · rfl
      · intro i hi b hbl hbi
        have h1 : i < bs.length := by rw [dig_len] at hi; simpa [exs] using hi
        have h2 : i < b.length := by omega
        have h3 : b[i] = (dig (exs bs) n)[i] := by
          rw [List.getElem?_eq_getElem h2] at hbi; exact Option.some.inj hbi
        simp only [shapes_SubscriptsOf.s1, lt_len hi, if_true, at_lt h1, at_lt h2, Option.bind_some, lowAt_lt h1, h3, Int.toNat_natCast]
        rw [wn (by omega)]
      · intro b hbl; simp only [shapes_SubscriptsOf.s1, not_lt_len, if_false]
    · simp only [hi, not_false_eq_true, if_true, if_false, Bool.false_eq_true]
  · simp [hb]
theorem refSubscripts_eq {bs : List api_Bound} {n : Int} (ok : Ok bs) (h0 : 0 ≤ n) (h1 : n < P (exs bs)) : ref15_Subscripts bs n = some (subs bs n) := by
  have hl7 := ok.len
  obtain ⟨z1, z2, z3⟩ := ok.size
  have z3' : P (exs bs) ≤ 512 := z3
  have hpos := size_pos ok (by omega)
  unfold ref15_Subscripts
  rw [refExtents_eq' (by omega)]
  simp only [Option.bind_some]
  rw [refIndexes_eq hpos h0 (by omega) (by simp [exs]; omega)]
  simp only [Option.bind_some]
  have hdl : (dig (exs bs) n).length = bs.length := by rw [dig_len]; simp [exs]
  rw [loop_set (step := ref15_Subscripts.s1 bs) (dig (exs bs) n) (fun i x => w (x + lowAt bs i)) (fun i b => (i, b)) (fun b => b) rfl ?_ ?_ (by omega)]
  · rfl
  · intro i hi b hbl hbi
    have h1 : i < bs.length := by omega
    have h2 : i < b.length := by omega
    have h3 : b[i] = (dig (exs bs) n)[i] := by
      rw [List.getElem?_eq_getElem h2] at hbi; exact Option.some.inj hbi
    simp only [ref15_Subscripts.s1, lt_len h1, if_true, at_lt h1, at_lt h2, Option.bind_some, lowAt_lt h1, h3, Int.toNat_natCast]
    rw [wn (by omega)]
  · intro b hbl; rw [hdl]; simp only [ref15_Subscripts.s1, not_lt_len, if_false]
theorem subs_base : ∀ {bs : List api_Bound} {n : Int}, (∀ b, b ∈ bs → num b = true ∧ shapes_extent b ≤ 512) → (∀ e, e ∈ exs bs → 1 ≤ e) → 0 ≤ n → n < P (exs bs) → allIn bs (subs bs n) = true ∧ dsOf bs (subs bs n) = dig (exs bs) n
  | [], n, _, _, _, _ => ⟨rfl, rfl⟩
  | b :: bs, n, hn, he, h0, h1 => by
    have e1 := he (shapes_extent b) (.head _)
    obtain ⟨nb, bb⟩ := hn b (.head _)
    have r := num_range nb
    have x := ext_num nb
    have g1 : 0 ≤ n / shapes_extent b := Int.ediv_nonneg h0 (by omega)
    have g2 : n / shapes_extent b < P (exs bs) := Int.ediv_lt_of_lt_mul (by omega) (by rw [exs_cons] at h1; simp only [P] at h1; rw [Int.mul_comm]; exact h1)
    obtain ⟨i1, i2⟩ := subs_base (fun c hc => hn c (.tail _ hc)) (fun c hc => he c (.tail _ hc)) g1 g2
    have m1 : 0 ≤ n % shapes_extent b := Int.emod_nonneg _ (by omega)
    have m2 : n % shapes_extent b < shapes_extent b := Int.emod_lt_of_pos _ (by omega)
    have w1 : w (n % shapes_extent b + b.Low) = n % shapes_extent b + b.Low := w_id (by omega) (by omega)
    rw [subs_cons, w1, exs_cons, dsOf_cons, i2]
    refine ⟨?_, ?_⟩
    · simp only [allIn, i1, Bool.and_true, shapes_inside, Bool.and_eq_true, decide_eq_true_eq]
      omega
    · rw [w_id (by omega) (by omega)]
      simp only [dig]
      congr 1
      omega
theorem subs_off : ∀ {bs : List api_Bound} {xs : List Int}, bs.length = xs.length → (∀ b, b ∈ bs → num b = true ∧ shapes_extent b ≤ 512) → allIn bs xs = true → subs bs (off bs xs) = xs
  | [], [], _, _, _ => rfl
  | [], _ :: _, hl, _, _ => by cases hl
  | _ :: _, [], hl, _, _ => by cases hl
  | b :: bs, x :: xs, hl, hn, ha => by
    simp only [allIn, Bool.and_eq_true] at ha
    obtain ⟨nb, bb⟩ := hn b (.head _)
    have r := num_range nb
    obtain ⟨d1, d2, d3⟩ := inside_d nb ha.1
    have ih := subs_off (by simpa using hl) (fun c hc => hn c (.tail _ hc)) ha.2
    have q1 : ((x - b.Low) + shapes_extent b * H (exs bs) (dsOf bs xs)) % shapes_extent b = x - b.Low := by rw [Int.add_mul_emod_self_left]; exact Int.emod_eq_of_lt d2 d3
    have q2 : ((x - b.Low) + shapes_extent b * H (exs bs) (dsOf bs xs)) / shapes_extent b = H (exs bs) (dsOf bs xs) := by
      rw [Int.add_mul_ediv_left _ _ (by omega), Int.ediv_eq_zero_of_lt d2 d3]; omega
    have ho : off (b :: bs) (x :: xs) = (x - b.Low) + shapes_extent b * H (exs bs) (dsOf bs xs) := by
      simp only [off, exs_cons, dsOf_cons, H, d1]
    rw [subs_cons, ho, q1, q2, w_id (by omega) (by omega)]
    rw [show H (exs bs) (dsOf bs xs) = off bs xs from rfl, ih]
    congr 1
    omega
theorem offE_zero {bs : List api_Bound} {xs : List Int} (h : offE bs xs = 0) : bErr bs = 0 ∧ bs.length = xs.length ∧ allIn bs xs = true := by
  unfold offE at h
  split at h
  · rename_i hb; exact absurd h hb
  rename_i hb
  split at h
  · cases h
  rename_i hl
  split at h
  · rename_i ha; exact ⟨Classical.not_not.1 hb, by omega, ha⟩
  · cases h
theorem off_range {bs : List api_Bound} {xs : List Int} (h : offE bs xs = 0) : 0 ≤ off bs xs ∧ off bs xs < P (exs bs) := by
  obtain ⟨h1, h2, h3⟩ := offE_zero h
  exact H_range (allIn_base h2 (bErr_ok h1).num h3)
theorem subs_offE {bs : List api_Bound} {n : Int} (hb : bErr bs = 0) (h0 : 0 ≤ n) (h1 : n < P (exs bs)) : offE bs (subs bs n) = 0 ∧ off bs (subs bs n) = n := by
  have ok := bErr_ok hb
  have hpos := size_pos ok (by omega)
  obtain ⟨k1, k2⟩ := subs_base (fun b hb => ⟨ok.num b hb, ok.big b hb⟩) hpos h0 h1
  refine ⟨?_, ?_⟩
  · unfold offE
    simp [hb, subs_len, k1]
  · unfold off; rw [k2]; exact (dig_ok hpos h0 h1).2
theorem elements_j {bs : List api_Bound} {n : Int} (hl : bs.length ≤ 9) : law15_ShapesElements.j1 bs n (if bErr bs ≠ 0 then ([], bErr bs) else if shapes_inside n 0 (P (exs bs) - 1) = true then (subs bs n, 0) else ([], 6)) () = some true := by
  unfold law15_ShapesElements.j1
  rw [refBoundsErr_eq]
  simp only [Option.bind_some]
  by_cases hb : bErr bs = 0
  · have ok := bErr_ok hb
    have hl7 := ok.len
    obtain ⟨z1, z2, z3⟩ := ok.size
    simp only [hb, not_true, if_false, ne_eq]
    rw [refExtents_eq (by omega)]
    simp only [Option.bind_some]
    rw [refProduct_eq (by simp; omega), z1]
    simp only [Option.bind_some]
    have hw : w (P (bs.map shapes_extent) - 1) = P (exs bs) - 1 := w_id (by omega) (by omega)
    rw [hw, within_eq]
    by_cases hi : shapes_inside n 0 (P (exs bs) - 1) = true
    · have hi' : 0 ≤ n ∧ n ≤ P (exs bs) - 1 := by simpa [shapes_inside] using hi
      simp only [hi, not_true, if_false, if_true]
      rw [refSubscripts_eq ok hi'.1 (by omega)]
      simp only [Option.bind_some]
      rw [ints_eq (by rw [subs_len]; omega) (by rw [subs_len]; omega)]
      simp only [Option.bind_some, beq_self_eq_true, not_true, if_false]
      rw [copyBounds_eq (by omega)]
      simp only [Option.bind_some]
      obtain ⟨o1, o2⟩ := subs_offE hb hi'.1 (by omega)
      rw [offsetOf_eq _ _ (by rw [subs_len]; omega), o1, o2]
      simp
    · simp only [hi, not_false_eq_true, if_true, if_false, Bool.false_eq_true]
      simp
  · simp [hb]
theorem ShapesElements_true (p0 : List api_Bound) (p1 : List Int) (p2 : Int) : law15_ShapesElements p0 p1 p2 = some true := by
  unfold law15_ShapesElements
  rw [awake_eq]
  simp only [Option.bind_some, not_true, if_false]
  by_cases hg : (decide ((p0.length : Int) > 9) || decide ((p1.length : Int) > 9)) = true
  · rw [if_pos hg]
  · rw [if_neg hg]
    have hg' : p0.length ≤ 9 ∧ p1.length ≤ 9 := by simp at hg; omega
    rw [copyBounds_eq (by omega), copyInts_eq (by omega)]
    simp only [Option.bind_some]
    rw [offsetOf_eq _ _ (by omega), subscriptsOf_eq, refOffsetErr_eq]
    simp only [Option.bind_some]
    by_cases he : offE p0 p1 = 0
    · simp only [he, if_true, not_true, if_false]
      rw [refOffset_eq he]
      simp only [Option.bind_some, not_true, if_false]
      obtain ⟨h1, h2, h3⟩ := offE_zero he
      have ok := bErr_ok h1
      obtain ⟨r1, r2⟩ := off_range he
      rw [subscriptsOf_eq]
      have hi : shapes_inside (off p0 p1) 0 (P (exs p0) - 1) = true := by simp [shapes_inside]; omega
      simp only [h1, ne_eq, not_true, if_false, hi, if_true, Option.bind_some]
      rw [subs_off h2 (fun b hb => ⟨ok.num b hb, ok.big b hb⟩) h3, ints_eq (by omega) (by omega)]
      simp only [Option.bind_some, beq_self_eq_true, not_true, if_false]
      have := elements_j (bs := p0) (n := p2) hg'.1
      simpa only [h1, ne_eq, not_true, if_false] using this
    · simp only [he, if_false, not_false_eq_true, if_true, bne_self_eq_false, Bool.or_self, Bool.false_eq_true]
      exact elements_j hg'.1
end Go.Sh
