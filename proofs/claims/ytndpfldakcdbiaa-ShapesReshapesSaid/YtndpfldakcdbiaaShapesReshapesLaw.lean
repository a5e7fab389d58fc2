/- What the functions compute answers as the statement says. -/
import Derived.Test.YtndpfldakcdbiaaShapesReshapesSh
set_option linter.all false
namespace Go.Sh
open Go.Lx
set_option linter.unusedVariables false
set_option linter.unusedSimpArgs false
theorem awake_eq : law15_awake = some true := by decide +kernel
theorem lt_len {i n : Nat} (h : i < n) : ((i : Int) < (n : Int)) = True := eq_true (by omega)
theorem not_lt_len (n : Nat) : ((n : Int) < (n : Int)) = False := eq_false (by omega)
theorem copyBounds_eq {p : List api_Bound} (h : p.length ≤ 16777216) : ref15_CopyBounds p = some p := by
  unfold ref15_CopyBounds; rw [app_nil h]; rfl
theorem copyInts_eq {p : List Int} (h : p.length ≤ 16777216) : base_CopyInts p = some p := by
  unfold base_CopyInts; rw [mkSl_len h]; simp [copied_all]
theorem extents_eq {p : List api_Bound} (h : p.length < 16777216) : shapes_extents p = some (p.map shapes_extent) := by
  unfold shapes_extents
  rw [loop_map p shapes_extent (fun i b => (i, b)) (fun b => b) rfl ?_ ?_ (by omega)]
  · rfl
  · intro i hi b hb
    simp only [shapes_extents.s1, lt_len hi, if_true, at_lt hi, Option.bind_some]
    rw [app_one (by omega), wn (by omega)]; rfl
  · intro b; simp only [shapes_extents.s1, not_lt_len, if_false]
theorem refExtents_eq {p : List api_Bound} (h : p.length < 16777216) : ref15_Extents p = some (p.map shapes_extent) := by
  unfold ref15_Extents
  rw [loop_map p shapes_extent (fun i b => (i, b)) (fun b => b) rfl ?_ ?_ (by omega)]
  · rfl
  · intro i hi b hb
    simp only [ref15_Extents.s1, lt_len hi, if_true, at_lt hi, Option.bind_some]
    rw [app_one (by omega), wn (by omega)]; rfl
  · intro b; simp only [ref15_Extents.s1, not_lt_len, if_false]
theorem index_any (p : List Int) (v : Int) (h : p.length < 16777216) : ∃ k : Nat, slices_Index_int p v = some (if p.any (fun x => v == x) = true then (k : Int) else -1) := by
  unfold slices_Index_int
  obtain ⟨k, hk⟩ := loop_any (step := slices_Index_int.s1 p v) p (fun x => v == x) (fun i => Sum.inr i) (Sum.inl ()) (s := 0) rfl (fun i hi => by
    simp only [slices_Index_int.s1, lt_len hi, if_true, at_lt hi, Option.bind_some]
    by_cases e : v = p[i]
    · simp [e]
    · simp only [e, if_false, beq_iff_eq]; rw [wn (by omega)]) (by simp only [slices_Index_int.s1, not_lt_len, if_false]) (by omega)
  refine ⟨k, ?_⟩
  rw [hk]
  by_cases e : p.any (fun x => v == x) = true
  · rw [if_pos e, if_pos e]; rfl
  · rw [if_neg e, if_neg e]; rfl
theorem contains_eq {p : List Int} {v : Int} (h : p.length < 16777216) : slices_Contains_int p v = some (p.any (fun x => v == x)) := by
  unfold slices_Contains_int
  obtain ⟨k, hk⟩ := index_any p v h
  rw [hk]
  by_cases e : p.any (fun x => v == x) = true
  · rw [if_pos e, e]; simp
  · rw [if_neg e, eq_false_of_ne_true e]; rfl
def capP (xs : List Int) : Int := xs.foldl (fun a x => mn (w (a * mn x 513)) 513) 1
def prodE (xs : List Int) : Int := if xs.any (fun x => 0 == x) = true then 0 else capP xs
theorem product_eq {p : List Int} (h : p.length < 16777216) : shapes_product p = some (prodE p) := by
  unfold shapes_product
  rw [loop_fold (step := shapes_product.s1 p) p (fun i b => (b, i)) (fun b => b) (fun a x => mn (w (a * mn x 513)) 513) (fun _ _ => True) (a := 1) rfl ?_ ?_ trivial (by omega)]
  · simp only [Option.bind_some, contains_eq h]
    unfold prodE capP
    split <;> rfl
  · intro i hi b _
    refine ⟨?_, trivial⟩
    simp only [shapes_product.s1, lt_len hi, if_true, at_lt hi, Option.bind_some]
    rw [wn (by omega)]
  · intro b _; simp only [shapes_product.s1, not_lt_len, if_false]
theorem scan_prod : ∀ (xs : List Int) (i : Nat) (a : Int), scanE (ρ := Unit) (fun _ (b : Int) x => if x = 0 then .inl () else .inr (mn (w (b * mn x 513)) 513)) i xs a = (if xs.any (fun x => 0 == x) = true then .inl () else .inr (xs.foldl (fun a x => mn (w (a * mn x 513)) 513) a))
  | [], i, a => rfl
  | x :: xs, i, a => by
    simp only [scanE, List.any_cons, List.foldl_cons]
    by_cases e : x = 0
    · subst e; simp
    · have e' : (0 == x) = false := by simp; exact fun q => e q.symm
      simp only [e, if_false, e', Bool.false_or]
      exact scan_prod xs (i + 1) _
theorem refProduct_eq {p : List Int} (h : p.length < 16777216) : ref15_Product p = some (prodE p) := by
  unfold ref15_Product
  rw [loop_scan (step := ref15_Product.s1 p) p (fun i b => (b, i)) (fun (_ : Unit) => Sum.inr 0) (fun b => Sum.inl b) (fun _ (b : Int) x => if x = 0 then .inl () else .inr (mn (w (b * mn x 513)) 513)) (fun _ _ => True) (a := 1) rfl ?_ ?_ trivial (by omega)]
  · rw [scan_prod]
    unfold prodE capP
    by_cases e : p.any (fun x => 0 == x) = true
    · simp only [e, if_true]; rfl
    · simp only [e, if_false]; rfl
  · intro i hi b _
    refine ⟨?_, fun _ _ => trivial⟩
    simp only [ref15_Product.s1, lt_len hi, if_true, at_lt hi, Option.bind_some]
    by_cases e : p[i] = 0
    · simp only [e, if_true]
    · simp only [e, if_false]; rw [wn (by omega)]
  · intro b _; simp only [ref15_Product.s1, not_lt_len, if_false]
def num (b : api_Bound) : Bool := shapes_isNumber b.Low && shapes_isNumber b.High
def bErr (p : List api_Bound) : Int := if (p.length : Int) > 7 then 32 else if p.any (fun b => !num b) = true then 2 else if p.any (fun b => decide (shapes_extent b > 512)) = true then 8 else if prodE (p.map shapes_extent) > 512 then 8 else 0
theorem within_eq (a b c : Int) : base_Within a b c = shapes_inside a b c := by
  unfold base_Within shapes_inside
  simp only [Bool.not_or, ← decide_not]
  congr 1 <;> exact decide_eq_decide.2 (by omega)
theorem findSome_const {α ρ : Type} {p : α → Bool} {c : ρ} : ∀ xs : List α, xs.findSome? (fun x => if p x = true then some c else none) = if xs.any p = true then some c else none
  | [] => rfl
  | x :: xs => by
    simp only [List.findSome?_cons, List.any_cons]
    by_cases e : p x = true
    · simp [e]
    · simp only [e, if_false, Bool.false_or]; exact findSome_const xs
theorem broken1 (b : Bool) (c : Int) : shapes_broken [shapes_rule.mk b c] = some (if b = true then 0 else c) := by
  unfold shapes_broken
  rw [loop_find (step := shapes_broken.s1 [shapes_rule.mk b c]) [shapes_rule.mk b c] (fun r => if r.holds = true then none else some r.code) (fun c => Sum.inr c) (Sum.inl ()) rfl ?_ ?_ (by simp)]
  · cases b <;> rfl
  · intro i hi
    simp only [shapes_broken.s1, lt_len hi, if_true, at_lt hi, Option.bind_some]
    have : i = 0 := by simpa using hi
    subst this
    cases b <;> simp [w, IntKind.wrap] <;> rfl
  · rfl
theorem cmpOr2 (a b : Int) : cmp_Or_api_Errno [a, b] = some (if a = 0 then b else a) := by
  unfold cmp_Or_api_Errno
  rw [loop_find (step := cmp_Or_api_Errno.s1 [a, b]) [a, b] (fun x => if x = 0 then none else some x) (fun c => Sum.inr c) (Sum.inl ()) rfl ?_ ?_ (by simp)]
  · by_cases h1 : a = 0
    · by_cases h2 : b = 0
      · simp [h1, h2]
      · simp [h1, h2]
    · simp [h1]
  · intro i hi
    simp only [cmp_Or_api_Errno.s1, lt_len hi, if_true, at_lt hi, Option.bind_some]
    by_cases e : [a, b][i] = 0
    · simp only [e, not_true, if_false, if_true]; rw [wn (by simp at hi; omega)]
    · simp only [e, not_false_eq_true, if_true, if_false]
  · simp only [cmp_Or_api_Errno.s1, not_lt_len, if_false]
theorem index1_eq (p : List api_Bound) (h : p.length < 16777216) : slices_ContainsFunc_api_Bound__shapes_boundsErr_c1 p = some (p.any (fun b => !num b)) := by
  unfold slices_ContainsFunc_api_Bound__shapes_boundsErr_c1 slices_IndexFunc_api_Bound__shapes_boundsErr_c1
  obtain ⟨k, hk⟩ := loop_any (step := slices_IndexFunc_api_Bound__shapes_boundsErr_c1.s1 p) p (fun b => !num b) (fun i => Sum.inr i) (Sum.inl ()) (s := 0) rfl (fun i hi => by
    simp only [slices_IndexFunc_api_Bound__shapes_boundsErr_c1.s1, lt_len hi, if_true, at_lt hi, Option.bind_some]
    have : shapes_boundsErr_c1 p[i] = !num p[i] := by unfold shapes_boundsErr_c1 num; simp
    rw [this, wn (by omega)]; split <;> rfl) (by simp only [slices_IndexFunc_api_Bound__shapes_boundsErr_c1.s1, not_lt_len, if_false]) (by omega)
  rw [hk]
  by_cases e : p.any (fun b => !num b) = true
  · rw [if_pos e, e]; simp
  · rw [if_neg e, eq_false_of_ne_true e]; rfl
theorem index2_eq (p : List api_Bound) (h : p.length < 16777216) : slices_ContainsFunc_api_Bound__shapes_boundsErr_c2 p = some (p.any (fun b => decide (shapes_extent b > 512))) := by
  unfold slices_ContainsFunc_api_Bound__shapes_boundsErr_c2 slices_IndexFunc_api_Bound__shapes_boundsErr_c2
  obtain ⟨k, hk⟩ := loop_any (step := slices_IndexFunc_api_Bound__shapes_boundsErr_c2.s1 p) p (fun b => decide (shapes_extent b > 512)) (fun i => Sum.inr i) (Sum.inl ()) (s := 0) rfl (fun i hi => by
    simp only [slices_IndexFunc_api_Bound__shapes_boundsErr_c2.s1, lt_len hi, if_true, at_lt hi, Option.bind_some]
    unfold shapes_boundsErr_c2
    rw [wn (by omega)]; split <;> rfl) (by simp only [slices_IndexFunc_api_Bound__shapes_boundsErr_c2.s1, not_lt_len, if_false]) (by omega)
  rw [hk]
  by_cases e : p.any (fun b => decide (shapes_extent b > 512)) = true
  · rw [if_pos e, e]; simp
  · rw [if_neg e, eq_false_of_ne_true e]; rfl
theorem size_eq {p : List api_Bound} (h : p.length < 16777216) : shapes_size p = some (prodE (p.map shapes_extent)) := by
  unfold shapes_size
  rw [extents_eq h]; simp only [Option.bind_some]
  rw [product_eq (by simpa using h)]; rfl
theorem boundsErr_eq (p : List api_Bound) : shapes_boundsErr p = some (bErr p) := by
  unfold shapes_boundsErr bErr
  by_cases h7 : (p.length : Int) > 7
  · simp only [h7, if_true]
  · have h : p.length < 16777216 := by omega
    simp only [h7, if_false, index1_eq p h, index2_eq p h, size_eq h, broken1, Option.bind_some]
    by_cases e1 : p.any (fun b => !num b) = true
    · simp only [e1, if_true]
    · simp only [e1, if_false]
      by_cases e2 : p.any (fun b => decide (shapes_extent b > 512)) = true
      · simp [e2]
      · simp only [e2, if_false]
        by_cases e3 : prodE (p.map shapes_extent) > 512
        · have : ¬ prodE (p.map shapes_extent) ≤ 512 := by omega
          simp [e3, this]
        · have : prodE (p.map shapes_extent) ≤ 512 := by omega
          simp [e3, this]
theorem refBoundsErr_eq (p : List api_Bound) : ref15_BoundsErr p = some (bErr p) := by
  unfold ref15_BoundsErr bErr
  by_cases h7 : (p.length : Int) > 7
  · simp only [h7, if_true]
  · have h : p.length < 16777216 := by omega
    simp only [h7, if_false, refExtents_eq h, Option.bind_some]
    rw [loop_find (step := ref15_BoundsErr.s1 p) p (fun b => if (!num b) = true then some (2 : Int) else none) (fun c => Sum.inr c) (Sum.inl ()) rfl ?_ ?_ (by omega), findSome_const]
    · by_cases e1 : p.any (fun b => !num b) = true
      · simp only [e1, if_true, Option.bind_some]
      · simp only [e1, if_false, Option.bind_some]
        rw [loop_find (step := ref15_BoundsErr.s2 (p.map shapes_extent)) (p.map shapes_extent) (fun x => if (decide (x > 512)) = true then some (8 : Int) else none) (fun c => Sum.inr c) (Sum.inl ()) rfl ?_ ?_ (by simp; omega), findSome_const, List.any_map]
        · by_cases e2 : p.any (fun b => decide (shapes_extent b > 512)) = true
          · have e2' : p.any ((fun x => decide (x > 512)) ∘ shapes_extent) = true := e2
            simp only [e2, e2', if_true, Option.bind_some, Bool.false_eq_true, if_false]
          · have e2' : ¬ p.any ((fun x => decide (x > 512)) ∘ shapes_extent) = true := e2
            simp only [e2, e2', if_false, Option.bind_some, Bool.false_eq_true]
            rw [refProduct_eq (by simpa using h)]
            simp only [Option.bind_some]
            split <;> rfl
        · intro i hi
          simp only [ref15_BoundsErr.s2, lt_len hi, if_true, at_lt hi, Option.bind_some]
          by_cases e : (p.map shapes_extent)[i] > 512
          · simp only [e, if_true, decide_true]
          · simp only [e, if_false, decide_false, Bool.false_eq_true]; rw [wn (by simp at hi; omega)]
        · simp only [ref15_BoundsErr.s2, not_lt_len, if_false]
    · intro i hi
      simp only [ref15_BoundsErr.s1, lt_len hi, if_true, at_lt hi, Option.bind_some, ref15_isBound, within_eq, num, shapes_isNumber]
      rw [wn (by omega)]
      by_cases e1 : shapes_inside p[i].Low (-2147483647) 2147483647 = true
      · by_cases e2 : shapes_inside p[i].High (-2147483647) 2147483647 = true
        · simp [e1, e2]
        · simp [e1, e2]
      · simp [e1]
    · simp only [ref15_BoundsErr.s1, not_lt_len, if_false]
end Go.Sh
namespace Go.Sh
open Go.Lx
set_option linter.unusedVariables false
set_option linter.unusedSimpArgs false
theorem before_eq : ∀ (n : Nat) (a b : List Int), a.length < n → n ≤ 16777217 → b.length < 16777216 → ∃ r, base_Before.N n a b = some r ∧ (r = true → a ≠ b)
  | 0, a, b, h, _, _ => absurd h (Nat.not_lt_zero _)
  | n + 1, a, b, h, hn, hb => by
    show ∃ r, base_Before.F (base_Before.N n) a b = some r ∧ _
    unfold base_Before.F
    match a, b with
    | [], b => exact ⟨_, rfl, fun h => by simp at h; intro q; subst q; simp at h⟩
    | x :: a, [] => exact ⟨_, rfl, fun h => by simp at h; omega⟩
    | x :: a, y :: b =>
      have e0 : ¬ ((((x :: a).length : Int) == 0) || (((y :: b).length : Int) == 0)) = true := by simp; omega
      have c1 : cut (x :: a) 1 ((x :: a).length : Int) = some a := by unfold cut; rw [if_pos (by simp; omega)]; simp
      have c2 : cut (y :: b) 1 ((y :: b).length : Int) = some b := by unfold cut; rw [if_pos (by simp; omega)]; simp
      have a1 : at_ (x :: a) 0 = some x := rfl
      have a2 : at_ (y :: b) 0 = some y := rfl
      rw [if_neg e0]
      simp only [a1, a2, Option.bind_some]
      by_cases h1 : x < y
      · exact ⟨true, by simp [h1], fun _ q => by simp at q; omega⟩
      · by_cases h2 : x = y
        · obtain ⟨r, h3, h4⟩ := before_eq n a b (by simp at h; omega) (by omega) (by simp at hb; omega)
          refine ⟨r, ?_, fun hr q => h4 hr (by simp at q; exact q.2)⟩
          subst h2
          rw [if_neg h1, if_pos rfl, c1, c2]
          simp only [Option.bind_some, h3]
        · exact ⟨false, by simp [h1, h2], fun q => by cases q⟩
theorem before_tri : ∀ (n m : Nat) (a b : List Int), base_Before.N n a b = some false → base_Before.N m b a = some false → a.length = b.length → a = b
  | 0, m, a, b, h, _, _ => by cases h
  | n + 1, 0, a, b, _, h, _ => by cases h
  | n + 1, m + 1, a, b, h, k, hl => by
    change base_Before.F (base_Before.N n) a b = some false at h
    change base_Before.F (base_Before.N m) b a = some false at k
    unfold base_Before.F at h k
    match a, b, hl with
    | [], [], _ => rfl
    | x :: a, y :: b, hl =>
      have e0 : ¬ ((((x :: a).length : Int) == 0) || (((y :: b).length : Int) == 0)) = true := by simp; omega
      have e1 : ¬ ((((y :: b).length : Int) == 0) || (((x :: a).length : Int) == 0)) = true := by simp; omega
      have c1 : cut (x :: a) 1 ((x :: a).length : Int) = some a := by unfold cut; rw [if_pos (by simp; omega)]; simp
      have c2 : cut (y :: b) 1 ((y :: b).length : Int) = some b := by unfold cut; rw [if_pos (by simp; omega)]; simp
      have a1 : at_ (x :: a) 0 = some x := rfl
      have a2 : at_ (y :: b) 0 = some y := rfl
      rw [if_neg e0] at h
      rw [if_neg e1] at k
      simp only [a1, a2, Option.bind_some, c1, c2] at h k
      by_cases h1 : x < y
      · simp [h1] at h
      · by_cases h2 : y < x
        · simp [h2] at k
        · have h3 : x = y := by omega
          subst h3
          simp only [h1, if_false, if_true] at h k
          obtain ⟨r, hr, h⟩ := Option.bind_eq_some_iff.1 h
          obtain ⟨r', hr', k⟩ := Option.bind_eq_some_iff.1 k
          cases h
          cases k
          rw [before_tri n m a b hr hr' (by simpa using hl)]
theorem ints_eq {a b : List Int} (ha : a.length < 16777216) (hb : b.length < 16777216) : base_Ints a b = some (a == b) := by
  unfold base_Ints
  have hF : (16777217 : Nat) ≤ FUEL := by unfold FUEL; omega
  have step : ∀ (n : Nat) (a b : List Int) (r : Bool), base_Before.N n a b = some r → base_Before.N (n + 1) a b = some r := by
    intro n
    induction n with
    | zero => intro a b r h; cases h
    | succ n ih =>
      intro a b r h
      change base_Before.F (base_Before.N n) a b = some r at h
      show base_Before.F (base_Before.N (n + 1)) a b = some r
      unfold base_Before.F at h ⊢
      split
      · rename_i hc; rw [if_pos hc] at h; exact h
      · rename_i hc
        rw [if_neg hc] at h
        obtain ⟨x4, h4, h⟩ := Option.bind_eq_some_iff.1 h
        obtain ⟨x5, h5, h⟩ := Option.bind_eq_some_iff.1 h
        rw [h4, h5]
        simp only [Option.bind_some]
        split
        · rename_i hd; rw [if_pos hd] at h; exact h
        · rename_i hd
          rw [if_neg hd] at h
          rw [h4, h5] at h
          simp only [Option.bind_some] at h ⊢
          split
          · rename_i he
            rw [if_pos he] at h
            obtain ⟨x6, h6, h⟩ := Option.bind_eq_some_iff.1 h
            obtain ⟨x7, h7, h⟩ := Option.bind_eq_some_iff.1 h
            obtain ⟨x8, h8, h⟩ := Option.bind_eq_some_iff.1 h
            rw [h6, h7]
            simp only [Option.bind_some]
            rw [ih _ _ _ h8]
            exact h
          · rename_i he; rw [if_neg he] at h; exact h
  have up : ∀ (n m : Nat) (a b : List Int) (r : Bool), n ≤ m → base_Before.N n a b = some r → base_Before.N m a b = some r := by
    intro n m a b r hnm h
    induction hnm with
    | refl => exact h
    | step _ ih => exact step _ _ _ _ ih
  have get : ∀ a b : List Int, a.length < 16777216 → b.length < 16777216 → ∃ r, base_Before a b = some r ∧ (r = true → a ≠ b) := by
    intro a b ha hb
    obtain ⟨r, h1, h2⟩ := before_eq 16777217 a b (by omega) (Nat.le_refl _) hb
    exact ⟨r, up _ _ _ _ _ hF h1, h2⟩
  by_cases hl : (a.length : Int) = (b.length : Int)
  · rw [if_pos hl]
    obtain ⟨r, h1, h2⟩ := get a b ha hb
    obtain ⟨r', h3, h4⟩ := get b a hb ha
    rw [h1, h3]
    simp only [Option.bind_some]
    cases r with
    | true => simp; exact h2 rfl
    | false =>
      cases r' with
      | true => simp; exact fun q => h4 rfl q.symm
      | false => simp; exact before_tri _ _ _ _ h1 h3 (by omega)
  · rw [if_neg hl]
    have : a ≠ b := fun q => hl (by rw [q])
    simp [this]
end Go.Sh
namespace Go.Sh
open Go.Lx
set_option linter.unusedVariables false
set_option linter.unusedSimpArgs false
def P : List Int → Int
  | [] => 1
  | x :: xs => x * P xs
def H : List Int → List Int → Int
  | e :: es, d :: ds => d + e * H es ds
  | _, _ => 0
def dig : List Int → Int → List Int
  | [], _ => []
  | e :: es, n => n % e :: dig es (n / e)
def inBase : List Int → List Int → Prop
  | e :: es, d :: ds => 0 ≤ d ∧ d < e ∧ inBase es ds
  | [], [] => True
  | _, _ => False
theorem P_pos : ∀ {es : List Int}, (∀ e, e ∈ es → 1 ≤ e) → 1 ≤ P es
  | [], _ => Int.le_refl 1
  | e :: es, h => by
    have h1 := h e (.head _)
    have h2 := P_pos (es := es) fun x hx => h x (.tail _ hx)
    have := Int.mul_le_mul h1 h2 (by omega) (by omega)
    simpa [P] using this
theorem P_tail {e : Int} {es : List Int} (h : ∀ x, x ∈ e :: es → 1 ≤ x) : P es ≤ P (e :: es) := by
  have h1 := h e (.head _)
  have h2 := P_pos (es := es) fun x hx => h x (.tail _ hx)
  have := Int.mul_le_mul h1 (Int.le_refl (P es)) (by omega) (by omega)
  simpa [P] using this
theorem inBase_pos : ∀ {es ds : List Int}, inBase es ds → ∀ e, e ∈ es → 1 ≤ e
  | [], _, _, e, h => by cases h
  | e :: es, [], h, _, _ => by cases h
  | e :: es, d :: ds, ⟨h1, h2, h3⟩, x, hx => by
    cases hx with
    | head => omega
    | tail _ hx => exact inBase_pos h3 x hx
theorem H_range : ∀ {es ds : List Int}, inBase es ds → 0 ≤ H es ds ∧ H es ds < P es
  | [], [], _ => by simp [H, P]
  | [], _ :: _, h => by cases h
  | e :: es, [], h => by cases h
  | e :: es, d :: ds, ⟨h1, h2, h3⟩ => by
    obtain ⟨i1, i2⟩ := H_range h3
    have a1 : 0 ≤ e * H es ds := Int.mul_nonneg (by omega) i1
    have a2 : e * H es ds ≤ e * (P es - 1) := Int.mul_le_mul_of_nonneg_left (by omega) (by omega)
    rw [Int.mul_sub, Int.mul_one] at a2
    simp only [H, P]
    omega
theorem dig_ok : ∀ {es : List Int} {n : Int}, (∀ e, e ∈ es → 1 ≤ e) → 0 ≤ n → n < P es → inBase es (dig es n) ∧ H es (dig es n) = n
  | [], n, _, h1, h2 => by simp [P] at h2; simp [inBase, dig, H]; omega
  | e :: es, n, h, h1, h2 => by
    have he := h e (.head _)
    have g1 : 0 ≤ n / e := Int.ediv_nonneg h1 (by omega)
    have g2 : n / e < P es := Int.ediv_lt_of_lt_mul (by omega) (by simp only [P] at h2; rw [Int.mul_comm]; exact h2)
    obtain ⟨i1, i2⟩ := dig_ok (es := es) (fun x hx => h x (.tail _ hx)) g1 g2
    refine ⟨⟨Int.emod_nonneg _ (by omega), Int.emod_lt_of_pos _ (by omega), i1⟩, ?_⟩
    simp only [dig, H, i2]
    exact Int.emod_add_mul_ediv n e
theorem dig_len : ∀ (es : List Int) (n : Int), (dig es n).length = es.length
  | [], n => rfl
  | e :: es, n => by simp [dig, dig_len es]
theorem min_mul {a b m : Int} (ha : 1 ≤ a) (hb : 1 ≤ b) (hm : 0 ≤ m) : min (min a m * b) m = min (a * b) m := by
  rcases Int.le_total a m with h | h
  · rw [Int.min_eq_left h]
  · rw [Int.min_eq_right h]
    have h1 : m * 1 ≤ m * b := Int.mul_le_mul_of_nonneg_left hb hm
    have h2 : m * b ≤ a * b := Int.mul_le_mul_of_nonneg_right h (by omega)
    omega
theorem capP_eq : ∀ {xs : List Int} {a : Int}, (∀ x, x ∈ xs → 1 ≤ x ∧ x ≤ 512) → 1 ≤ a → a ≤ 513 → xs.foldl (fun a x => mn (w (a * mn x 513)) 513) a = min (a * P xs) 513
  | [], a, _, h1, h2 => by simp [P]; omega
  | x :: xs, a, h, h1, h2 => by
    obtain ⟨g1, g2⟩ := h x (.head _)
    have m1 : mn x 513 = x := by unfold mn; rw [if_neg (by omega)]
    have b1 : 1 * 1 ≤ a * x := Int.mul_le_mul h1 g1 (by omega) (by omega)
    have b2 : a * x ≤ 513 * 512 := Int.mul_le_mul h2 g2 (by omega) (by omega)
    have m2 : mn (w (a * x)) 513 = min (a * x) 513 := by
      rw [w_id (by omega) (by omega)]; unfold mn; split <;> omega
    rw [List.foldl_cons, m1, m2, capP_eq (fun y hy => h y (.tail _ hy)) (by omega) (by omega)]
    have hp := P_pos (es := xs) fun y hy => (h y (.tail _ hy)).1
    rw [min_mul (by omega) hp (by omega), P, Int.mul_assoc]
structure Ok (p : List api_Bound) : Prop where
  len : p.length ≤ 7
  num : ∀ b, b ∈ p → num b = true
  big : ∀ b, b ∈ p → shapes_extent b ≤ 512
  pos : ∀ b, b ∈ p → 0 ≤ shapes_extent b
  sz : prodE (p.map shapes_extent) ≤ 512
theorem ext_nonneg (b : api_Bound) : 0 ≤ shapes_extent b := by unfold shapes_extent mx; split <;> omega
theorem bErr_ok {p : List api_Bound} (h : bErr p = 0) : Ok p := by
  unfold bErr at h
  split at h
  · cases h
  split at h
  · cases h
  split at h
  · cases h
  split at h
  · cases h
  rename_i h1 h2 h3 h4
  refine ⟨by omega, fun b hb => ?_, fun b hb => ?_, fun b _ => ext_nonneg b, by omega⟩
  · simp only [List.any_eq_true, not_exists, not_and, Bool.not_eq_true', Bool.not_eq_false] at h2
    exact h2 b hb
  · simp only [List.any_eq_true, not_exists, not_and, decide_eq_true_eq] at h3
    have := h3 b hb
    omega
def exs (bs : List api_Bound) : List Int := bs.map shapes_extent
def str : Int → List Int → List Int
  | _, [] => []
  | s, e :: es => s :: str (w (s * e)) es
theorem str_len : ∀ (es : List Int) (s : Int), (str s es).length = es.length
  | [], s => rfl
  | e :: es, s => by simp [str, str_len es]
theorem str_fold : ∀ (es : List Int) (s : Int) (acc : List Int), (es.foldl (fun (b : Int × List Int) e => (w (b.1 * e), b.2 ++ [b.1])) (s, acc)).2 = acc ++ str s es
  | [], s, acc => by simp [str]
  | e :: es, s, acc => by rw [List.foldl_cons, str_fold es]; simp [str]
theorem strides_eq {p : List Int} (h : p.length < 16777216) : shapes_strides p = some (str 1 p) := by
  unfold shapes_strides
  rw [loop_fold (step := shapes_strides.s1 p) p (fun i (b : Int × List Int) => (b.1, i, b.2)) (fun b => b.2) (fun b e => (w (b.1 * e), b.2 ++ [b.1])) (fun i b => b.2.length = i) (a := (1, [])) rfl ?_ ?_ rfl (by omega)]
  · simp only [Option.bind_some]; rw [str_fold]; rfl
  · intro i hi b hb
    refine ⟨?_, by simp [hb]⟩
    simp only [shapes_strides.s1, lt_len hi, if_true, at_lt hi, Option.bind_some]
    rw [app_one (by omega), wn (by omega)]; rfl
  · intro b _; simp only [shapes_strides.s1, not_lt_len, if_false]
end Go.Sh
namespace Go.Sh
open Go.Lx
set_option linter.unusedVariables false
set_option linter.unusedSimpArgs false
theorem refExtents_eq' {p : List api_Bound} (h : p.length < 16777216) : ref15_Extents p = some (exs p) := refExtents_eq h
theorem foldr_place : ∀ {es ds : List Int}, inBase es ds → P es ≤ 512 → (∀ e, e ∈ es → e ≤ 512) → (es.zip ds).foldr (fun (t : Int × Int) b => w (w (b * t.1) + t.2)) 0 = H es ds
  | [], [], _, _, _ => rfl
  | [], _ :: _, h, _, _ => by cases h
  | _ :: _, [], h, _, _ => by cases h
  | e :: es, d :: ds, h, hp, hb => by
    have hpos := inBase_pos h
    have ht := P_tail hpos
    have hr := H_range h
    obtain ⟨h1, h2, h3⟩ := h
    have hq := H_range h3
    rw [List.zip_cons_cons, List.foldr_cons, foldr_place h3 (by omega) (fun x hx => hb x (.tail _ hx))]
    simp only [H] at hr ⊢
    rw [Int.mul_comm e] at hr
    have e0 : 0 ≤ H es ds * e := Int.mul_nonneg hq.1 (by omega)
    have e1 : w (H es ds * e) = H es ds * e := w_id (by omega) (by omega)
    rw [e1, w_id (by omega) (by omega), Int.mul_comm e]
    omega
theorem refPlace_eq {es ds : List Int} (h : inBase es ds) (hp : P es ≤ 512) (hb : ∀ e, e ∈ es → e ≤ 512) (hl : es.length = ds.length) (hn : es.length < 16777216) : ref15_Place es ds = some (H es ds) := by
  unfold ref15_Place
  have hlen : (es.zip ds).reverse.length = es.length := by simp; omega
  rw [loop_fold (step := ref15_Place.s1 es ds) (es.zip ds).reverse (fun i (b : Int) => (b, (es.length : Int) - 1 - i)) (fun b => b) (fun b (t : Int × Int) => w (w (b * t.1) + t.2)) (fun _ _ => True) (a := 0) (by rw [w_id (by omega) (by omega)]; simp) ?_ ?_ trivial (by omega)]
  · rw [List.foldl_reverse, foldr_place h hp hb]; rfl
  · intro i hi b _
    refine ⟨?_, trivial⟩
    rw [hlen] at hi
    have c : ((es.length : Int) - 1 - (i : Int)) = ((es.length - 1 - i : Nat) : Int) := by omega
    have k : es.length - 1 - i < es.length := by omega
    have k2 : es.length - 1 - i < ds.length := by omega
    simp only [ref15_Place.s1, c]
    rw [if_pos (by omega), at_lt k, at_lt k2]
    simp only [Option.bind_some]
    have hz : (es.zip ds).reverse[i]'(by omega) = (es[es.length - 1 - i], ds[es.length - 1 - i]) := by
      rw [List.getElem_reverse]
      simp only [List.getElem_zip, List.length_zip]
      have : min es.length ds.length - 1 - i = es.length - 1 - i := by omega
      simp only [this]
    rw [hz]
    have e2 : w (((es.length - 1 - i : Nat) : Int) - 1) = (es.length : Int) - 1 - ((i + 1 : Nat) : Int) := by rw [w_id (by omega) (by omega)]; omega
    rw [e2]
  · intro b _
    rw [hlen]
    simp only [ref15_Place.s1]
    rw [if_neg (by omega)]
theorem dig_fold : ∀ (es : List Int) (n : Int) (acc : List Int), (es.foldl (fun (b : Int × List Int) e => (b.1 / e, b.2 ++ [b.1 % e])) (n, acc)).2 = acc ++ dig es n
  | [], n, acc => by simp [dig]
  | e :: es, n, acc => by rw [List.foldl_cons, dig_fold es]; simp [dig]
theorem div_ok {n e : Int} (hn : 0 ≤ n) (hb : n ≤ 4611686018427387904) (he : 1 ≤ e) : rem n e = some (n % e) ∧ quo .i64 n e = some (n / e) ∧ 0 ≤ n / e ∧ n / e ≤ n := by
  have h0 : ¬ e = 0 := by omega
  have h1 : 0 ≤ n / e := Int.ediv_nonneg hn (by omega)
  have h2 : n / e ≤ n := Int.ediv_le_self e hn
  refine ⟨by unfold rem; rw [if_neg h0, Int.tmod_eq_emod_of_nonneg hn], ?_, h1, h2⟩
  unfold quo
  rw [if_neg h0, Int.tdiv_eq_ediv_of_nonneg hn]
  exact congrArg some (w_id (n := n / e) (by omega) (by omega))
theorem digits_eq {es : List Int} {n : Int} (h : ∀ e, e ∈ es → 1 ≤ e) (h0 : 0 ≤ n) (hb : n ≤ 4611686018427387904) (hl : es.length < 16777216) : shapes_digits es n = some (dig es n) := by
  unfold shapes_digits
  rw [loop_fold (step := shapes_digits.s1 es) es (fun i (b : Int × List Int) => (b.1, i, b.2)) (fun b => b.2) (fun b e => (b.1 / e, b.2 ++ [b.1 % e])) (fun i b => b.2.length = i ∧ 0 ≤ b.1 ∧ b.1 ≤ 4611686018427387904) (a := (n, [])) rfl ?_ ?_ ⟨rfl, h0, hb⟩ (by omega)]
  · simp only [Option.bind_some]; rw [dig_fold]; rfl
  · rintro i hi b ⟨k1, k2, k3⟩
    obtain ⟨d1, d2, d3, d4⟩ := div_ok k2 k3 (h es[i] (List.getElem_mem hi))
    refine ⟨?_, by simp [k1], d3, by simp only; omega⟩
    simp only [shapes_digits.s1, lt_len hi, if_true, at_lt hi, Option.bind_some, d1, d2]
    rw [app_one (by omega), wn (by omega)]; rfl
  · intro b _; simp only [shapes_digits.s1, not_lt_len, if_false]
theorem refIndexes_eq {es : List Int} {n : Int} (h : ∀ e, e ∈ es → 1 ≤ e) (h0 : 0 ≤ n) (hb : n ≤ 4611686018427387904) (hl : es.length < 16777216) : ref15_Indexes es n = some (dig es n) := by
  unfold ref15_Indexes
  rw [loop_fold (step := ref15_Indexes.s1 es) es (fun i (b : Int × List Int) => (b.1, i, b.2)) (fun b => b.2) (fun b e => (b.1 / e, b.2 ++ [b.1 % e])) (fun i b => b.2.length = i ∧ 0 ≤ b.1 ∧ b.1 ≤ 4611686018427387904) (a := (n, [])) rfl ?_ ?_ ⟨rfl, h0, hb⟩ (by omega)]
  · simp only [Option.bind_some]; rw [dig_fold]; rfl
  · rintro i hi b ⟨k1, k2, k3⟩
    obtain ⟨d1, d2, d3, d4⟩ := div_ok k2 k3 (h es[i] (List.getElem_mem hi))
    refine ⟨?_, by simp [k1], d3, by simp only; omega⟩
    simp only [ref15_Indexes.s1, lt_len hi, if_true, at_lt hi, Option.bind_some, d1, d2]
    rw [app_one (by omega)]
    simp only [Option.bind_some]
    rw [wn (by omega)]
  · intro b _; simp only [ref15_Indexes.s1, not_lt_len, if_false]
end Go.Sh
namespace Go.Sh
open Go.Lx
set_option linter.unusedVariables false
set_option linter.unusedSimpArgs false
def badEl (xs : List Int) : Sum Nat Unit := scanE (fun i b x => if shapes_isInteger x = true then .inr b else .inl i) 0 xs ()
def chk (a : api_Array) : Int × Int :=
  if bErr a.Bounds ≠ 0 then (0, bErr a.Bounds)
  else if (a.Elements.length : Int) ≠ prodE (exs a.Bounds) then (0, 10)
  else match badEl a.Elements with | .inl i => ((i : Int), 2) | .inr _ => (0, 0)
theorem isInteger_eq (x : Int) : ref15_IsInteger x = shapes_isInteger x := by unfold ref15_IsInteger shapes_isInteger; exact within_eq _ _ _
theorem checkArray_eq {a : api_Array} (h : a.Elements.length < 16777216) : shapes_CheckArray a = some (chk a) := by
  unfold shapes_CheckArray chk
  rw [boundsErr_eq]
  simp only [Option.bind_some]
  by_cases hb : bErr a.Bounds = 0
  · have hl7 := (bErr_ok hb).len
    simp only [hb, not_true, if_false, ne_eq]
    rw [size_eq (by omega)]
    simp only [Option.bind_some]
    by_cases hl : (a.Elements.length : Int) = prodE (exs a.Bounds)
    · have hl' : (a.Elements.length : Int) = prodE (a.Bounds.map shapes_extent) := hl
      simp only [hl', hl, not_true, if_false]
      unfold shapes_firstBad_int__shapes_CheckArray_c1
      rw [loop_scan (step := shapes_firstBad_int__shapes_CheckArray_c1.s1 a.Elements) a.Elements (fun i (_ : Unit) => i) (fun k : Nat => Sum.inr ((k : Int), 2)) (fun _ => Sum.inl ()) (fun i b x => if shapes_isInteger x = true then .inr b else .inl i) (fun _ _ => True) (a := ()) rfl ?_ ?_ trivial (by omega)]
      · unfold badEl
        cases scanE (fun i b x => if shapes_isInteger x = true then Sum.inr b else Sum.inl i) 0 a.Elements () <;> simp [hl, exs]
      · intro i hi b _
        refine ⟨?_, fun _ _ => trivial⟩
        simp only [shapes_firstBad_int__shapes_CheckArray_c1.s1, lt_len hi, if_true, at_lt hi, Option.bind_some, shapes_CheckArray_c1, broken1]
        by_cases hq : shapes_isInteger a.Elements[i] = true
        · simp only [hq, if_true, not_true, if_false]; rw [wn (by omega)]
        · simp only [hq, if_false, Bool.false_eq_true]; simp
      · intro b _; simp only [shapes_firstBad_int__shapes_CheckArray_c1.s1, not_lt_len, if_false]
    · have hl' : ¬ (a.Elements.length : Int) = prodE (a.Bounds.map shapes_extent) := hl
      simp [hl', hl, exs]
  · simp [hb]
theorem refCheck_eq {a : api_Array} (h : a.Elements.length < 16777216) : ref15_Check a = some (chk a) := by
  unfold ref15_Check chk
  rw [refBoundsErr_eq]
  simp only [Option.bind_some]
  by_cases hb : bErr a.Bounds = 0
  · have hl7 := (bErr_ok hb).len
    simp only [hb, not_true, if_false, ne_eq]
    rw [refExtents_eq' (by omega)]
    simp only [Option.bind_some]
    rw [refProduct_eq (by simp [exs]; omega)]
    simp only [Option.bind_some]
    by_cases hl : (a.Elements.length : Int) = prodE (exs a.Bounds)
    · simp only [hl, not_true, if_false]
      rw [loop_scan (step := ref15_Check.s1 a) a.Elements (fun i (_ : Unit) => i) (fun k : Nat => Sum.inr ((k : Int), 2)) (fun _ => Sum.inl ()) (fun i b x => if shapes_isInteger x = true then .inr b else .inl i) (fun _ _ => True) (a := ()) rfl ?_ ?_ trivial (by omega)]
      · unfold badEl
        cases scanE (fun i b x => if shapes_isInteger x = true then Sum.inr b else Sum.inl i) 0 a.Elements () <;> rfl
      · intro i hi b _
        refine ⟨?_, fun _ _ => trivial⟩
        simp only [ref15_Check.s1, lt_len hi, if_true, at_lt hi, Option.bind_some, isInteger_eq]
        by_cases hq : shapes_isInteger a.Elements[i] = true
        · simp only [hq, if_true, not_true, if_false]; rw [wn (by omega)]
        · simp only [hq, if_false, Bool.false_eq_true, not_false_eq_true, if_true]
      · intro b _; simp only [ref15_Check.s1, not_lt_len, if_false]
    · simp [hl]
  · simp [hb]
theorem refErr_eq {a : api_Array} (h : a.Elements.length < 16777216) : ref15_Err a = some (chk a).2 := by
  unfold ref15_Err; rw [refCheck_eq h]; rfl
theorem refCopy_eq {a : api_Array} (h1 : a.Bounds.length ≤ 16777216) (h : a.Elements.length < 16777216) : ref15_Copy a = some a := by
  unfold ref15_Copy; rw [copyBounds_eq h1, copyInts_eq (by omega)]; rfl
theorem few_ok {a : api_Array} (h : law15_few a = true) : a.Bounds.length ≤ 9 ∧ a.Elements.length ≤ 80 := by
  unfold law15_few at h
  simp at h
  omega
end Go.Sh
namespace Go.Sh
open Go.Lx
set_option linter.unusedVariables false
set_option linter.unusedSimpArgs false
theorem range_loop {τ : Type} {step : Int × List Int → Option (Sum (Int × List Int) τ)} (n : Int) (g : Nat → Int) (fin : List Int → τ) (h0 : 0 ≤ n) (hn : n < 16777216)
    (h : ∀ i : Nat, (i : Int) < n → ∀ b : List Int, b.length = i → step (i, b) = some (.inl (((i + 1 : Nat) : Int), b ++ [g i]))) (hend : ∀ b, step (n, b) = some (.inr (fin b))) :
    loopO step (0, []) = some (fin ((List.range n.toNat).map g)) := by
  have hl : (List.range n.toNat).length = n.toNat := by simp
  have hc : ((List.range n.toNat).length : Int) = n := by rw [hl]; omega
  refine loop_map (step := step) (List.range n.toNat) g (fun i b => (i, b)) fin rfl ?_ ?_ (by omega)
  · intro i hi b hb
    have : (List.range n.toNat)[i] = i := by simp
    rw [this]
    exact h i (by omega) b hb
  · intro b; rw [hc]; exact hend b
end Go.Sh
namespace Go.Sh
open Go.Lx
set_option linter.unusedVariables false
set_option linter.unusedSimpArgs false
abbrev Sec := List Int × List (List Int) × List Int
theorem has_eq {l : List Int} {v : Int} (h : l.length < 16777216) : base_Has l v = some (l.any fun x => x == v) := by
  unfold base_Has
  rw [loop_fold (step := base_Has.s1 l v) l (fun i (b : Bool) => (b, i)) (fun b => b) (fun b x => b || (x == v)) (fun _ _ => True) (a := false) rfl ?_ ?_ trivial (by omega)]
  · have key : ∀ (l : List Int) (b : Bool), l.foldl (fun b x => b || (x == v)) b = (b || l.any fun x => x == v) := by
      intro l
      induction l with
      | nil => intro b; simp
      | cons x l ih => intro b; rw [List.foldl_cons, ih, List.any_cons, Bool.or_assoc]
    rw [key]; simp
  · intro i hi b _
    refine ⟨?_, trivial⟩
    simp only [base_Has.s1, lt_len hi, if_true, at_lt hi, Option.bind_some]
    rw [wn (by omega)]
  · intro b _; simp only [base_Has.s1, not_lt_len, if_false]
section
variable {p : List api_Bound} {q : List api_Subscript} {v : Sec}
structure SecOk (p : List api_Bound) (q : List api_Subscript) (v : Sec) : Prop where
  lists : v.2.1.length = p.length
  lens : v.2.2 = v.2.1.map fun l => (l.length : Int)
  small : ∀ l, l ∈ v.2.1 → l.length ≤ 512
  ins : ∀ t, t ∈ p.zip v.2.1 → ∀ x, x ∈ t.2 → shapes_inside x t.1.Low t.1.High = true
theorem inBase_get : ∀ {es ds : List Int}, inBase es ds → es.length = ds.length ∧ ∀ i (h1 : i < es.length) (h2 : i < ds.length), 0 ≤ ds[i] ∧ ds[i] < es[i]
  | [], [], _ => ⟨rfl, fun i h => by simp at h⟩
  | [], _ :: _, h => by cases h
  | _ :: _, [], h => by cases h
  | e :: es, d :: ds, ⟨h1, h2, h3⟩ => by
    obtain ⟨i1, i2⟩ := inBase_get h3
    refine ⟨by simp [i1], fun i g1 g2 => ?_⟩
    cases i with
    | zero => exact ⟨h1, h2⟩
    | succ i => simpa using i2 i (by simpa using g1) (by simpa using g2)
theorem SecOk.pos (h : SecOk p q v) : 0 ≤ prodE v.2.2 := by
  unfold prodE
  split
  · omega
  · rename_i h0
    have hr : ∀ x, x ∈ v.2.2 → 1 ≤ x ∧ x ≤ 512 := by
      intro x hx
      have hx' := hx
      rw [h.lens] at hx
      obtain ⟨l, hl, rfl⟩ := List.mem_map.1 hx
      have := h.small l hl
      simp only [List.any_eq_true, not_exists, not_and, beq_iff_eq] at h0
      have := h0 _ hx'
      omega
    have := capP_eq (a := 1) hr (by omega) (by omega)
    have hp := P_pos fun x hq => (hr x hq).1
    unfold capP
    omega
end
end Go.Sh
namespace Go.Sh
open Go.Lx
set_option linter.unusedVariables false
set_option linter.unusedSimpArgs false
def elAt (xs : List Int) (o : Int) : Int := (xs[o.toNat]?).getD 0
def ofExt (es : List Int) : List api_Bound := es.map fun e => api_Bound.mk 1 e
theorem from_eq {es : List Int} (h : es.length < 16777216) : shapes_from es = some (ofExt es) := by
  unfold shapes_from
  rw [loop_map (step := shapes_from.s1 es) es (fun e => api_Bound.mk 1 e) (fun i b => (i, b)) (fun b => b) rfl ?_ ?_ (by omega)]
  · rfl
  · intro i hi b hb
    simp only [shapes_from.s1, lt_len hi, if_true, at_lt hi, Option.bind_some]
    rw [app_one (by omega), wn (by omega)]; rfl
  · intro b; simp only [shapes_from.s1, not_lt_len, if_false]
theorem refOf_eq {es xs : List Int} (h : es.length < 16777216) : ref15_Of es xs = some (api_Array.mk (ofExt es) xs) := by
  unfold ref15_Of
  rw [loop_map (step := ref15_Of.s1 es) es (fun e => api_Bound.mk 1 e) (fun i b => (i, b)) (fun b => b) rfl ?_ ?_ (by omega)]
  · rfl
  · intro i hi b hb
    simp only [ref15_Of.s1, lt_len hi, if_true, at_lt hi, Option.bind_some]
    rw [app_one (by omega), wn (by omega)]; rfl
  · intro b; simp only [ref15_Of.s1, not_lt_len, if_false]
theorem at_el {xs : List Int} {o : Int} (h0 : 0 ≤ o) (h1 : o < (xs.length : Int)) : at_ xs o = some (elAt xs o) := by
  unfold at_ elAt
  rw [if_pos h0]
  have : o.toNat < xs.length := by omega
  simp [this]
theorem arraysErr1 {a : api_Array} (ha : a.Elements.length < 16777216) : shapes_arraysErr [a] = some (chk a).2 := by
  unfold shapes_arraysErr
  rw [loop_find (step := shapes_arraysErr.s1 [a]) [a] (fun x => if (chk x).2 = 0 then none else some (chk x).2) (fun c => Sum.inr c) (Sum.inl ()) rfl ?_ ?_ (by simp)]
  · by_cases h1 : (chk a).2 = 0
    · simp [h1]
    · simp [h1]
  · intro i hi
    have hx : [a][i].Elements.length < 16777216 := by
      match i, hi with
      | 0, _ => exact ha
    simp only [shapes_arraysErr.s1, lt_len hi, if_true, at_lt hi, Option.bind_some, checkArray_eq hx]
    by_cases e : (chk [a][i]).2 = 0
    · simp only [e, not_true, if_false, if_true]; rw [wn (by simp at hi; omega)]
    · simp only [e, not_false_eq_true, if_true, if_false]
  · simp only [shapes_arraysErr.s1, not_lt_len, if_false]
theorem same_self {a : api_Array} (h1 : a.Bounds.length < 16777216) (h2 : a.Elements.length < 16777216) : ref15_Same a a = some true := by
  unfold ref15_Same
  rw [ints_eq h2 h2]
  simp only [Option.bind_some, beq_self_eq_true, not_true, if_false]
  rw [loop_find (step := ref15_Same.s1 a a) a.Bounds (fun _ => (none : Option Bool)) (fun c => Sum.inr c) (Sum.inl ()) rfl ?_ ?_ (by omega)]
  · have : a.Bounds.findSome? (fun _ => (none : Option Bool)) = none := by simp
    rw [this]; rfl
  · intro i hi
    simp only [ref15_Same.s1, lt_len hi, if_true, at_lt hi, Option.bind_some, beq_self_eq_true, Bool.and_self, not_true, if_false]
    rw [wn (by omega)]
  · simp only [ref15_Same.s1, not_lt_len, if_false]
theorem is_self {a : api_Array} {e : Int} (h1 : a.Bounds.length < 16777216) (h2 : a.Elements.length < 16777216) : law15_is a e a e = some true := by
  unfold law15_is; rw [if_pos rfl, same_self h1 h2]; rfl
end Go.Sh
namespace Go.Sh
open Go.Lx
set_option linter.unusedVariables false
set_option linter.unusedSimpArgs false
end Go.Sh
namespace Go.Sh
open Go.Lx
set_option linter.unusedVariables false
set_option linter.unusedSimpArgs false
def nth (l : List Int) (d : Nat) : Int := (l[d]?).getD 0
def er : Nat → List Int → List Int
  | _, [] => []
  | 0, _ :: l => l
  | n + 1, x :: l => x :: er n l
def ins : Nat → Int → List Int → List Int
  | 0, x, l => x :: l
  | _ + 1, x, [] => [x]
  | n + 1, x, a :: l => a :: ins n x l
def S : List Int → List Int → Int
  | s :: ss, d :: ds => s * d + S ss ds
  | _, _ => 0
theorem nth_succ (x : Int) (l : List Int) (d : Nat) : nth (x :: l) (d + 1) = nth l d := by simp [nth]
theorem nth_zero (x : Int) (l : List Int) : nth (x :: l) 0 = x := by simp [nth]
theorem nth_lt {l : List Int} {d : Nat} (h : d < l.length) : at_ l (d : Int) = some (nth l d) := by rw [at_lt h]; simp [nth, h]
theorem ins_len : ∀ (n : Nat) (x : Int) (l : List Int), (ins n x l).length = l.length + 1
  | 0, x, l => rfl
  | n + 1, x, [] => rfl
  | n + 1, x, a :: l => by simp only [ins, List.length_cons, ins_len n x l]
theorem mem_er : ∀ {n : Nat} {l : List Int} {e : Int}, e ∈ l → e = nth l n ∨ e ∈ er n l
  | n, [], e, h => by cases h
  | 0, x :: l, e, h => by
    cases h with
    | head => exact .inl (nth_zero _ _).symm
    | tail _ h => exact .inr h
  | n + 1, x :: l, e, h => by
    cases h with
    | head => exact .inr (.head _)
    | tail _ h =>
      rcases mem_er (n := n) h with h1 | h1
      · exact .inl (by rw [nth_succ]; exact h1)
      · exact .inr (.tail _ h1)
theorem P_er : ∀ (n : Nat) (l : List Int), n < l.length → P l = nth l n * P (er n l)
  | n, [], h => by simp at h
  | 0, x :: l, h => by rw [nth_zero]; rfl
  | n + 1, x :: l, h => by
    rw [nth_succ, er, P, P, P_er n l (by simpa using h), ← Int.mul_assoc, ← Int.mul_assoc, Int.mul_comm x]
theorem base_er : ∀ {n : Nat} {es ds : List Int}, n < es.length → inBase es ds → inBase (er n es) (er n ds) ∧ ins n (nth ds n) (er n ds) = ds ∧ 0 ≤ nth ds n ∧ nth ds n < nth es n
  | n, [], ds, h, _ => by simp at h
  | n, e :: es, [], h, hb => by cases hb
  | 0, e :: es, d :: ds, h, ⟨b1, b2, b3⟩ => by
    rw [nth_zero, nth_zero]
    exact ⟨b3, rfl, b1, b2⟩
  | n + 1, e :: es, d :: ds, h, ⟨b1, b2, b3⟩ => by
    obtain ⟨g1, g2, g3, g4⟩ := base_er (n := n) (by simpa using h) b3
    rw [nth_succ, nth_succ]
    exact ⟨⟨b1, b2, g1⟩, by simp only [er, ins]; rw [g2], g3, g4⟩
theorem ins_nth : ∀ (n : Nat) (i : Int) (l : List Int), n ≤ l.length → nth (ins n i l) n = i
  | 0, i, l, _ => nth_zero _ _
  | n + 1, i, [], h => by simp at h
  | n + 1, i, a :: l, h => by simp only [ins]; rw [nth_succ]; exact ins_nth n i l (by simpa using h)
theorem S_str : ∀ (es ds : List Int) (s : Int), inBase es ds → 1 ≤ s → s * P es ≤ 512 → S (str s es) ds = s * H es ds ∧ ∀ x, x ∈ str s es → 0 ≤ x
  | [], [], s, _, _, _ => by simp [str, S, H]
  | [], _ :: _, _, h, _, _ => by cases h
  | _ :: _, [], _, h, _, _ => by cases h
  | e :: es, d :: ds, s, ⟨h1, h2, h3⟩, hs, hp => by
    have hpos := P_pos (inBase_pos h3)
    have e0 : s * P (e :: es) = s * e * P es := by simp [P, Int.mul_assoc]
    rw [e0] at hp
    have e1 : 1 * 1 ≤ s * e := Int.mul_le_mul hs (by omega) (by omega) (by omega)
    have e2 : s * e * 1 ≤ s * e * P es := Int.mul_le_mul_of_nonneg_left hpos (by omega)
    have w1 : w (s * e) = s * e := w_id (by omega) (by omega)
    obtain ⟨i1, i2⟩ := S_str es ds (s * e) h3 (by omega) hp
    simp only [str, S, w1, H]
    refine ⟨by rw [i1, Int.mul_add, Int.mul_assoc], ?_⟩
    intro x hx
    cases hx with
    | head => omega
    | tail _ hx => exact i2 x hx
theorem S_nonneg : ∀ (ss ds : List Int), (∀ x, x ∈ ss → 0 ≤ x) → (∀ x, x ∈ ds → 0 ≤ x) → 0 ≤ S ss ds
  | [], ds, _, _ => by cases ds <;> simp [S]
  | s :: ss, [], _, _ => by simp [S]
  | s :: ss, d :: ds, h1, h2 => by
    have a := Int.mul_nonneg (h1 s (.head _)) (h2 d (.head _))
    have b := S_nonneg ss ds (fun x hx => h1 x (.tail _ hx)) (fun x hx => h2 x (.tail _ hx))
    simp only [S]; omega
def sumF (a : Int) (t : Int × Int) : Int := w (a + w (t.2 * t.1))
theorem fold_S : ∀ (ss ds : List Int) (a : Int), (∀ x, x ∈ ss → 0 ≤ x) → (∀ x, x ∈ ds → 0 ≤ x) → 0 ≤ a → a + S ss ds ≤ 1000000 → (ds.zip ss).foldl sumF a = a + S ss ds
  | [], ds, a, _, _, _, _ => by cases ds <;> simp [S]
  | s :: ss, [], a, _, _, _, _ => by simp [S]
  | s :: ss, d :: ds, a, h1, h2, h0, hb => by
    have p := Int.mul_nonneg (h1 s (.head _)) (h2 d (.head _))
    have q := S_nonneg ss ds (fun x hx => h1 x (.tail _ hx)) (fun x hx => h2 x (.tail _ hx))
    simp only [S] at hb ⊢
    have e : sumF a (d, s) = a + s * d := by
      unfold sumF
      simp only
      rw [w_id (n := s * d) (by omega) (by omega), w_id (by omega) (by omega)]
    rw [List.zip_cons_cons, List.foldl_cons, e, fold_S ss ds _ (fun x hx => h1 x (.tail _ hx)) (fun x hx => h2 x (.tail _ hx)) (by omega) (by omega)]
    omega
theorem inBase_nonneg : ∀ {es ds : List Int}, inBase es ds → ∀ x, x ∈ ds → 0 ≤ x
  | [], [], _, x, h => by cases h
  | [], _ :: _, h, _, _ => by cases h
  | _ :: _, [], h, _, _ => by cases h
  | e :: es, d :: ds, ⟨h1, h2, h3⟩, x, hx => by
    cases hx with
    | head => exact h1
    | tail _ hx => exact inBase_nonneg h3 x hx
theorem prodE_small {xs : List Int} (h : ∀ x, x ∈ xs → 0 ≤ x ∧ x ≤ 512) : 0 ≤ prodE xs ∧ prodE xs ≤ 513 ∧ (0 < prodE xs → (∀ x, x ∈ xs → 1 ≤ x) ∧ prodE xs = min (P xs) 513) := by
  unfold prodE
  by_cases h0 : xs.any (fun x => 0 == x) = true
  · rw [if_pos h0]; exact ⟨by omega, by omega, fun h => by omega⟩
  · rw [if_neg h0]
    have hr : ∀ x, x ∈ xs → 1 ≤ x ∧ x ≤ 512 := by
      intro x hx
      simp only [List.any_eq_true, not_exists, not_and, beq_iff_eq] at h0
      have := h0 x hx
      have := h x hx
      omega
    have c := capP_eq (a := 1) hr (by omega) (by omega)
    have hp := P_pos fun x hq => (hr x hq).1
    have e : capP xs = min (1 * P xs) 513 := c
    rw [Int.one_mul] at e
    exact ⟨by omega, by omega, fun _ => ⟨fun x hx => (hr x hx).1, e⟩⟩
section
variable {es : List Int} {d : Nat}
end
end Go.Sh
namespace Go.Sh
open Go.Lx
set_option linter.unusedVariables false
set_option linter.unusedSimpArgs false
section
variable {a : api_Array} {d : Nat}
end
end Go.Sh
namespace Go.Sh
open Go.Lx
set_option linter.unusedVariables false
set_option linter.unusedSimpArgs false
section
variable {a : api_Array} {d : Nat}
end
end Go.Sh
namespace Go.Sh
open Go.Lx
set_option linter.unusedVariables false
set_option linter.unusedSimpArgs false
structure Small (es : List Int) : Prop where
  len : es.length ≤ 7
  r : ∀ e, e ∈ es → 0 ≤ e ∧ e ≤ 512
  p : P es ≤ 512
theorem er_ins : ∀ (n : Nat) (x : Int) (l : List Int), n ≤ l.length → er n (ins n x l) = l
  | 0, x, l, _ => rfl
  | n + 1, x, [], h => by simp at h
  | n + 1, x, a :: l, h => by simp only [ins, er]; rw [er_ins n x l (by simpa using h)]
theorem mem_ins : ∀ {n : Nat} {x e : Int} {l : List Int}, n ≤ l.length → e ∈ ins n x l → e = x ∨ e ∈ l := by
  intro n x e l h he
  rcases mem_er (n := n) he with q | q
  · rw [ins_nth n x l h] at q; exact .inl q
  · rw [er_ins n x l h] at q; exact .inr q
structure Sprd (es : List Int) (d : Nat) (m : Int) : Prop where
  sm : Small es
  l7 : es.length < 7
  d : d ≤ es.length
  m : 0 ≤ m ∧ m ≤ 512
section
variable {es : List Int} {d : Nat} {m : Int}
theorem Sprd.r (h : Sprd es d m) : ∀ e, e ∈ ins d m es → 0 ≤ e ∧ e ≤ 512 := by
  intro e he
  rcases mem_ins h.d he with rfl | q
  · exact h.m
  · exact h.sm.r e q
theorem Sprd.P (h : Sprd es d m) : P (ins d m es) = m * P es := by
  have := P_er d (ins d m es) (by rw [ins_len]; have := h.d; omega)
  rw [ins_nth d m es h.d, er_ins d m es h.d] at this
  exact this
theorem Sprd.digs (h : Sprd es d m) {k : Nat} (hk : (k : Int) < prodE (ins d m es)) (hp : prodE (ins d m es) ≤ 512) :
    (∀ e, e ∈ ins d m es → 1 ≤ e) ∧ inBase (ins d m es) (dig (ins d m es) k) ∧ (k : Int) < Go.Sh.P (ins d m es) ∧ inBase es (er d (dig (ins d m es) k)) ∧ H (ins d m es) (dig (ins d m es) k) = k := by
  obtain ⟨z1, z2, z3⟩ := prodE_small h.r
  obtain ⟨y1, y2⟩ := z3 (by omega)
  have hkP : (k : Int) < Go.Sh.P (ins d m es) := by omega
  obtain ⟨b1, b2⟩ := dig_ok y1 (by omega) hkP
  have hd : d < (ins d m es).length := by rw [ins_len]; have := h.d; omega
  obtain ⟨g1, g2, g3, g4⟩ := base_er hd b1
  rw [er_ins d m es h.d] at g1
  exact ⟨y1, b1, hkP, g1, b2⟩
end
section
variable {a : api_Array} {d : Nat}
end
end Go.Sh
namespace Go.Sh
open Go.Lx
set_option linter.unusedVariables false
set_option linter.unusedSimpArgs false
def iota1 (n : Nat) : List Int := (List.range n).map fun i : Nat => (i : Int) + 1
def iota0 (n : Nat) : List Int := (List.range n).map fun i : Nat => (i : Int)
theorem iota1_sorted (n : Nat) : (iota1 n).Pairwise (· ≤ ·) := by
  unfold iota1
  rw [List.pairwise_map]
  exact (List.pairwise_lt_range (n := n)).imp (by intro a b h; omega)
theorem iota1_nodup (n : Nat) : (iota1 n).Nodup := by
  unfold iota1 List.Nodup
  rw [List.pairwise_map]
  exact (List.pairwise_lt_range (n := n)).imp (by intro a b h; omega)
theorem iota0_nodup (n : Nat) : (iota0 n).Nodup := by
  unfold iota0 List.Nodup
  rw [List.pairwise_map]
  exact (List.pairwise_lt_range (n := n)).imp (by intro a b h; omega)
theorem perm_of_sub : ∀ {xs ys : List Int}, xs.Nodup → (∀ x, x ∈ xs → x ∈ ys) → ys.length ≤ xs.length → ys.Perm xs
  | [], ys, _, _, h => by
    have : ys = [] := List.eq_nil_of_length_eq_zero (by simpa using h)
    subst this
    exact .refl _
  | x :: xs, ys, hn, hs, hl => by
    rw [List.nodup_cons] at hn
    have hx := hs x (.head _)
    have p := List.perm_cons_erase hx
    refine p.trans (.cons x (perm_of_sub hn.2 (fun z hz => ?_) ?_))
    · have hne : z ≠ x := fun e => hn.1 (e ▸ hz)
      exact (List.mem_erase_of_ne hne).2 (hs z (.tail _ hz))
    · have := List.length_erase_of_mem hx
      simp at hl
      have := List.length_pos_of_mem hx
      omega
theorem isort_iota {l : List Int} : isort l = iota1 l.length ↔ ∀ i : Nat, i < l.length → (i : Int) + 1 ∈ l := by
  constructor
  · intro h i hi
    have := (isort_perm l).mem_iff (a := (i : Int) + 1)
    rw [h] at this
    exact this.1 (List.mem_map.2 ⟨i, List.mem_range.2 hi, rfl⟩)
  · intro h
    refine (isort_unique (List.Perm.symm ?_) (iota1_sorted _)).symm
    refine perm_of_sub (iota1_nodup _) (fun x hx => ?_) (by simp [iota1])
    obtain ⟨i, hi, rfl⟩ := List.mem_map.1 hx
    exact h i (List.mem_range.1 hi)
def isOrd (l : List Int) : Bool := (List.range l.length).all fun i => l.any fun x => x == (i : Int) + 1
theorem isOrd_iff {l : List Int} : isOrd l = true ↔ isort l = iota1 l.length := by
  rw [isort_iota]
  unfold isOrd
  rw [List.all_eq_true]
  constructor
  · intro h i hi
    have := h i (List.mem_range.2 hi)
    obtain ⟨x, hx, he⟩ := List.any_eq_true.1 this
    rw [← Lx.eq_of_beq he]
    exact hx
  · intro h i hi
    exact List.any_eq_true.2 ⟨_, h i (List.mem_range.1 hi), beq_self_eq_true _⟩
theorem isOrder_eq {l : List Int} (h : l.length < 16777216) : ref15_IsOrder l = some (isOrd l) := by
  unfold ref15_IsOrder
  have key := loop_scan (ρ := Unit) (β := Unit) (τ := Sum Unit Bool) (step := ref15_IsOrder.s1 l) (List.range l.length) (fun i (_ : Unit) => i + 1) (fun _ => .inr false) (fun _ => .inl ())
    (fun _ _ (i : Nat) => if (l.any fun x => x == (i : Int) + 1) = true then .inr () else .inl ()) (fun _ _ => True) (a := ()) (s := 1) rfl ?_ ?_ trivial (by simp; omega)
  · rw [key]
    have scan : ∀ (xs : List Nat) (i : Nat), scanE (ρ := Unit) (fun _ (_ : Unit) (i : Nat) => if (l.any fun x => x == (i : Int) + 1) = true then Sum.inr () else Sum.inl ()) i xs () = if (xs.all fun i => l.any fun x => x == (i : Int) + 1) = true then .inr () else .inl () := by
      intro xs
      induction xs with
      | nil => intro i; rfl
      | cons x xs ih =>
        intro i
        simp only [scanE, List.all_cons]
        by_cases hx : (l.any fun y => y == (x : Int) + 1) = true
        · simp only [hx, if_true, Bool.true_and]; exact ih _
        · simp only [hx, if_false, Bool.false_eq_true, Bool.false_and]
    rw [scan]
    unfold isOrd
    by_cases hq : ((List.range l.length).all fun i => l.any fun x => x == (i : Int) + 1) = true
    · simp only [hq, if_true, Option.bind_some]
    · simp only [hq, if_false, Option.bind_some, Bool.false_eq_true]
  · intro i hi b _
    refine ⟨?_, fun _ _ => trivial⟩
    have hi' : i < l.length := by simpa using hi
    have e : (List.range l.length)[i] = i := by simp
    have hle : ((i : Int) + 1 ≤ (l.length : Int)) = True := eq_true (by omega)
    simp only [ref15_IsOrder.s1, hle, if_true, e]
    rw [has_eq h]
    simp only [Option.bind_some]
    by_cases hx : (l.any fun y => y == (i : Int) + 1) = true
    · simp only [hx, if_true, not_true, if_false]
      rw [w_id (by omega) (by omega)]
      simp
    · simp only [hx, if_false, if_true, not_false_eq_true, Bool.false_eq_true]
  · intro b _
    have hle : (((List.range l.length).length : Int) + 1 ≤ (l.length : Int)) = False := eq_false (by simp; omega)
    simp only [ref15_IsOrder.s1, hle, if_false]
def ordF (i : Nat) (b : List Int) (t : Int × Int) : Sum Unit (List Int) := if t.1 = w ((i : Int) + 1) then .inr (b.set i (w (t.2 - 1))) else .inl ()
theorem scan_ordF : ∀ (T : List (Int × Int)) (i : Nat) (pre rest : List Int), pre.length = i → rest.length = T.length → i + T.length < 16777216 →
    scanE ordF i T (pre ++ rest) = if T.map (·.1) = (List.range T.length).map (fun j : Nat => ((i + j : Nat) : Int) + 1) then .inr (pre ++ T.map fun t => w (t.2 - 1)) else .inl ()
  | [], i, pre, rest, hp, hr, hb => by
    have : rest = [] := List.eq_nil_of_length_eq_zero (by simpa using hr)
    subst this
    simp [scanE]
  | t :: T, i, pre, [], hp, hr, hb => by simp at hr
  | t :: T, i, pre, r :: rest, hp, hr, hb => by
    simp only [List.length_cons] at hb
    have hw : w ((i : Int) + 1) = (i : Int) + 1 := w_id (by omega) (by omega)
    simp only [scanE, ordF, hw]
    have hmap : (List.range (t :: T).length).map (fun j : Nat => ((i + j : Nat) : Int) + 1) = ((i : Int) + 1) :: (List.range T.length).map (fun j : Nat => ((i + 1 + j : Nat) : Int) + 1) := by
      rw [List.length_cons, List.range_succ_eq_map, List.map_cons, List.map_map]
      congr 1
      apply List.map_congr_left
      intro j _
      simp only [Function.comp]
      omega
    rw [hmap]
    by_cases ht : t.1 = (i : Int) + 1
    · simp only [ht, if_true]
      have hset : (pre ++ r :: rest).set i (w (t.2 - 1)) = (pre ++ [w (t.2 - 1)]) ++ rest := by
        rw [List.set_append_right _ _ (by omega), hp, Nat.sub_self, List.set_cons_zero]; simp
      rw [hset, scan_ordF T (i + 1) (pre ++ [w (t.2 - 1)]) rest (by simp [hp]) (by simpa using hr) (by omega)]
      simp only [List.map_cons, ht, List.cons.injEq, true_and, List.append_assoc, List.cons_append, List.nil_append]
    · simp only [ht, if_false, List.map_cons, List.cons.injEq, false_and]
def ordR (l : List Int) (r : Nat) : List Int × Bool := if l.length = 0 then (iota0 r, true) else if l.length = r ∧ isOrd l = true then (l.map fun x => w (x - 1), true) else ([], false)
theorem sorted_small {l : List Int} (h : l.length ≤ 1000000) : slices_Sorted_int__slices_Values_int_c1 l = some (isort l) := by
  unfold slices_Sorted_int__slices_Values_int_c1 sortedO
  rw [if_pos h]
theorem isort_len (l : List Int) : (isort l).length = l.length := (isort_perm l).length_eq
theorem orderOf_eq {l : List Int} {r : Nat} (hl : l.length ≤ 1000000) (hr : r < 16777216) : shapes_orderOf l (r : Int) = some (ordR l r) := by
  unfold shapes_orderOf
  rw [range_loop (step := shapes_orderOf.s1 (r : Int)) (r : Int) (fun i => (i : Int)) (fun b => b) (by omega) (by omega) ?_ ?_]
  · simp only [Option.bind_some, Int.toNat_natCast]
    unfold ordR
    by_cases h0 : l.length = 0
    · simp only [h0, Int.ofNat_zero, if_true]; rfl
    · have h0' : ¬ (l.length : Int) = 0 := by omega
      simp only [h0, h0', if_false]
      rw [sorted_small hl]
      simp only [Option.bind_some]
      by_cases hlr : l.length = r
      · have hlr' : (l.length : Int) = (r : Int) := by omega
        simp only [hlr', not_true, if_false, hlr, true_and]
        have hz : ((isort l).zip l).length = l.length := by simp [isort_len]
        have hil := isort_len l
        change ((loopO (shapes_orderOf.s2 l (isort l)) (0, iota0 r)).bind _) = _
        rw [loop_scan (ρ := Unit) (step := shapes_orderOf.s2 l (isort l)) ((isort l).zip l) (fun i b => (i, b)) (fun _ => .inr (([] : List Int), false)) (fun b => .inl b) ordF (fun i b => b.length = l.length) (a := iota0 r) rfl ?_ ?_ (by simp [iota0, hlr]) (by omega)]
        · have := scan_ordF ((isort l).zip l) 0 [] (iota0 r) rfl (by rw [hz]; simp [iota0, hlr]) (by omega)
          rw [List.nil_append] at this
          rw [this, hz, List.map_fst_zip (by omega)]
          have hio : (List.range l.length).map (fun j : Nat => ((0 + j : Nat) : Int) + 1) = iota1 l.length := by unfold iota1; simp
          rw [hio]
          by_cases ho : isOrd l = true
          · have := isOrd_iff.1 ho
            simp only [this, if_true, ho, Option.bind_some, List.nil_append]
            have e2 : List.map (fun t : Int × Int => w (t.2 - 1)) ((isort l).zip l) = l.map fun x => w (x - 1) := by
              rw [show (fun t : Int × Int => w (t.2 - 1)) = (fun x => w (x - 1)) ∘ Prod.snd from rfl, ← List.map_map, List.map_snd_zip (by omega)]
            rw [this] at e2
            rw [e2]
          · have : ¬ isort l = iota1 l.length := fun h => ho (isOrd_iff.2 h)
            simp only [this, if_false, ho, Option.bind_some, Bool.false_eq_true]
        · intro i hi b hb
          rw [hz] at hi
          have hi2 : i < (isort l).length := by omega
          have hi3 : i < b.length := by omega
          constructor
          · simp only [shapes_orderOf.s2, lt_len hi2, if_true, at_lt hi2, Option.bind_some, ordF, List.getElem_zip]
            by_cases hx : (isort l)[i] = w ((i : Int) + 1)
            · simp only [hx, not_true, if_false, at_lt hi, at_lt hi3, Option.bind_some, if_true]
              rw [wn (by omega)]; rfl
            · simp only [hx, not_false_eq_true, if_true, if_false]
          · intro b' he
            unfold ordF at he
            split at he
            · cases he; simpa using hb
            · cases he
        · intro b _
          have : ((isort l).zip l).length = (isort l).length := by omega
          rw [this]
          simp only [shapes_orderOf.s2, not_lt_len, if_false]
      · have hlr' : ¬ (l.length : Int) = (r : Int) := by omega
        simp only [hlr', not_false_eq_true, if_true, hlr, false_and, if_false]
  · intro i hi b hb
    simp only [shapes_orderOf.s1, hi, if_true]
    rw [app_one (by omega), wn (by omega)]; rfl
  · intro b; simp only [shapes_orderOf.s1, Int.lt_irrefl, if_false]
end Go.Sh
namespace Go.Sh
open Go.Lx
set_option linter.unusedVariables false
set_option linter.unusedSimpArgs false
def scat : List Int → List Int → List Int → List Int
  | j :: o, d :: ds, acc => scat o ds (acc.set j.toNat d)
  | _, _, acc => acc
theorem scat_len : ∀ (o ds acc : List Int), (scat o ds acc).length = acc.length
  | [], ds, acc => by cases ds <;> rfl
  | j :: o, [], acc => rfl
  | j :: o, d :: ds, acc => by rw [scat, scat_len o ds, List.length_set]
theorem nth_set_ne {l : List Int} {n m : Nat} {v : Int} (h : n ≠ m) : nth (l.set n v) m = nth l m := by
  unfold nth
  rw [List.getElem?_set_ne h]
theorem nth_set_same {l : List Int} {n : Nat} {v : Int} (h : n < l.length) : nth (l.set n v) n = v := by
  unfold nth
  rw [List.getElem?_set_self h]
  rfl
theorem S_set : ∀ (ss ds : List Int) (n : Nat) (v : Int), n < ss.length → n < ds.length → S ss (ds.set n v) = S ss ds + nth ss n * (v - nth ds n)
  | [], ds, n, v, h, _ => by simp at h
  | s :: ss, [], n, v, _, h => by simp at h
  | s :: ss, d :: ds, 0, v, _, _ => by simp only [List.set_cons_zero, S, nth_zero]; rw [Int.mul_sub]; omega
  | s :: ss, d :: ds, n + 1, v, h1, h2 => by
    simp only [List.set_cons_succ, S, nth_succ]
    rw [S_set ss ds n v (by simpa using h1) (by simpa using h2)]
    omega
theorem S_scat {ss : List Int} : ∀ (o ds acc : List Int), o.length = ds.length → o.Nodup → (∀ j, j ∈ o → 0 ≤ j ∧ j.toNat < acc.length) → (∀ j, j ∈ o → nth acc j.toNat = 0) → acc.length = ss.length →
    S ss (scat o ds acc) = S ss acc + S (o.map fun j => nth ss j.toNat) ds
  | [], ds, acc, _, _, _, _, _ => by cases ds <;> simp [scat, S]
  | j :: o, [], acc, h, _, _, _, _ => by simp at h
  | j :: o, d :: ds, acc, h, hn, hr, hz, hl => by
    rw [List.nodup_cons] at hn
    have hj := hr j (.head _)
    rw [scat, S_scat o ds _ (by simpa using h) hn.2 (fun i hi => by rw [List.length_set]; exact hr i (.tail _ hi)) (fun i hi => ?_) (by rw [List.length_set]; exact hl)]
    · rw [S_set ss acc j.toNat d (by omega) hj.2, hz j (.head _)]
      simp only [List.map_cons, S]
      rw [Int.sub_zero]
      omega
    · have hne : j.toNat ≠ i.toNat := by
        intro e
        have hi' := hr i (.tail _ hi)
        have : j = i := by omega
        exact hn.1 (this ▸ hi)
      rw [nth_set_ne hne]
      exact hz i (.tail _ hi)
theorem nth_scat {Q : Nat → Int → Prop} : ∀ (o ds acc : List Int), (∀ j, j ∈ o → j.toNat < acc.length) → (∀ m, m < acc.length → Q m (nth acc m)) → (∀ t, t ∈ o.zip ds → Q t.1.toNat t.2) → ∀ m, m < acc.length → Q m (nth (scat o ds acc) m)
  | [], ds, acc, _, h, _ => by cases ds <;> exact h
  | j :: o, [], acc, _, h, _ => h
  | j :: o, d :: ds, acc, hr, h, hq => by
    intro m hm
    rw [scat]
    refine nth_scat o ds (acc.set j.toNat d) (fun i hi => by rw [List.length_set]; exact hr i (.tail _ hi)) (fun i hi => ?_) (fun t ht => hq t (by rw [List.zip_cons_cons]; exact .tail _ ht)) m (by rw [List.length_set]; exact hm)
    rw [List.length_set] at hi
    by_cases e : j.toNat = i
    · subst e
      rw [nth_set_same hi]
      exact hq (j, d) (by rw [List.zip_cons_cons]; exact .head _)
    · rw [nth_set_ne e]
      exact h i hi
theorem inBase_of : ∀ (es ds : List Int), es.length = ds.length → (∀ i, i < es.length → 0 ≤ nth ds i ∧ nth ds i < nth es i) → inBase es ds
  | [], [], _, _ => trivial
  | [], _ :: _, h, _ => by simp at h
  | _ :: _, [], h, _ => by simp at h
  | e :: es, d :: ds, h, hi => by
    have h0 := hi 0 (by simp)
    rw [nth_zero, nth_zero] at h0
    refine ⟨h0.1, h0.2, inBase_of es ds (by simpa using h) fun i hl => ?_⟩
    have := hi (i + 1) (by simpa using hl)
    rwa [nth_succ, nth_succ] at this
theorem inBase_nth {es ds : List Int} (h : inBase es ds) : es.length = ds.length ∧ ∀ i, i < es.length → 0 ≤ nth ds i ∧ nth ds i < nth es i := by
  obtain ⟨h1, h2⟩ := inBase_get h
  refine ⟨h1, fun i hi => ?_⟩
  have := h2 i hi (by omega)
  simpa [nth, hi, show i < ds.length by omega] using this
theorem P_perm {xs ys : List Int} (h : xs.Perm ys) : P xs = P ys := by
  induction h with
  | nil => rfl
  | cons x _ ih => simp only [P, ih]
  | swap x y l => simp only [P]; rw [← Int.mul_assoc, ← Int.mul_assoc, Int.mul_comm y x]
  | trans _ _ h1 h2 => exact h1.trans h2
theorem map_iota0 (sh : List Int) : (iota0 sh.length).map (fun j => nth sh j.toNat) = sh := by
  apply List.ext_getElem
  · simp [iota0]
  · intro i h1 h2
    simp [iota0, nth, h2]
theorem foldl_scat : ∀ (l ds acc : List Int), (l.zip ds).foldl (fun (b : List Int) (t : Int × Int) => b.set (w (t.1 - 1)).toNat t.2) acc = scat (l.map fun x => w (x - 1)) ds acc
  | [], ds, acc => by cases ds <;> rfl
  | x :: l, [], acc => rfl
  | x :: l, d :: ds, acc => by rw [List.zip_cons_cons, List.foldl_cons, foldl_scat l ds]; rfl
theorem range_fold {β τ : Type} {step : Int × β → Option (Sum (Int × β) τ)} (n : Int) (f : β → Nat → β) (fin : β → τ) (Inv : β → Prop) {a : β} (h0 : 0 ≤ n) (hn : n < 16777216)
    (h : ∀ i : Nat, (i : Int) < n → ∀ b : β, Inv b → step (i, b) = some (.inl (((i + 1 : Nat) : Int), f b i)) ∧ Inv (f b i)) (hend : ∀ b, step (n, b) = some (.inr (fin b))) (hI : Inv a) :
    loopO step (0, a) = some (fin ((List.range n.toNat).foldl f a)) := by
  have hl : (List.range n.toNat).length = n.toNat := by simp
  have hc : ((List.range n.toNat).length : Int) = n := by rw [hl]; omega
  refine loop_fold (step := step) (List.range n.toNat) (fun i b => (i, b)) fin f (fun _ b => Inv b) rfl ?_ ?_ hI (by omega)
  · intro i hi b hb
    have : (List.range n.toNat)[i] = i := by simp
    rw [this]
    exact h i (by omega) b hb
  · intro b _; rw [hc]; exact hend b
structure Rsh (sh o : List Int) : Prop where
  len : sh.length ≤ 7
  r : ∀ e, e ∈ sh → 0 ≤ e ∧ e ≤ 512
  p : prodE sh ≤ 512
  perm : o.Perm (iota0 sh.length)
def turn (sh o : List Int) : List Int := o.map fun j => nth sh j.toNat
def rpos (sh o : List Int) (k : Nat) : Int := H sh (scat o (dig (turn sh o) k) (List.replicate sh.length 0))
section
variable {sh o : List Int}
theorem Rsh.olen (h : Rsh sh o) : o.length = sh.length := by rw [h.perm.length_eq]; simp [iota0]
theorem Rsh.mem (h : Rsh sh o) {j : Int} (hj : j ∈ o) : 0 ≤ j ∧ j.toNat < sh.length := by
  obtain ⟨i, hi, rfl⟩ := List.mem_map.1 ((h.perm.mem_iff).1 hj)
  have := List.mem_range.1 hi
  omega
theorem Rsh.nodup (h : Rsh sh o) : o.Nodup := (h.perm.nodup_iff).2 (iota0_nodup _)
theorem Rsh.turn_perm (h : Rsh sh o) : (turn sh o).Perm sh := by
  have := h.perm.map (fun j => nth sh j.toNat)
  rw [map_iota0] at this
  exact this
theorem Rsh.digs (h : Rsh sh o) {k : Nat} (hk : (k : Int) < prodE sh) : (∀ e, e ∈ turn sh o → 1 ≤ e) ∧ inBase (turn sh o) (dig (turn sh o) k) ∧ P sh = prodE sh ∧ (∀ e, e ∈ sh → 1 ≤ e) := by
  obtain ⟨z1, z2, z3⟩ := prodE_small h.r
  obtain ⟨y1, y2⟩ := z3 (by omega)
  have hp := h.p
  have hP : P sh = prodE sh := by omega
  have t1 : ∀ e, e ∈ turn sh o → 1 ≤ e := fun e he => y1 e (h.turn_perm.mem_iff.1 he)
  have hT : P (turn sh o) = P sh := P_perm h.turn_perm
  exact ⟨t1, (dig_ok t1 (by omega) (by omega)).1, hP, y1⟩
theorem Rsh.pos (h : Rsh sh o) {k : Nat} (hk : (k : Int) < prodE sh) :
    inBase sh (scat o (dig (turn sh o) k) (List.replicate sh.length 0)) ∧ S (o.map fun j => nth (str 1 sh) j.toNat) (dig (turn sh o) k) = rpos sh o k ∧ 0 ≤ rpos sh o k ∧ rpos sh o k < prodE sh := by
  obtain ⟨t1, tb, hP, y1⟩ := h.digs hk
  have hol := h.olen
  have dl : (dig (turn sh o) k).length = o.length := by rw [dig_len]; simp [turn]
  have ib : inBase sh (scat o (dig (turn sh o) k) (List.replicate sh.length 0)) := by
    refine inBase_of _ _ (by rw [scat_len]; simp) fun i hi => ?_
    refine nth_scat (Q := fun m v => 0 ≤ v ∧ v < nth sh m) o _ _ (fun j hj => by simpa using (h.mem hj).2) (fun m hm => ?_) (fun t ht => ?_) i (by simpa using hi)
    · have hm' : m < sh.length := by simpa using hm
      have : nth (List.replicate sh.length (0 : Int)) m = 0 := by simp [nth, hm']
      rw [this]
      have := y1 (nth sh m) (by simp [nth, hm'])
      omega
    · obtain ⟨i, hi, rfl⟩ := List.getElem_of_mem ht
      simp only [List.length_zip] at hi
      have hi1 : i < o.length := by omega
      have hi2 : i < (dig (turn sh o) k).length := by omega
      rw [List.getElem_zip]
      have := (inBase_nth tb).2 i (by simpa [turn] using hi1)
      have e4 : nth (dig (turn sh o) k) i = (dig (turn sh o) k)[i] := by unfold nth; rw [List.getElem?_eq_getElem hi2]; rfl
      have e5 : nth (turn sh o) i = nth sh o[i].toNat := by simp [nth, turn, hi1]
      rw [e4, e5] at this
      exact this
  have hp := h.p
  obtain ⟨s1, s2⟩ := S_str _ _ 1 ib (by omega) (by omega)
  have hz : S (str 1 sh) (List.replicate sh.length 0) = 0 := by
    have : ∀ (ss : List Int) (n : Nat), S ss (List.replicate n 0) = 0 := by
      intro ss
      induction ss with
      | nil => intro n; cases n <;> simp [S]
      | cons s ss ih => intro n; cases n with | zero => simp [S] | succ n => simp [List.replicate_succ, S, ih]
    exact this _ _
  have hs := S_scat (ss := str 1 sh) o (dig (turn sh o) k) (List.replicate sh.length 0) dl.symm h.nodup (fun j hj => by simpa using h.mem hj) (fun j hj => by have := (h.mem hj).2; simp [nth, this]) (by simp [str_len])
  have r := H_range ib
  refine ⟨ib, ?_, r.1, by have := r.2; unfold rpos; omega⟩
  unfold rpos
  omega
end
def rsrc (els pad : List Int) (k : Nat) : Int := if (k : Int) < (els.length : Int) then elAt els k else elAt pad (((k : Int) - els.length) % pad.length)
def rout (els pad sh o : List Int) : List Int := (List.range (prodE sh).toNat).foldl (fun b k => b.set (rpos sh o k).toNat (rsrc els pad k)) (List.replicate (prodE sh).toNat 0)
theorem foldl_set_len {f : Nat → Nat} {g : Nat → Int} : ∀ (ks : List Nat) (b : List Int), (ks.foldl (fun b k => b.set (f k) (g k)) b).length = b.length
  | [], b => rfl
  | k :: ks, b => by rw [List.foldl_cons, foldl_set_len ks, List.length_set]
theorem rout_len (els pad sh o : List Int) : (rout els pad sh o).length = (prodE sh).toNat := by unfold rout; rw [foldl_set_len]; simp
theorem pad_at {els pad : List Int} {k : Nat} {n : Int} (hk : (k : Int) < n) (hn : n ≤ 512) (hp : pad.length < 16777216) (he : els.length < 16777216) (hne : ¬ (n > (els.length : Int) ∧ pad.length = 0)) (h : ¬ (k : Int) < (els.length : Int)) :
    (rem (w ((k : Int) - (els.length : Int))) (pad.length : Int)).bind (fun x => at_ pad x) = some (rsrc els pad k) := by
  have h0 : pad.length ≠ 0 := fun e => hne ⟨by omega, e⟩
  rw [w_id (by omega) (by omega)]
  unfold rem
  rw [if_neg (by omega)]
  simp only [Option.bind_some]
  rw [Int.tmod_eq_emod_of_nonneg (by omega)]
  have m1 := Int.emod_nonneg ((k : Int) - (els.length : Int)) (show (pad.length : Int) ≠ 0 by omega)
  have m2 := Int.emod_lt_of_pos ((k : Int) - (els.length : Int)) (show (0 : Int) < (pad.length : Int) by omega)
  rw [at_el m1 m2]
  unfold rsrc
  rw [if_neg h]
theorem mk_zero {n : Int} (h0 : 0 ≤ n) (h1 : n ≤ 16777216) : mkSl n (0 : Int) = some (List.replicate n.toNat 0) := by unfold mkSl; rw [if_pos ⟨h0, h1⟩]
section
variable {a : api_Array} {x : api_Reshape} {o : List Int}
theorem prog_loop (h : Rsh x.Shape o) {bo : Bool} (he : a.Elements.length < 16777216) (hpd : x.Pad.length < 16777216) (hne : ¬ (prodE x.Shape > (a.Elements.length : Int) ∧ x.Pad.length = 0)) :
    loopO (shapes_Reshape.s2 a x (prodE x.Shape) (o, bo) (str 1 x.Shape) (turn x.Shape o)) (0, List.replicate (prodE x.Shape).toNat 0) = some (rout a.Elements x.Pad x.Shape o) := by
  obtain ⟨z1, z2, z3⟩ := prodE_small h.r
  have hp := h.p
  have hol := h.olen
  have hl7 := h.len
  refine range_fold (step := shapes_Reshape.s2 a x (prodE x.Shape) (o, bo) (str 1 x.Shape) (turn x.Shape o)) (prodE x.Shape) (fun b k => b.set (rpos x.Shape o k).toNat (rsrc a.Elements x.Pad k)) (fun b => b) (fun b => b.length = (prodE x.Shape).toNat) z1 (by omega) ?_ ?_ (by simp)
  · intro k hk b hb
    refine ⟨?_, by simpa using hb⟩
    obtain ⟨t1, tb, hP, y1⟩ := h.digs hk
    obtain ⟨ib, e1, p0, p1⟩ := h.pos hk
    simp only [shapes_Reshape.s2, hk, if_true]
    have tl : (turn x.Shape o).length = o.length := by simp [turn]
    rw [digits_eq t1 (by omega) (by omega) (by omega)]
    simp only [Option.bind_some]
    have dl : (dig (turn x.Shape o) k).length = o.length := by rw [dig_len, tl]
    have sl := str_len x.Shape 1
    generalize hds : dig (turn x.Shape o) k = ds at *
    have hz : (ds.zip (o.map fun j => nth (str 1 x.Shape) j.toNat)).length = ds.length := by simp; omega
    rw [loop_fold (step := shapes_Reshape.s3 (o, bo) (str 1 x.Shape) ds) (ds.zip (o.map fun j => nth (str 1 x.Shape) j.toNat)) (fun i (b : Int) => (b, i)) (fun b => b) sumF (fun _ _ => True) (a := 0) rfl ?_ ?_ trivial (by omega)]
    · simp only [Option.bind_some]
      obtain ⟨s1, s2⟩ := S_str _ _ 1 ib (by omega) (by omega)
      have nn : ∀ z, z ∈ o.map (fun j => nth (str 1 x.Shape) j.toNat) → 0 ≤ z := by
        intro z hz
        obtain ⟨j, hj, rfl⟩ := List.mem_map.1 hz
        have := (h.mem hj).2
        exact s2 _ (by simp [nth, sl, this])
      rw [fold_S _ _ 0 nn (inBase_nonneg tb) (by omega) (by omega)]
      have e2 : 0 + S (o.map fun j => nth (str 1 x.Shape) j.toNat) ds = rpos x.Shape o k := by omega
      rw [e2]
      have hat : ∃ v, at_ b (rpos x.Shape o k) = some v := ⟨elAt b (rpos x.Shape o k), at_el p0 (by omega)⟩
      obtain ⟨v, hv⟩ := hat
      by_cases hke : (k : Int) < (a.Elements.length : Int)
      · simp only [hke, if_true]
        rw [at_el (by omega) hke]
        simp only [Option.bind_some, hv]
        rw [wn (by omega)]
        unfold rsrc
        rw [if_pos hke]
      · simp only [hke, if_false]
        have := pad_at hk hp hpd he hne hke
        obtain ⟨q, hq1, hq2⟩ := Option.bind_eq_some_iff.1 this
        rw [hq1]
        simp only [Option.bind_some, hq2, hv]
        rw [wn (by omega)]
    · intro i hi b _
      refine ⟨?_, trivial⟩
      rw [hz] at hi
      have h2 : i < o.length := by omega
      have hm := h.mem (List.getElem_mem h2)
      have h3 : o[i].toNat < (str 1 x.Shape).length := by omega
      have e3 : at_ (str 1 x.Shape) o[i] = some (nth (str 1 x.Shape) o[i].toNat) := by
        have := nth_lt h3
        rwa [Int.toNat_of_nonneg hm.1] at this
      simp only [shapes_Reshape.s3, lt_len hi, if_true, at_lt hi, at_lt h2, Option.bind_some, e3, List.getElem_zip, List.getElem_map, sumF]
      rw [wn (by omega)]
    · intro b _; rw [hz]; simp only [shapes_Reshape.s3, not_lt_len, if_false]
  · intro b; simp only [shapes_Reshape.s2, Int.lt_irrefl, if_false]
theorem ref_loop {l : List Int} (hlo : l.map (fun z => w (z - 1)) = o) (h : Rsh x.Shape o) (he : a.Elements.length < 16777216) (hpd : x.Pad.length < 16777216) (hne : ¬ (prodE x.Shape > (a.Elements.length : Int) ∧ x.Pad.length = 0)) :
    loopO (ref15_Reshaped.s6 a x (prodE x.Shape) l (turn x.Shape o)) (0, List.replicate (prodE x.Shape).toNat 0) = some (rout a.Elements x.Pad x.Shape o) := by
  obtain ⟨z1, z2, z3⟩ := prodE_small h.r
  have hp := h.p
  have hol := h.olen
  have hl7 := h.len
  have hll : l.length = o.length := by rw [← hlo]; simp
  refine range_fold (step := ref15_Reshaped.s6 a x (prodE x.Shape) l (turn x.Shape o)) (prodE x.Shape) (fun b k => b.set (rpos x.Shape o k).toNat (rsrc a.Elements x.Pad k)) (fun b => b) (fun b => b.length = (prodE x.Shape).toNat) z1 (by omega) ?_ ?_ (by simp)
  · intro k hk b hb
    refine ⟨?_, by simpa using hb⟩
    obtain ⟨t1, tb, hP, y1⟩ := h.digs hk
    obtain ⟨ib, e1, p0, p1⟩ := h.pos hk
    simp only [ref15_Reshaped.s6, hk, if_true]
    have tl : (turn x.Shape o).length = o.length := by simp [turn]
    rw [refIndexes_eq t1 (by omega) (by omega) (by omega)]
    simp only [Option.bind_some]
    have dl : (dig (turn x.Shape o) k).length = o.length := by rw [dig_len, tl]
    rw [mk_zero (by omega) (by omega)]
    simp only [Option.bind_some, Int.toNat_natCast]
    have hrep : (dig (turn x.Shape o) k).length = x.Shape.length := by omega
    rw [hrep]
    have hz : (l.zip (dig (turn x.Shape o) k)).length = (dig (turn x.Shape o) k).length := by simp; omega
    rw [loop_fold (step := ref15_Reshaped.s7 l (dig (turn x.Shape o) k)) (l.zip (dig (turn x.Shape o) k)) (fun i (b : List Int) => (i, b)) (fun b => b) (fun (b : List Int) (t : Int × Int) => b.set (w (t.1 - 1)).toNat t.2) (fun _ b => b.length = x.Shape.length) (a := List.replicate x.Shape.length 0) rfl ?_ ?_ (by simp) (by omega)]
    · rw [foldl_scat, hlo]
      simp only [Option.bind_some]
      have hpl : ref15_Place x.Shape (scat o (dig (turn x.Shape o) k) (List.replicate x.Shape.length 0)) = some (rpos x.Shape o k) :=
        refPlace_eq ib (by omega) (fun e he => (h.r e he).2) (inBase_nth ib).1 (by omega)
      have hv : at_ b (rpos x.Shape o k) = some (elAt b (rpos x.Shape o k)) := at_el p0 (by omega)
      by_cases hke : (k : Int) < (a.Elements.length : Int)
      · simp only [hke, if_true]
        rw [at_el (by omega) hke]
        simp only [Option.bind_some, hpl, hv]
        rw [wn (by omega)]
        unfold rsrc
        rw [if_pos hke]
      · simp only [hke, if_false]
        have := pad_at hk hp hpd he hne hke
        obtain ⟨q, hq1, hq2⟩ := Option.bind_eq_some_iff.1 this
        rw [hq1]
        simp only [Option.bind_some, hq2, hpl, hv]
        rw [wn (by omega)]
    · intro i hi c hc
      refine ⟨?_, by simpa using hc⟩
      rw [hz] at hi
      have h2 : i < l.length := by omega
      have h2o : i < o.length := by omega
      have hoi : o[i] = w (l[i] - 1) := by simp [← hlo]
      have hm := h.mem (List.getElem_mem h2o)
      rw [hoi] at hm
      have hv : at_ c (w (l[i] - 1)) = some (elAt c (w (l[i] - 1))) := at_el hm.1 (by omega)
      simp only [ref15_Reshaped.s7, lt_len hi, if_true, at_lt hi, at_lt h2, Option.bind_some, hv, List.getElem_zip]
      rw [wn (by omega)]
    · intro b _; rw [hz]; simp only [ref15_Reshaped.s7, not_lt_len, if_false]
  · intro b; simp only [ref15_Reshaped.s6, Int.lt_irrefl, if_false]
end
end Go.Sh
namespace Go.Sh
open Go.Lx
set_option linter.unusedVariables false
set_option linter.unusedSimpArgs false
def oddS (sh : List Int) : Bool := sh.any fun x => !shapes_inside x 0 512
def badP (pad : List Int) : Bool := pad.any fun x => !shapes_isInteger x
theorem odd_eq {p : List Int} (h : p.length < 16777216) : slices_ContainsFunc_int__shapes_reshapeErr_c1 p = some (oddS p) := by
  unfold slices_ContainsFunc_int__shapes_reshapeErr_c1 slices_IndexFunc_int__shapes_reshapeErr_c1
  have key := loop_scan (ρ := Nat) (β := Unit) (τ := Sum Unit Int) (step := slices_IndexFunc_int__shapes_reshapeErr_c1.s1 p) p (fun i (_ : Unit) => i) (fun k => .inr (k : Int)) (fun _ => .inl ())
    (fun i b x => if (!shapes_inside x 0 512) = true then .inl i else .inr b) (fun _ _ => True) (a := ()) (s := 0) rfl ?_ ?_ trivial (by omega)
  · obtain ⟨k, _, hk⟩ := scanE_any (p := fun x => !shapes_inside x 0 512) p 0
    rw [key, hk]
    unfold oddS
    by_cases hq : (p.any fun x => !shapes_inside x 0 512) = true
    · simp only [hq, if_true, Option.bind_some]
      have : (k : Int) ≥ 0 := by omega
      simp [this]
    · simp only [hq, if_false, Option.bind_some, Bool.false_eq_true]
      simp at hq ⊢
  · intro i hi b _
    refine ⟨?_, fun _ _ => trivial⟩
    simp only [slices_IndexFunc_int__shapes_reshapeErr_c1.s1, lt_len hi, if_true, at_lt hi, Option.bind_some, shapes_reshapeErr_c1]
    by_cases hx : (!shapes_inside p[i] 0 512) = true
    · simp only [hx, if_true]
    · simp only [hx, if_false, Bool.false_eq_true]; rw [wn (by omega)]
  · intro b _; simp only [slices_IndexFunc_int__shapes_reshapeErr_c1.s1, not_lt_len, if_false]
theorem bad_eq {p : List Int} (h : p.length < 16777216) : slices_ContainsFunc_int__shapes_reshapeErr_c2 p = some (badP p) := by
  unfold slices_ContainsFunc_int__shapes_reshapeErr_c2 slices_IndexFunc_int__shapes_reshapeErr_c2
  have key := loop_scan (ρ := Nat) (β := Unit) (τ := Sum Unit Int) (step := slices_IndexFunc_int__shapes_reshapeErr_c2.s1 p) p (fun i (_ : Unit) => i) (fun k => .inr (k : Int)) (fun _ => .inl ())
    (fun i b x => if (!shapes_isInteger x) = true then .inl i else .inr b) (fun _ _ => True) (a := ()) (s := 0) rfl ?_ ?_ trivial (by omega)
  · obtain ⟨k, _, hk⟩ := scanE_any (p := fun x => !shapes_isInteger x) p 0
    rw [key, hk]
    unfold badP
    by_cases hq : (p.any fun x => !shapes_isInteger x) = true
    · simp only [hq, if_true, Option.bind_some]
      have : (k : Int) ≥ 0 := by omega
      simp [this]
    · simp only [hq, if_false, Option.bind_some, Bool.false_eq_true]
      simp at hq ⊢
  · intro i hi b _
    refine ⟨?_, fun _ _ => trivial⟩
    simp only [slices_IndexFunc_int__shapes_reshapeErr_c2.s1, lt_len hi, if_true, at_lt hi, Option.bind_some, shapes_reshapeErr_c2]
    by_cases hx : (!shapes_isInteger p[i]) = true
    · simp only [hx, if_true]
    · simp only [hx, if_false, Bool.false_eq_true]; rw [wn (by omega)]
  · intro b _; simp only [slices_IndexFunc_int__shapes_reshapeErr_c2.s1, not_lt_len, if_false]
theorem broken5 (a b c d e : Bool) : shapes_broken [shapes_rule.mk a 2, shapes_rule.mk b 8, shapes_rule.mk c 3, shapes_rule.mk d 8, shapes_rule.mk e 2] = some (if a = true then (if b = true then (if c = true then (if d = true then (if e = true then 0 else 2) else 8) else 3) else 8) else 2) := by
  cases a <;> cases b <;> cases c <;> cases d <;> cases e <;> decide +kernel
theorem reshapeErr_eq {x : api_Reshape} (h1 : x.Shape.length < 16777216) (h2 : x.Order.length ≤ 1000000) (h3 : x.Pad.length < 16777216) :
    shapes_reshapeErr x = some (if (x.Shape.length : Int) > 7 then 32 else if oddS x.Shape = true then 2 else if prodE x.Shape > 512 then 8 else if (ordR x.Order x.Shape.length).2 = true then (if (x.Pad.length : Int) > 512 then 8 else if badP x.Pad = true then 2 else 0) else 3) := by
  unfold shapes_reshapeErr
  rw [odd_eq h1, orderOf_eq h2 h1, product_eq h1, bad_eq h3]
  simp only [Option.bind_some]
  by_cases c1 : (x.Shape.length : Int) > 7
  · simp only [c1, if_true]
  simp only [c1, if_false]
  by_cases c2 : oddS x.Shape = true
  · simp only [c2, if_true]
    rw [broken5]
    simp
  · simp only [c2, if_false, Bool.false_eq_true]
    have c2' : oddS x.Shape = false := by simpa using c2
    rw [broken5]
    simp only [Option.bind_some]
    by_cases c3 : prodE x.Shape > 512
    · have c3' : ¬ prodE x.Shape ≤ 512 := by omega
      simp [c3, c3']
    have c3' : prodE x.Shape ≤ 512 := by omega
    by_cases c4 : (ordR x.Order x.Shape.length).2 = true
    · by_cases c5 : (x.Pad.length : Int) > 512
      · have c5' : ¬ (x.Pad.length : Int) ≤ 512 := by omega
        simp [c3, c3', c4, c5, c5']
      · have c5' : (x.Pad.length : Int) ≤ 512 := by omega
        simp only [Bool.not_false, if_true, decide_eq_true c3', c3, if_false, c4, decide_eq_true c5', c5]
        cases badP x.Pad <;> rfl
    · simp [c3, c3', c4]
theorem odd_find {sh : List Int} (h : sh.length < 16777216) {x : api_Reshape} (hx : x.Shape = sh) : loopO (ref15_Reshaped.s1 x) 0 = some (if oddS sh = true then .inr (api_Array.mk [] [], 2) else .inl ()) := by
  subst hx
  rw [loop_find (step := ref15_Reshaped.s1 x) x.Shape (fun z => if (!shapes_inside z 0 512) = true then some () else none) (fun _ => .inr (api_Array.mk [] [], 2)) (.inl ()) rfl ?_ ?_ (by omega), findSome_const]
  · unfold oddS
    by_cases hq : (x.Shape.any fun z => !shapes_inside z 0 512) = true <;> simp only [hq, if_true, if_false, Bool.false_eq_true]
  · intro i hi
    simp only [ref15_Reshaped.s1, lt_len hi, if_true, at_lt hi, Option.bind_some, within_eq]
    by_cases hz : shapes_inside x.Shape[i] 0 512 = true
    · simp only [hz, not_true, if_false, Bool.not_true, Bool.false_eq_true]; rw [wn (by omega)]
    · have : shapes_inside x.Shape[i] 0 512 = false := by simpa using hz
      simp [this]
  · simp only [ref15_Reshaped.s1, not_lt_len, if_false]
theorem bad_find {x : api_Reshape} (h : x.Pad.length < 16777216) : loopO (ref15_Reshaped.s3 x) 0 = some (if badP x.Pad = true then .inr (api_Array.mk [] [], 2) else .inl ()) := by
  rw [loop_find (step := ref15_Reshaped.s3 x) x.Pad (fun z => if (!shapes_isInteger z) = true then some () else none) (fun _ => .inr (api_Array.mk [] [], 2)) (.inl ()) rfl ?_ ?_ (by omega), findSome_const]
  · unfold badP
    by_cases hq : (x.Pad.any fun z => !shapes_isInteger z) = true <;> simp only [hq, if_true, if_false, Bool.false_eq_true]
  · intro i hi
    simp only [ref15_Reshaped.s3, lt_len hi, if_true, at_lt hi, Option.bind_some, isInteger_eq]
    by_cases hz : shapes_isInteger x.Pad[i] = true
    · simp only [hz, not_true, if_false, Bool.not_true, Bool.false_eq_true]; rw [wn (by omega)]
    · have : shapes_isInteger x.Pad[i] = false := by simpa using hz
      simp [this]
  · simp only [ref15_Reshaped.s3, not_lt_len, if_false]
def ordL (x : api_Reshape) : List Int := if x.Order.length = 0 then iota1 x.Shape.length else x.Order
theorem w_iota1 {n : Nat} (h : n < 16777216) : (iota1 n).map (fun z => w (z - 1)) = iota0 n := by
  unfold iota1 iota0
  rw [List.map_map]
  apply List.map_congr_left
  intro i hi
  have := List.mem_range.1 hi
  simp only [Function.comp]
  rw [w_id (by omega) (by omega)]
  omega
theorem ordR_L {x : api_Reshape} (h1 : x.Shape.length < 16777216) (h : (ordR x.Order x.Shape.length).2 = true) : (ordR x.Order x.Shape.length).1 = (ordL x).map (fun z => w (z - 1)) ∧ ((ordL x).map fun z => w (z - 1)).Perm (iota0 x.Shape.length) ∧ (ordL x).length = x.Shape.length := by
  unfold ordR at h ⊢
  unfold ordL
  by_cases h0 : x.Order.length = 0
  · simp only [h0, if_true]
    rw [w_iota1 h1]
    exact ⟨rfl, .refl _, by simp [iota1]⟩
  · simp only [h0, if_false] at h ⊢
    by_cases hc : x.Order.length = x.Shape.length ∧ isOrd x.Order = true
    · rw [if_pos hc]
      refine ⟨rfl, ?_, hc.1⟩
      have hs := isOrd_iff.1 hc.2
      have p := isort_perm x.Order
      rw [hs, hc.1] at p
      have := (p.map fun z => w (z - 1)).symm
      rwa [w_iota1 h1] at this
    · rw [if_neg hc] at h
      cases h
theorem ord_tail {x : api_Reshape} (h1 : x.Shape.length < 100) (hl : x.Order.length = 0 ∨ x.Order.length = x.Shape.length) : loopO (ref15_Reshaped.s4 x) ((x.Order.length : Int), x.Order) = some (ordL x) := by
  unfold ordL
  rcases hl with h0 | h0
  · have hn : x.Order = [] := List.eq_nil_of_length_eq_zero h0
    rw [if_pos h0, hn]
    have := range_loop (step := ref15_Reshaped.s4 x) (x.Shape.length : Int) (fun i => (i : Int) + 1) (fun b => b) (by omega) (by omega) (fun i hi b hb => by
      simp only [ref15_Reshaped.s4, hi, if_true]
      rw [wn (by omega), app_one (by omega)]
      simp) (fun b => by simp only [ref15_Reshaped.s4, Int.lt_irrefl, if_false])
    rw [show ((([] : List Int).length : Nat) : Int) = 0 from rfl, this]
    simp [iota1]
  · by_cases hz : x.Order.length = 0
    · have hn : x.Order = [] := List.eq_nil_of_length_eq_zero hz
      have hs : x.Shape.length = 0 := by omega
      rw [if_pos hz, hn, hs]
      have e : ref15_Reshaped.s4 x (0, []) = some (.inr []) := by
        simp only [ref15_Reshaped.s4, hs]
        rfl
      exact loop_scan (ρ := Empty) (σ := Int × List Int) (step := ref15_Reshaped.s4 x) ([] : List Int) (fun i (b : List Int) => (i, b)) (fun e => e.elim) (fun b => b) (fun _ b _ => .inr b) (fun _ b => b = []) (a := []) rfl (fun i hi => absurd hi (by simp)) (fun b hb => by subst hb; exact e) rfl (by simp)
    · rw [if_neg hz, h0]
      have e : ref15_Reshaped.s4 x ((x.Shape.length : Int), x.Order) = some (.inr x.Order) := by simp only [ref15_Reshaped.s4, Int.lt_irrefl, if_false]
      have := loop_scan (ρ := Empty) (σ := Int × List Int) (step := ref15_Reshaped.s4 x) ([] : List Int) (fun i (b : List Int) => (i + x.Shape.length, b)) (fun e => e.elim) (fun b => b) (fun _ b _ => .inr b) (fun _ b => b = x.Order) (a := x.Order) (s := ((x.Shape.length : Int), x.Order)) (by simp) (fun i hi => absurd hi (by simp)) (fun b hb => by subst hb; simpa using e) rfl (by simp)
      exact this
section
variable {a : api_Array} {x : api_Reshape}
theorem ref_turn {o : List Int} (ho : (ordL x).map (fun z => w (z - 1)) = o) (h : Rsh x.Shape o) : loopO (ref15_Reshaped.s5 x (ordL x)) (0, []) = some (turn x.Shape o) := by
  have hol := h.olen
  have hl7 := h.len
  have hll : (ordL x).length = o.length := by rw [← ho]; simp
  rw [loop_map (step := ref15_Reshaped.s5 x (ordL x)) (ordL x) (fun z => nth x.Shape (w (z - 1)).toNat) (fun i b => (i, b)) (fun b => b) rfl ?_ ?_ (by omega)]
  · rw [← ho]; unfold turn; rw [List.map_map]; rfl
  · intro i hi b hb
    have hio : i < o.length := by omega
    have hoi : o[i] = w ((ordL x)[i] - 1) := by simp [← ho]
    have hm := h.mem (List.getElem_mem hio)
    rw [hoi] at hm
    have e3 : at_ x.Shape (w ((ordL x)[i] - 1)) = some (nth x.Shape (w ((ordL x)[i] - 1)).toNat) := by
      have := nth_lt hm.2
      rwa [Int.toNat_of_nonneg hm.1] at this
    simp only [ref15_Reshaped.s5, lt_len hi, if_true, at_lt hi, Option.bind_some, e3]
    rw [app_one (by omega), wn (by omega)]; rfl
  · intro b; simp only [ref15_Reshaped.s5, not_lt_len, if_false]
theorem prog_turn {o : List Int} {bo : Bool} (h : Rsh x.Shape o) : loopO (shapes_Reshape.s1 x (o, bo)) (0, []) = some (turn x.Shape o) := by
  have hol := h.olen
  have hl7 := h.len
  rw [loop_map (step := shapes_Reshape.s1 x (o, bo)) o (fun j => nth x.Shape j.toNat) (fun i b => (i, b)) (fun b => b) rfl ?_ ?_ (by omega)]
  · rfl
  · intro i hi b hb
    have hm := h.mem (List.getElem_mem hi)
    have e3 : at_ x.Shape o[i] = some (nth x.Shape o[i].toNat) := by
      have := nth_lt hm.2
      rwa [Int.toNat_of_nonneg hm.1] at this
    simp only [shapes_Reshape.s1, lt_len hi, if_true, at_lt hi, Option.bind_some, e3]
    rw [app_one (by omega), wn (by omega)]; rfl
  · intro b; simp only [shapes_Reshape.s1, not_lt_len, if_false]
theorem odd_range {sh : List Int} (h : ¬ oddS sh = true) : ∀ e, e ∈ sh → 0 ≤ e ∧ e ≤ 512 := by
  intro e he
  have : oddS sh = false := by simpa using h
  unfold oddS at this
  have := List.any_eq_false.1 this e he
  simp only [Bool.not_eq_true', Bool.not_eq_false] at this
  simpa [shapes_inside] using this
def rshR (a : api_Array) (x : api_Reshape) : api_Array × Int :=
  if (chk a).2 ≠ 0 then (⟨[], []⟩, (chk a).2) else if (x.Shape.length : Int) > 7 then (⟨[], []⟩, 32) else if oddS x.Shape = true then (⟨[], []⟩, 2) else if prodE x.Shape > 512 then (⟨[], []⟩, 8) else if ¬ (ordR x.Order x.Shape.length).2 = true then (⟨[], []⟩, 3) else if (x.Pad.length : Int) > 512 then (⟨[], []⟩, 8)
  else if badP x.Pad = true then (⟨[], []⟩, 2) else if prodE x.Shape > (a.Elements.length : Int) ∧ x.Pad.length = 0 then (⟨[], []⟩, 17) else (⟨ofExt x.Shape, rout a.Elements x.Pad x.Shape ((ordL x).map fun z => w (z - 1))⟩, 0)
theorem reshape_eq (ha : a.Elements.length < 16777216) (h1 : x.Shape.length < 100) (h2 : x.Order.length ≤ 1000000) (h3 : x.Pad.length < 16777216) : shapes_Reshape a x = some (rshR a x) := by
  unfold shapes_Reshape rshR
  rw [arraysErr1 ha, reshapeErr_eq (by omega) h2 h3, product_eq (by omega), orderOf_eq h2 (by omega)]
  simp only [Option.bind_some, cmpOr2]
  by_cases c0 : (chk a).2 = 0
  case neg => simp only [c0, if_false, not_false_eq_true, if_true, ne_eq]
  simp only [c0, if_true, ne_eq, not_true, if_false]
  by_cases c1 : (x.Shape.length : Int) > 7
  · simp only [c1, if_true]; rfl
  simp only [c1, if_false]
  by_cases c2 : oddS x.Shape = true
  · simp only [c2, if_true]; rfl
  simp only [c2, if_false, Bool.false_eq_true]
  by_cases c3 : prodE x.Shape > 512
  · simp only [c3, if_true]; rfl
  simp only [c3, if_false]
  by_cases c4 : (ordR x.Order x.Shape.length).2 = true
  case neg => simp only [c4, if_false, not_false_eq_true, if_true, Bool.false_eq_true]; rfl
  simp only [c4, if_true, not_true, if_false]
  by_cases c5 : (x.Pad.length : Int) > 512
  · simp only [c5, if_true]; rfl
  simp only [c5, if_false]
  by_cases c6 : badP x.Pad = true
  · simp only [c6, if_true]; rfl
  simp only [c6, if_false, Bool.false_eq_true, not_true]
  by_cases c7 : prodE x.Shape > (a.Elements.length : Int) ∧ x.Pad.length = 0
  · have : ((decide (prodE x.Shape > (a.Elements.length : Int))) && ((x.Pad.length : Int) == 0)) = true := by simp [c7.1, c7.2]
    rw [if_pos this, if_pos c7]
  have c7' : ((decide (prodE x.Shape > (a.Elements.length : Int))) && ((x.Pad.length : Int) == 0)) = false := by
    rw [Bool.eq_false_iff]
    intro hq
    simp only [Bool.and_eq_true, decide_eq_true_eq, beq_iff_eq] at hq
    exact c7 ⟨hq.1, by omega⟩
  simp only [c7', c7, if_false, Bool.false_eq_true]
  obtain ⟨r1, r2, r3⟩ := ordR_L (x := x) (by omega) c4
  have R : Rsh x.Shape ((ordL x).map fun z => w (z - 1)) := ⟨by omega, odd_range c2, by omega, r2⟩
  obtain ⟨z1, z2, z3⟩ := prodE_small R.r
  have e9 : ordR x.Order x.Shape.length = ((ordL x).map fun z => w (z - 1), (ordR x.Order x.Shape.length).2) := by rw [← r1]
  rw [e9, strides_eq (by omega)]
  simp only [Option.bind_some]
  rw [prog_turn R, from_eq (by omega), mk_zero z1 (by omega)]
  simp only [Option.bind_some]
  rw [prog_loop R ha h3 c7]
  rfl
theorem refReshaped_eq (ha : a.Elements.length < 16777216) (h1 : x.Shape.length < 100) (h2 : x.Order.length < 16777216) (h3 : x.Pad.length < 16777216) : ref15_Reshaped a x = some (rshR a x) := by
  unfold ref15_Reshaped rshR
  rw [refErr_eq ha, odd_find (sh := x.Shape) (by omega) rfl, refProduct_eq (by omega), isOrder_eq h2]
  simp only [Option.bind_some]
  by_cases c0 : (chk a).2 = 0
  case neg => simp only [c0, if_false, not_false_eq_true, if_true, ne_eq]
  simp only [c0, if_true, ne_eq, not_true, if_false]
  by_cases c1 : (x.Shape.length : Int) > 7
  · simp only [c1, if_true]
  simp only [c1, if_false]
  by_cases c2 : oddS x.Shape = true
  · simp only [c2, if_true]
  simp only [c2, if_false, Bool.false_eq_true]
  by_cases c3 : prodE x.Shape > 512
  · simp only [c3, if_true]
  simp only [c3, if_false]
  have tail : (ordR x.Order x.Shape.length).2 = true → (x.Order.length = 0 ∨ x.Order.length = x.Shape.length) → ref15_Reshaped.j2 a x (prodE x.Shape) () =
      some (if (x.Pad.length : Int) > 512 then (⟨[], []⟩, 8) else if badP x.Pad = true then (⟨[], []⟩, 2) else if prodE x.Shape > (a.Elements.length : Int) ∧ x.Pad.length = 0 then (⟨[], []⟩, 17) else (⟨ofExt x.Shape, rout a.Elements x.Pad x.Shape ((ordL x).map fun z => w (z - 1))⟩, 0)) := by
    intro c4 hlen
    unfold ref15_Reshaped.j2
    rw [bad_find h3]
    by_cases c5 : (x.Pad.length : Int) > 512
    · simp only [c5, if_true]
    simp only [c5, if_false, Option.bind_some]
    by_cases c6 : badP x.Pad = true
    · simp only [c6, if_true]
    simp only [c6, if_false, Bool.false_eq_true]
    by_cases c7 : prodE x.Shape > (a.Elements.length : Int) ∧ x.Pad.length = 0
    · have : ((decide (prodE x.Shape > (a.Elements.length : Int))) && ((x.Pad.length : Int) == 0)) = true := by simp [c7.1, c7.2]
      rw [if_pos this, if_pos c7]
    have c7' : ((decide (prodE x.Shape > (a.Elements.length : Int))) && ((x.Pad.length : Int) == 0)) = false := by
      rw [Bool.eq_false_iff]
      intro hq
      simp only [Bool.and_eq_true, decide_eq_true_eq, beq_iff_eq] at hq
      exact c7 ⟨hq.1, by omega⟩
    simp only [c7', c7, if_false, Bool.false_eq_true]
    obtain ⟨r1, r2, r3⟩ := ordR_L (x := x) (by omega) c4
    have R : Rsh x.Shape ((ordL x).map fun z => w (z - 1)) := ⟨by omega, odd_range c2, by omega, r2⟩
    obtain ⟨z1, z2, z3⟩ := prodE_small R.r
    rw [copyInts_eq (by omega)]
    simp only [Option.bind_some]
    rw [ord_tail h1 hlen]
    simp only [Option.bind_some]
    rw [ref_turn rfl R, mk_zero z1 (by omega)]
    simp only [Option.bind_some]
    rw [ref_loop rfl R ha h3 c7]
    simp only [Option.bind_some]
    rw [refOf_eq (by omega)]
    rfl
  by_cases c8 : (x.Order.length : Int) > 0
  · simp only [c8, if_true]
    have h0 : ¬ x.Order.length = 0 := by omega
    by_cases c9 : (x.Order.length : Int) = (x.Shape.length : Int)
    · have c9' : x.Order.length = x.Shape.length := by omega
      simp only [c9, not_true, if_false]
      by_cases c10 : isOrd x.Order = true
      · have c4 : (ordR x.Order x.Shape.length).2 = true := by unfold ordR; rw [if_neg h0, if_pos ⟨c9', c10⟩]
        simp only [c10, not_true, if_false, c4]
        exact tail c4 (.inr c9')
      · have c4 : ¬ (ordR x.Order x.Shape.length).2 = true := by unfold ordR; rw [if_neg h0, if_neg (fun q => c10 q.2)]; simp
        simp only [c10, not_false_eq_true, if_true, c4, Bool.false_eq_true]
    · have c4 : ¬ (ordR x.Order x.Shape.length).2 = true := by unfold ordR; rw [if_neg h0, if_neg (fun q => c9 (by omega))]; simp
      simp only [c9, not_false_eq_true, if_true, c4, Bool.false_eq_true]
  · simp only [c8, if_false]
    have h0 : x.Order.length = 0 := by omega
    have c4 : (ordR x.Order x.Shape.length).2 = true := by unfold ordR; rw [if_pos h0]
    simp only [c4, not_true, if_false]
    exact tail c4 (.inl h0)
theorem rshR_len (h1 : x.Shape.length < 100) : (rshR a x).1.Bounds.length < 100 ∧ (rshR a x).1.Elements.length < 16777216 := by
  unfold rshR
  repeat' split
  all_goals first
    | exact ⟨by show ([] : List api_Bound).length < 100; decide, by show ([] : List Int).length < 16777216; decide⟩
    | exact ⟨by show (ofExt x.Shape).length < 100; unfold ofExt; rw [List.length_map]; exact h1, by show (rout _ _ _ _).length < 16777216; rw [rout_len]; omega⟩
end
theorem ShapesReshapes_true (a : api_Array) (x : api_Reshape) : law15_ShapesReshapes a x = some true := by
  unfold law15_ShapesReshapes
  rw [awake_eq]
  simp only [Option.bind_some, not_true, if_false]
  by_cases hg : ((((!(law15_few a)) || (decide ((x.Shape.length : Int) > 9))) || (decide ((x.Order.length : Int) > 9))) || (decide ((x.Pad.length : Int) > 80))) = true
  · simp only [hg, if_true]
  simp only [hg, if_false, Bool.false_eq_true]
  simp only [Bool.or_eq_true, Bool.not_eq_true', decide_eq_true_eq, not_or] at hg
  obtain ⟨⟨⟨g1, g2⟩, g3⟩, g4⟩ := hg
  have fa := few_ok (a := a) (by simpa using g1)
  rw [refCopy_eq (by omega) (by omega), copyInts_eq (by omega), copyInts_eq (by omega), copyInts_eq (by omega)]
  simp only [Option.bind_some]
  change ((shapes_Reshape a x).bind _) = _
  rw [reshape_eq (by omega) (by omega) (by omega) (by omega), refReshaped_eq (by omega) (by omega) (by omega) (by omega)]
  simp only [Option.bind_some]
  have := rshR_len (a := a) (x := x) (by omega)
  rw [is_self (by omega) (by omega)]
  rfl
end Go.Sh
