/- What the functions compute answers as the statement says. -/
import Derived.Test.YtndpfldakcdbiaaShapesBackSh
set_option linter.all false
namespace Go.Sh
open Go.Lx
set_option linter.unusedVariables false
set_option linter.unusedSimpArgs false
theorem awake_eq : law15_awake = some true := by decide +kernel
theorem lt_len {i n : Nat} (h : i < n) : ((i : Int) < (n : Int)) = True := eq_true (by omega)
theorem not_lt_len (n : Nat) : ((n : Int) < (n : Int)) = False := eq_false (by omega)
theorem copyBounds_eq {p : List api_Bound} (h : p.length ≤ 16777216) : ref15_CopyBounds p = some p := by
  unfold ref15_CopyBounds; rw [app_nil h]; rfl
theorem copyInts_eq {p : List Int} (h : p.length ≤ 16777216) : base_CopyInts p = some p := by
  unfold base_CopyInts; rw [mkSl_len h]; simp [copied_all]
theorem extents_eq {p : List api_Bound} (h : p.length < 16777216) : shapes_extents p = some (p.map shapes_extent) := by
  unfold shapes_extents
  rw [loop_map p shapes_extent (fun i b => (i, b)) (fun b => b) rfl ?_ ?_ (by omega)]
  · rfl
  · intro i hi b hb
    simp only [shapes_extents.s1, lt_len hi, if_true, at_lt hi, Option.bind_some]
    rw [app_one (by omega), wn (by omega)]; rfl
  · intro b; simp only [shapes_extents.s1, not_lt_len, if_false]
theorem refExtents_eq {p : List api_Bound} (h : p.length < 16777216) : ref15_Extents p = some (p.map shapes_extent) := by
  unfold ref15_Extents
  rw [loop_map p shapes_extent (fun i b => (i, b)) (fun b => b) rfl ?_ ?_ (by omega)]
  · rfl
  · intro i hi b hb
    simp only [ref15_Extents.s1, lt_len hi, if_true, at_lt hi, Option.bind_some]
    rw [app_one (by omega), wn (by omega)]; rfl
  · intro b; simp only [ref15_Extents.s1, not_lt_len, if_false]
theorem index_any (p : List Int) (v : Int) (h : p.length < 16777216) : ∃ k : Nat, slices_Index_int p v = some (if p.any (fun x => v == x) = true then (k : Int) else -1) := by
  unfold slices_Index_int
  obtain ⟨k, hk⟩ := loop_any (step := slices_Index_int.s1 p v) p (fun x => v == x) (fun i => Sum.inr i) (Sum.inl ()) (s := 0) rfl (fun i hi => by
    simp only [slices_Index_int.s1, lt_len hi, if_true, at_lt hi, Option.bind_some]
    by_cases e : v = p[i]
    · simp [e]
    · simp only [e, if_false, beq_iff_eq]; rw [wn (by omega)]) (by simp only [slices_Index_int.s1, not_lt_len, if_false]) (by omega)
  refine ⟨k, ?_⟩
  rw [hk]
  by_cases e : p.any (fun x => v == x) = true
  · rw [if_pos e, if_pos e]; rfl
  · rw [if_neg e, if_neg e]; rfl
theorem contains_eq {p : List Int} {v : Int} (h : p.length < 16777216) : slices_Contains_int p v = some (p.any (fun x => v == x)) := by
  unfold slices_Contains_int
  obtain ⟨k, hk⟩ := index_any p v h
  rw [hk]
  by_cases e : p.any (fun x => v == x) = true
  · rw [if_pos e, e]; simp
  · rw [if_neg e, eq_false_of_ne_true e]; rfl
def capP (xs : List Int) : Int := xs.foldl (fun a x => mn (w (a * mn x 513)) 513) 1
def prodE (xs : List Int) : Int := if xs.any (fun x => 0 == x) = true then 0 else capP xs
theorem product_eq {p : List Int} (h : p.length < 16777216) : shapes_product p = some (prodE p) := by
  unfold shapes_product
  rw [loop_fold (step := shapes_product.s1 p) p (fun i b => (b, i)) (fun b => b) (fun a x => mn (w (a * mn x 513)) 513) (fun _ _ => True) (a := 1) rfl ?_ ?_ trivial (by omega)]
  · simp only [Option.bind_some, contains_eq h]
    unfold prodE capP
    split <;> rfl
  · intro i hi b _
    refine ⟨?_, trivial⟩
    simp only [shapes_product.s1, lt_len hi, if_true, at_lt hi, Option.bind_some]
    rw [wn (by omega)]
  · intro b _; simp only [shapes_product.s1, not_lt_len, if_false]
theorem scan_prod : ∀ (xs : List Int) (i : Nat) (a : Int), scanE (ρ := Unit) (fun _ (b : Int) x => if x = 0 then .inl () else .inr (mn (w (b * mn x 513)) 513)) i xs a = (if xs.any (fun x => 0 == x) = true then .inl () else .inr (xs.foldl (fun a x => mn (w (a * mn x 513)) 513) a))
  | [], i, a => rfl
  | x :: xs, i, a => by
    simp only [scanE, List.any_cons, List.foldl_cons]
    by_cases e : x = 0
    · subst e; simp
    · have e' : (0 == x) = false := by simp; exact fun q => e q.symm
      simp only [e, if_false, e', Bool.false_or]
      exact scan_prod xs (i + 1) _
theorem refProduct_eq {p : List Int} (h : p.length < 16777216) : ref15_Product p = some (prodE p) := by
  unfold ref15_Product
  rw [loop_scan (step := ref15_Product.s1 p) p (fun i b => (b, i)) (fun (_ : Unit) => Sum.inr 0) (fun b => Sum.inl b) (fun _ (b : Int) x => if x = 0 then .inl () else .inr (mn (w (b * mn x 513)) 513)) (fun _ _ => True) (a := 1) rfl ?_ ?_ trivial (by omega)]
  · rw [scan_prod]
    unfold prodE capP
    by_cases e : p.any (fun x => 0 == x) = true
    · simp only [e, if_true]; rfl
    · simp only [e, if_false]; rfl
  · intro i hi b _
    refine ⟨?_, fun _ _ => trivial⟩
    simp only [ref15_Product.s1, lt_len hi, if_true, at_lt hi, Option.bind_some]
    by_cases e : p[i] = 0
    · simp only [e, if_true]
    · simp only [e, if_false]; rw [wn (by omega)]
  · intro b _; simp only [ref15_Product.s1, not_lt_len, if_false]
def num (b : api_Bound) : Bool := shapes_isNumber b.Low && shapes_isNumber b.High
def bErr (p : List api_Bound) : Int := if (p.length : Int) > 7 then 32 else if p.any (fun b => !num b) = true then 2 else if p.any (fun b => decide (shapes_extent b > 512)) = true then 8 else if prodE (p.map shapes_extent) > 512 then 8 else 0
theorem within_eq (a b c : Int) : base_Within a b c = shapes_inside a b c := by
  unfold base_Within shapes_inside
  simp only [Bool.not_or, ← decide_not]
  congr 1 <;> exact decide_eq_decide.2 (by omega)
theorem findSome_const {α ρ : Type} {p : α → Bool} {c : ρ} : ∀ xs : List α, xs.findSome? (fun x => if p x = true then some c else none) = if xs.any p = true then some c else none
  | [] => rfl
  | x :: xs => by
    simp only [List.findSome?_cons, List.any_cons]
    by_cases e : p x = true
    · simp [e]
    · simp only [e, if_false, Bool.false_or]; exact findSome_const xs
theorem broken1 (b : Bool) (c : Int) : shapes_broken [shapes_rule.mk b c] = some (if b = true then 0 else c) := by
  unfold shapes_broken
  rw [loop_find (step := shapes_broken.s1 [shapes_rule.mk b c]) [shapes_rule.mk b c] (fun r => if r.holds = true then none else some r.code) (fun c => Sum.inr c) (Sum.inl ()) rfl ?_ ?_ (by simp)]
  · cases b <;> rfl
  · intro i hi
    simp only [shapes_broken.s1, lt_len hi, if_true, at_lt hi, Option.bind_some]
    have : i = 0 := by simpa using hi
    subst this
    cases b <;> simp [w, IntKind.wrap] <;> rfl
  · rfl
theorem cmpOr2 (a b : Int) : cmp_Or_api_Errno [a, b] = some (if a = 0 then b else a) := by
  unfold cmp_Or_api_Errno
  rw [loop_find (step := cmp_Or_api_Errno.s1 [a, b]) [a, b] (fun x => if x = 0 then none else some x) (fun c => Sum.inr c) (Sum.inl ()) rfl ?_ ?_ (by simp)]
  · by_cases h1 : a = 0
    · by_cases h2 : b = 0
      · simp [h1, h2]
      · simp [h1, h2]
    · simp [h1]
  · intro i hi
    simp only [cmp_Or_api_Errno.s1, lt_len hi, if_true, at_lt hi, Option.bind_some]
    by_cases e : [a, b][i] = 0
    · simp only [e, not_true, if_false, if_true]; rw [wn (by simp at hi; omega)]
    · simp only [e, not_false_eq_true, if_true, if_false]
  · simp only [cmp_Or_api_Errno.s1, not_lt_len, if_false]
theorem index1_eq (p : List api_Bound) (h : p.length < 16777216) : slices_ContainsFunc_api_Bound__shapes_boundsErr_c1 p = some (p.any (fun b => !num b)) := by
  unfold slices_ContainsFunc_api_Bound__shapes_boundsErr_c1 slices_IndexFunc_api_Bound__shapes_boundsErr_c1
  obtain ⟨k, hk⟩ := loop_any (step := slices_IndexFunc_api_Bound__shapes_boundsErr_c1.s1 p) p (fun b => !num b) (fun i => Sum.inr i) (Sum.inl ()) (s := 0) rfl (fun i hi => by
    simp only [slices_IndexFunc_api_Bound__shapes_boundsErr_c1.s1, lt_len hi, if_true, at_lt hi, Option.bind_some]
    have : shapes_boundsErr_c1 p[i] = !num p[i] := by unfold shapes_boundsErr_c1 num; simp
    rw [this, wn (by omega)]; split <;> rfl) (by simp only [slices_IndexFunc_api_Bound__shapes_boundsErr_c1.s1, not_lt_len, if_false]) (by omega)
  rw [hk]
  by_cases e : p.any (fun b => !num b) = true
  · rw [if_pos e, e]; simp
  · rw [if_neg e, eq_false_of_ne_true e]; rfl
theorem index2_eq (p : List api_Bound) (h : p.length < 16777216) : slices_ContainsFunc_api_Bound__shapes_boundsErr_c2 p = some (p.any (fun b => decide (shapes_extent b > 512))) := by
  unfold slices_ContainsFunc_api_Bound__shapes_boundsErr_c2 slices_IndexFunc_api_Bound__shapes_boundsErr_c2
  obtain ⟨k, hk⟩ := loop_any (step := slices_IndexFunc_api_Bound__shapes_boundsErr_c2.s1 p) p (fun b => decide (shapes_extent b > 512)) (fun i => Sum.inr i) (Sum.inl ()) (s := 0) rfl (fun i hi => by
    simp only [slices_IndexFunc_api_Bound__shapes_boundsErr_c2.s1, lt_len hi, if_true, at_lt hi, Option.bind_some]
    unfold shapes_boundsErr_c2
    rw [wn (by omega)]; split <;> rfl) (by simp only [slices_IndexFunc_api_Bound__shapes_boundsErr_c2.s1, not_lt_len, if_false]) (by omega)
  rw [hk]
  by_cases e : p.any (fun b => decide (shapes_extent b > 512)) = true
  · rw [if_pos e, e]; simp
  · rw [if_neg e, eq_false_of_ne_true e]; rfl
theorem size_eq {p : List api_Bound} (h : p.length < 16777216) : shapes_size p = some (prodE (p.map shapes_extent)) := by
  unfold shapes_size
  rw [extents_eq h]; simp only [Option.bind_some]
  rw [product_eq (by simpa using h)]; rfl
theorem boundsErr_eq (p : List api_Bound) : shapes_boundsErr p = some (bErr p) := by
  unfold shapes_boundsErr bErr
  by_cases h7 : (p.length : Int) > 7
  · simp only [h7, if_true]
  · have h : p.length < 16777216 := by omega
    simp only [h7, if_false, index1_eq p h, index2_eq p h, size_eq h, broken1, Option.bind_some]
    by_cases e1 : p.any (fun b => !num b) = true
    · simp only [e1, if_true]
    · simp only [e1, if_false]
      by_cases e2 : p.any (fun b => decide (shapes_extent b > 512)) = true
      · simp [e2]
      · simp only [e2, if_false]
        by_cases e3 : prodE (p.map shapes_extent) > 512
        · have : ¬ prodE (p.map shapes_extent) ≤ 512 := by omega
          simp [e3, this]
        · have : prodE (p.map shapes_extent) ≤ 512 := by omega
          simp [e3, this]
theorem refBoundsErr_eq (p : List api_Bound) : ref15_BoundsErr p = some (bErr p) := by
  unfold ref15_BoundsErr bErr
  by_cases h7 : (p.length : Int) > 7
  · simp only [h7, if_true]
  · have h : p.length < 16777216 := by omega
    simp only [h7, if_false, refExtents_eq h, Option.bind_some]
    rw [loop_find (step := ref15_BoundsErr.s1 p) p (fun b => if (!num b) = true then some (2 : Int) else none) (fun c => Sum.inr c) (Sum.inl ()) rfl ?_ ?_ (by omega), findSome_const]
    · by_cases e1 : p.any (fun b => !num b) = true
      · simp only [e1, if_true, Option.bind_some]
      · simp only [e1, if_false, Option.bind_some]
        rw [loop_find (step := ref15_BoundsErr.s2 (p.map shapes_extent)) (p.map shapes_extent) (fun x => if (decide (x > 512)) = true then some (8 : Int) else none) (fun c => Sum.inr c) (Sum.inl ()) rfl ?_ ?_ (by simp; omega), findSome_const, List.any_map]
        · by_cases e2 : p.any (fun b => decide (shapes_extent b > 512)) = true
          · have e2' : p.any ((fun x => decide (x > 512)) ∘ shapes_extent) = true := e2
            simp only [e2, e2', if_true, Option.bind_some, Bool.false_eq_true, if_false]
          · have e2' : ¬ p.any ((fun x => decide (x > 512)) ∘ shapes_extent) = true := e2
            simp only [e2, e2', if_false, Option.bind_some, Bool.false_eq_true]
            rw [refProduct_eq (by simpa using h)]
            simp only [Option.bind_some]
            split <;> rfl
        · intro i hi
          simp only [ref15_BoundsErr.s2, lt_len hi, if_true, at_lt hi, Option.bind_some]
          by_cases e : (p.map shapes_extent)[i] > 512
          · simp only [e, if_true, decide_true]
          · simp only [e, if_false, decide_false, Bool.false_eq_true]; rw [wn (by simp at hi; omega)]
        · simp only [ref15_BoundsErr.s2, not_lt_len, if_false]
    · intro i hi
      simp only [ref15_BoundsErr.s1, lt_len hi, if_true, at_lt hi, Option.bind_some, ref15_isBound, within_eq, num, shapes_isNumber]
      rw [wn (by omega)]
      by_cases e1 : shapes_inside p[i].Low (-2147483647) 2147483647 = true
      · by_cases e2 : shapes_inside p[i].High (-2147483647) 2147483647 = true
        · simp [e1, e2]
        · simp [e1, e2]
      · simp [e1]
    · simp only [ref15_BoundsErr.s1, not_lt_len, if_false]
end Go.Sh
namespace Go.Sh
open Go.Lx
set_option linter.unusedVariables false
set_option linter.unusedSimpArgs false
theorem before_eq : ∀ (n : Nat) (a b : List Int), a.length < n → n ≤ 16777217 → b.length < 16777216 → ∃ r, base_Before.N n a b = some r ∧ (r = true → a ≠ b)
  | 0, a, b, h, _, _ => absurd h (Nat.not_lt_zero _)
  | n + 1, a, b, h, hn, hb => by
    show ∃ r, base_Before.F (base_Before.N n) a b = some r ∧ _
    unfold base_Before.F
    match a, b with
    | [], b => exact ⟨_, rfl, fun h => by simp at h; intro q; subst q; simp at h⟩
    | x :: a, [] => exact ⟨_, rfl, fun h => by simp at h; omega⟩
    | x :: a, y :: b =>
      have e0 : ¬ ((((x :: a).length : Int) == 0) || (((y :: b).length : Int) == 0)) = true := by simp; omega
      have c1 : cut (x :: a) 1 ((x :: a).length : Int) = some a := by unfold cut; rw [if_pos (by simp; omega)]; simp
      have c2 : cut (y :: b) 1 ((y :: b).length : Int) = some b := by unfold cut; rw [if_pos (by simp; omega)]; simp
      have a1 : at_ (x :: a) 0 = some x := rfl
      have a2 : at_ (y :: b) 0 = some y := rfl
      rw [if_neg e0]
      simp only [a1, a2, Option.bind_some]
      by_cases h1 : x < y
      · exact ⟨true, by simp [h1], fun _ q => by simp at q; omega⟩
      · by_cases h2 : x = y
        · obtain ⟨r, h3, h4⟩ := before_eq n a b (by simp at h; omega) (by omega) (by simp at hb; omega)
          refine ⟨r, ?_, fun hr q => h4 hr (by simp at q; exact q.2)⟩
          subst h2
          rw [if_neg h1, if_pos rfl, c1, c2]
          simp only [Option.bind_some, h3]
        · exact ⟨false, by simp [h1, h2], fun q => by cases q⟩
theorem before_tri : ∀ (n m : Nat) (a b : List Int), base_Before.N n a b = some false → base_Before.N m b a = some false → a.length = b.length → a = b
  | 0, m, a, b, h, _, _ => by cases h
  | n + 1, 0, a, b, _, h, _ => by cases h
  | n + 1, m + 1, a, b, h, k, hl => by
    change base_Before.F (base_Before.N n) a b = some false at h
    change base_Before.F (base_Before.N m) b a = some false at k
    unfold base_Before.F at h k
    match a, b, hl with
    | [], [], _ => rfl
    | x :: a, y :: b, hl =>
      have e0 : ¬ ((((x :: a).length : Int) == 0) || (((y :: b).length : Int) == 0)) = true := by simp; omega
      have e1 : ¬ ((((y :: b).length : Int) == 0) || (((x :: a).length : Int) == 0)) = true := by simp; omega
      have c1 : cut (x :: a) 1 ((x :: a).length : Int) = some a := by unfold cut; rw [if_pos (by simp; omega)]; simp
      have c2 : cut (y :: b) 1 ((y :: b).length : Int) = some b := by unfold cut; rw [if_pos (by simp; omega)]; simp
      have a1 : at_ (x :: a) 0 = some x := rfl
      have a2 : at_ (y :: b) 0 = some y := rfl
      rw [if_neg e0] at h
      rw [if_neg e1] at k
      simp only [a1, a2, Option.bind_some, c1, c2] at h k
      by_cases h1 : x < y
      · simp [h1] at h
      · by_cases h2 : y < x
        · simp [h2] at k
        · have h3 : x = y := by omega
          subst h3
          simp only [h1, if_false, if_true] at h k
          obtain ⟨r, hr, h⟩ := Option.bind_eq_some_iff.1 h
          obtain ⟨r', hr', k⟩ := Option.bind_eq_some_iff.1 k
          cases h
          cases k
          rw [before_tri n m a b hr hr' (by simpa using hl)]
theorem ints_eq {a b : List Int} (ha : a.length < 16777216) (hb : b.length < 16777216) : base_Ints a b = some (a == b) := by
  unfold base_Ints
  have hF : (16777217 : Nat) ≤ FUEL := by unfold FUEL; omega
  have step : ∀ (n : Nat) (a b : List Int) (r : Bool), base_Before.N n a b = some r → base_Before.N (n + 1) a b = some r := by
    intro n
    induction n with
    | zero => intro a b r h; cases h
    | succ n ih =>
      intro a b r h
      change base_Before.F (base_Before.N n) a b = some r at h
      show base_Before.F (base_Before.N (n + 1)) a b = some r
      unfold base_Before.F at h ⊢
      split
      · rename_i hc; rw [if_pos hc] at h; exact h
      · rename_i hc
        rw [if_neg hc] at h
        obtain ⟨x4, h4, h⟩ := Option.bind_eq_some_iff.1 h
        obtain ⟨x5, h5, h⟩ := Option.bind_eq_some_iff.1 h
        rw [h4, h5]
        simp only [Option.bind_some]
        split
        · rename_i hd; rw [if_pos hd] at h; exact h
        · rename_i hd
          rw [if_neg hd] at h
          rw [h4, h5] at h
          simp only [Option.bind_some] at h ⊢
          split
          · rename_i he
            rw [if_pos he] at h
            obtain ⟨x6, h6, h⟩ := Option.bind_eq_some_iff.1 h
            obtain ⟨x7, h7, h⟩ := Option.bind_eq_some_iff.1 h
            obtain ⟨x8, h8, h⟩ := Option.bind_eq_some_iff.1 h
            rw [h6, h7]
            simp only [Option.bind_some]
            rw [ih _ _ _ h8]
            exact h
          · rename_i he; rw [if_neg he] at h; exact h
  have up : ∀ (n m : Nat) (a b : List Int) (r : Bool), n ≤ m → base_Before.N n a b = some r → base_Before.N m a b = some r := by
    intro n m a b r hnm h
    induction hnm with
    | refl => exact h
    | step _ ih => exact step _ _ _ _ ih
  have get : ∀ a b : List Int, a.length < 16777216 → b.length < 16777216 → ∃ r, base_Before a b = some r ∧ (r = true → a ≠ b) := by
    intro a b ha hb
    obtain ⟨r, h1, h2⟩ := before_eq 16777217 a b (by omega) (Nat.le_refl _) hb
    exact ⟨r, up _ _ _ _ _ hF h1, h2⟩
  by_cases hl : (a.length : Int) = (b.length : Int)
  · rw [if_pos hl]
    obtain ⟨r, h1, h2⟩ := get a b ha hb
    obtain ⟨r', h3, h4⟩ := get b a hb ha
    rw [h1, h3]
    simp only [Option.bind_some]
    cases r with
    | true => simp; exact h2 rfl
    | false =>
      cases r' with
      | true => simp; exact fun q => h4 rfl q.symm
      | false => simp; exact before_tri _ _ _ _ h1 h3 (by omega)
  · rw [if_neg hl]
    have : a ≠ b := fun q => hl (by rw [q])
    simp [this]
end Go.Sh
namespace Go.Sh
open Go.Lx
set_option linter.unusedVariables false
set_option linter.unusedSimpArgs false
def P : List Int → Int
  | [] => 1
  | x :: xs => x * P xs
def H : List Int → List Int → Int
  | e :: es, d :: ds => d + e * H es ds
  | _, _ => 0
def dig : List Int → Int → List Int
  | [], _ => []
  | e :: es, n => n % e :: dig es (n / e)
def inBase : List Int → List Int → Prop
  | e :: es, d :: ds => 0 ≤ d ∧ d < e ∧ inBase es ds
  | [], [] => True
  | _, _ => False
theorem P_pos : ∀ {es : List Int}, (∀ e, e ∈ es → 1 ≤ e) → 1 ≤ P es
  | [], _ => Int.le_refl 1
  | e :: es, h => by
    have h1 := h e (.head _)
    have h2 := P_pos (es := es) fun x hx => h x (.tail _ hx)
    have := Int.mul_le_mul h1 h2 (by omega) (by omega)
    simpa [P] using this
theorem inBase_pos : ∀ {es ds : List Int}, inBase es ds → ∀ e, e ∈ es → 1 ≤ e
  | [], _, _, e, h => by cases h
  | e :: es, [], h, _, _ => by cases h
  | e :: es, d :: ds, ⟨h1, h2, h3⟩, x, hx => by
    cases hx with
    | head => omega
    | tail _ hx => exact inBase_pos h3 x hx
theorem H_range : ∀ {es ds : List Int}, inBase es ds → 0 ≤ H es ds ∧ H es ds < P es
  | [], [], _ => by simp [H, P]
  | [], _ :: _, h => by cases h
  | e :: es, [], h => by cases h
  | e :: es, d :: ds, ⟨h1, h2, h3⟩ => by
    obtain ⟨i1, i2⟩ := H_range h3
    have a1 : 0 ≤ e * H es ds := Int.mul_nonneg (by omega) i1
    have a2 : e * H es ds ≤ e * (P es - 1) := Int.mul_le_mul_of_nonneg_left (by omega) (by omega)
    rw [Int.mul_sub, Int.mul_one] at a2
    simp only [H, P]
    omega
theorem dig_H : ∀ {es ds : List Int}, inBase es ds → dig es (H es ds) = ds
  | [], [], _ => rfl
  | [], _ :: _, h => by cases h
  | e :: es, [], h => by cases h
  | e :: es, d :: ds, ⟨h1, h2, h3⟩ => by
    have q1 : (d + e * H es ds) % e = d := by rw [Int.add_mul_emod_self_left]; exact Int.emod_eq_of_lt h1 h2
    have q2 : (d + e * H es ds) / e = H es ds := by
      rw [Int.add_mul_ediv_left _ _ (by omega), Int.ediv_eq_zero_of_lt h1 h2]; omega
    simp only [H, dig, q1, q2, dig_H h3]
theorem dig_ok : ∀ {es : List Int} {n : Int}, (∀ e, e ∈ es → 1 ≤ e) → 0 ≤ n → n < P es → inBase es (dig es n) ∧ H es (dig es n) = n
  | [], n, _, h1, h2 => by simp [P] at h2; simp [inBase, dig, H]; omega
  | e :: es, n, h, h1, h2 => by
    have he := h e (.head _)
    have g1 : 0 ≤ n / e := Int.ediv_nonneg h1 (by omega)
    have g2 : n / e < P es := Int.ediv_lt_of_lt_mul (by omega) (by simp only [P] at h2; rw [Int.mul_comm]; exact h2)
    obtain ⟨i1, i2⟩ := dig_ok (es := es) (fun x hx => h x (.tail _ hx)) g1 g2
    refine ⟨⟨Int.emod_nonneg _ (by omega), Int.emod_lt_of_pos _ (by omega), i1⟩, ?_⟩
    simp only [dig, H, i2]
    exact Int.emod_add_mul_ediv n e
theorem dig_len : ∀ (es : List Int) (n : Int), (dig es n).length = es.length
  | [], n => rfl
  | e :: es, n => by simp [dig, dig_len es]
theorem P_zero : ∀ {es : List Int}, (∃ e, e ∈ es ∧ e = 0) → P es = 0
  | [], h => by obtain ⟨e, h, _⟩ := h; cases h
  | e :: es, h => by
    obtain ⟨x, hx, rfl⟩ := h
    cases hx with
    | head => simp [P]
    | tail _ hx => rw [P, P_zero ⟨0, hx, rfl⟩]; simp
theorem min_mul {a b m : Int} (ha : 1 ≤ a) (hb : 1 ≤ b) (hm : 0 ≤ m) : min (min a m * b) m = min (a * b) m := by
  rcases Int.le_total a m with h | h
  · rw [Int.min_eq_left h]
  · rw [Int.min_eq_right h]
    have h1 : m * 1 ≤ m * b := Int.mul_le_mul_of_nonneg_left hb hm
    have h2 : m * b ≤ a * b := Int.mul_le_mul_of_nonneg_right h (by omega)
    omega
theorem capP_eq : ∀ {xs : List Int} {a : Int}, (∀ x, x ∈ xs → 1 ≤ x ∧ x ≤ 512) → 1 ≤ a → a ≤ 513 → xs.foldl (fun a x => mn (w (a * mn x 513)) 513) a = min (a * P xs) 513
  | [], a, _, h1, h2 => by simp [P]; omega
  | x :: xs, a, h, h1, h2 => by
    obtain ⟨g1, g2⟩ := h x (.head _)
    have m1 : mn x 513 = x := by unfold mn; rw [if_neg (by omega)]
    have b1 : 1 * 1 ≤ a * x := Int.mul_le_mul h1 g1 (by omega) (by omega)
    have b2 : a * x ≤ 513 * 512 := Int.mul_le_mul h2 g2 (by omega) (by omega)
    have m2 : mn (w (a * x)) 513 = min (a * x) 513 := by
      rw [w_id (by omega) (by omega)]; unfold mn; split <;> omega
    rw [List.foldl_cons, m1, m2, capP_eq (fun y hy => h y (.tail _ hy)) (by omega) (by omega)]
    have hp := P_pos (es := xs) fun y hy => (h y (.tail _ hy)).1
    rw [min_mul (by omega) hp (by omega), P, Int.mul_assoc]
structure Ok (p : List api_Bound) : Prop where
  len : p.length ≤ 7
  num : ∀ b, b ∈ p → num b = true
  big : ∀ b, b ∈ p → shapes_extent b ≤ 512
  pos : ∀ b, b ∈ p → 0 ≤ shapes_extent b
  sz : prodE (p.map shapes_extent) ≤ 512
theorem ext_nonneg (b : api_Bound) : 0 ≤ shapes_extent b := by unfold shapes_extent mx; split <;> omega
theorem bErr_ok {p : List api_Bound} (h : bErr p = 0) : Ok p := by
  unfold bErr at h
  split at h
  · cases h
  split at h
  · cases h
  split at h
  · cases h
  split at h
  · cases h
  rename_i h1 h2 h3 h4
  refine ⟨by omega, fun b hb => ?_, fun b hb => ?_, fun b _ => ext_nonneg b, by omega⟩
  · simp only [List.any_eq_true, not_exists, not_and, Bool.not_eq_true', Bool.not_eq_false] at h2
    exact h2 b hb
  · simp only [List.any_eq_true, not_exists, not_and, decide_eq_true_eq] at h3
    have := h3 b hb
    omega
theorem prodE_P {xs : List Int} (h : ∀ x, x ∈ xs → 0 ≤ x ∧ x ≤ 512) (hs : prodE xs ≤ 512) : prodE xs = P xs ∧ 0 ≤ P xs := by
  unfold prodE at hs ⊢
  by_cases h0 : xs.any (fun x => 0 == x) = true
  · rw [if_pos h0]
    have : P xs = 0 := P_zero (by
      simp only [List.any_eq_true, beq_iff_eq] at h0
      obtain ⟨x, h1, h2⟩ := h0
      exact ⟨x, h1, h2.symm⟩)
    omega
  · rw [if_neg h0] at hs ⊢
    have hx : ∀ x, x ∈ xs → 1 ≤ x ∧ x ≤ 512 := fun x hx => by
      obtain ⟨h1, h2⟩ := h x hx
      simp only [List.any_eq_true, not_exists, not_and, beq_iff_eq] at h0
      have := h0 x hx
      omega
    have := capP_eq (a := 1) hx (by omega) (by omega)
    unfold capP at hs ⊢
    have hp := P_pos fun x hq => (hx x hq).1
    omega
theorem Ok.size {p : List api_Bound} (h : Ok p) : prodE (p.map shapes_extent) = P (p.map shapes_extent) ∧ 0 ≤ P (p.map shapes_extent) ∧ P (p.map shapes_extent) ≤ 512 := by
  have := prodE_P (xs := p.map shapes_extent) (fun x hx => by
    obtain ⟨b, hb, rfl⟩ := List.mem_map.1 hx
    exact ⟨h.pos b hb, h.big b hb⟩) h.sz
  have hs := h.sz
  omega
def exs (bs : List api_Bound) : List Int := bs.map shapes_extent
def str : Int → List Int → List Int
  | _, [] => []
  | s, e :: es => s :: str (w (s * e)) es
theorem str_len : ∀ (es : List Int) (s : Int), (str s es).length = es.length
  | [], s => rfl
  | e :: es, s => by simp [str, str_len es]
theorem str_fold : ∀ (es : List Int) (s : Int) (acc : List Int), (es.foldl (fun (b : Int × List Int) e => (w (b.1 * e), b.2 ++ [b.1])) (s, acc)).2 = acc ++ str s es
  | [], s, acc => by simp [str]
  | e :: es, s, acc => by rw [List.foldl_cons, str_fold es]; simp [str]
theorem strides_eq {p : List Int} (h : p.length < 16777216) : shapes_strides p = some (str 1 p) := by
  unfold shapes_strides
  rw [loop_fold (step := shapes_strides.s1 p) p (fun i (b : Int × List Int) => (b.1, i, b.2)) (fun b => b.2) (fun b e => (w (b.1 * e), b.2 ++ [b.1])) (fun i b => b.2.length = i) (a := (1, [])) rfl ?_ ?_ rfl (by omega)]
  · simp only [Option.bind_some]; rw [str_fold]; rfl
  · intro i hi b hb
    refine ⟨?_, by simp [hb]⟩
    simp only [shapes_strides.s1, lt_len hi, if_true, at_lt hi, Option.bind_some]
    rw [app_one (by omega), wn (by omega)]; rfl
  · intro b _; simp only [shapes_strides.s1, not_lt_len, if_false]
end Go.Sh
namespace Go.Sh
open Go.Lx
set_option linter.unusedVariables false
set_option linter.unusedSimpArgs false
theorem extents_eq' {p : List api_Bound} (h : p.length < 16777216) : shapes_extents p = some (exs p) := extents_eq h
theorem refExtents_eq' {p : List api_Bound} (h : p.length < 16777216) : ref15_Extents p = some (exs p) := refExtents_eq h
theorem dig_fold : ∀ (es : List Int) (n : Int) (acc : List Int), (es.foldl (fun (b : Int × List Int) e => (b.1 / e, b.2 ++ [b.1 % e])) (n, acc)).2 = acc ++ dig es n
  | [], n, acc => by simp [dig]
  | e :: es, n, acc => by rw [List.foldl_cons, dig_fold es]; simp [dig]
theorem div_ok {n e : Int} (hn : 0 ≤ n) (hb : n ≤ 4611686018427387904) (he : 1 ≤ e) : rem n e = some (n % e) ∧ quo .i64 n e = some (n / e) ∧ 0 ≤ n / e ∧ n / e ≤ n := by
  have h0 : ¬ e = 0 := by omega
  have h1 : 0 ≤ n / e := Int.ediv_nonneg hn (by omega)
  have h2 : n / e ≤ n := Int.ediv_le_self e hn
  refine ⟨by unfold rem; rw [if_neg h0, Int.tmod_eq_emod_of_nonneg hn], ?_, h1, h2⟩
  unfold quo
  rw [if_neg h0, Int.tdiv_eq_ediv_of_nonneg hn]
  exact congrArg some (w_id (n := n / e) (by omega) (by omega))
theorem digits_eq {es : List Int} {n : Int} (h : ∀ e, e ∈ es → 1 ≤ e) (h0 : 0 ≤ n) (hb : n ≤ 4611686018427387904) (hl : es.length < 16777216) : shapes_digits es n = some (dig es n) := by
  unfold shapes_digits
  rw [loop_fold (step := shapes_digits.s1 es) es (fun i (b : Int × List Int) => (b.1, i, b.2)) (fun b => b.2) (fun b e => (b.1 / e, b.2 ++ [b.1 % e])) (fun i b => b.2.length = i ∧ 0 ≤ b.1 ∧ b.1 ≤ 4611686018427387904) (a := (n, [])) rfl ?_ ?_ ⟨rfl, h0, hb⟩ (by omega)]
  · simp only [Option.bind_some]; rw [dig_fold]; rfl
  · rintro i hi b ⟨k1, k2, k3⟩
    obtain ⟨d1, d2, d3, d4⟩ := div_ok k2 k3 (h es[i] (List.getElem_mem hi))
    refine ⟨?_, by simp [k1], d3, by simp only; omega⟩
    simp only [shapes_digits.s1, lt_len hi, if_true, at_lt hi, Option.bind_some, d1, d2]
    rw [app_one (by omega), wn (by omega)]; rfl
  · intro b _; simp only [shapes_digits.s1, not_lt_len, if_false]
end Go.Sh
namespace Go.Sh
open Go.Lx
set_option linter.unusedVariables false
set_option linter.unusedSimpArgs false
def badEl (xs : List Int) : Sum Nat Unit := scanE (fun i b x => if shapes_isInteger x = true then .inr b else .inl i) 0 xs ()
def chk (a : api_Array) : Int × Int :=
  if bErr a.Bounds ≠ 0 then (0, bErr a.Bounds)
  else if (a.Elements.length : Int) ≠ prodE (exs a.Bounds) then (0, 10)
  else match badEl a.Elements with | .inl i => ((i : Int), 2) | .inr _ => (0, 0)
theorem isInteger_eq (x : Int) : ref15_IsInteger x = shapes_isInteger x := by unfold ref15_IsInteger shapes_isInteger; exact within_eq _ _ _
theorem checkArray_eq {a : api_Array} (h : a.Elements.length < 16777216) : shapes_CheckArray a = some (chk a) := by
  unfold shapes_CheckArray chk
  rw [boundsErr_eq]
  simp only [Option.bind_some]
  by_cases hb : bErr a.Bounds = 0
  · have hl7 := (bErr_ok hb).len
    simp only [hb, not_true, if_false, ne_eq]
    rw [size_eq (by omega)]
    simp only [Option.bind_some]
    by_cases hl : (a.Elements.length : Int) = prodE (exs a.Bounds)
    · have hl' : (a.Elements.length : Int) = prodE (a.Bounds.map shapes_extent) := hl
      simp only [hl', hl, not_true, if_false]
      unfold shapes_firstBad_int__shapes_CheckArray_c1
      rw [loop_scan (step := shapes_firstBad_int__shapes_CheckArray_c1.s1 a.Elements) a.Elements (fun i (_ : Unit) => i) (fun k : Nat => Sum.inr ((k : Int), 2)) (fun _ => Sum.inl ()) (fun i b x => if shapes_isInteger x = true then .inr b else .inl i) (fun _ _ => True) (a := ()) rfl ?_ ?_ trivial (by omega)]
      · unfold badEl
        cases scanE (fun i b x => if shapes_isInteger x = true then Sum.inr b else Sum.inl i) 0 a.Elements () <;> simp [hl, exs]
      · intro i hi b _
        refine ⟨?_, fun _ _ => trivial⟩
        simp only [shapes_firstBad_int__shapes_CheckArray_c1.s1, lt_len hi, if_true, at_lt hi, Option.bind_some, shapes_CheckArray_c1, broken1]
        by_cases hq : shapes_isInteger a.Elements[i] = true
        · simp only [hq, if_true, not_true, if_false]; rw [wn (by omega)]
        · simp only [hq, if_false, Bool.false_eq_true]; simp
      · intro b _; simp only [shapes_firstBad_int__shapes_CheckArray_c1.s1, not_lt_len, if_false]
    · have hl' : ¬ (a.Elements.length : Int) = prodE (a.Bounds.map shapes_extent) := hl
      simp [hl', hl, exs]
  · simp [hb]
theorem refCheck_eq {a : api_Array} (h : a.Elements.length < 16777216) : ref15_Check a = some (chk a) := by
  unfold ref15_Check chk
  rw [refBoundsErr_eq]
  simp only [Option.bind_some]
  by_cases hb : bErr a.Bounds = 0
  · have hl7 := (bErr_ok hb).len
    simp only [hb, not_true, if_false, ne_eq]
    rw [refExtents_eq' (by omega)]
    simp only [Option.bind_some]
    rw [refProduct_eq (by simp [exs]; omega)]
    simp only [Option.bind_some]
    by_cases hl : (a.Elements.length : Int) = prodE (exs a.Bounds)
    · simp only [hl, not_true, if_false]
      rw [loop_scan (step := ref15_Check.s1 a) a.Elements (fun i (_ : Unit) => i) (fun k : Nat => Sum.inr ((k : Int), 2)) (fun _ => Sum.inl ()) (fun i b x => if shapes_isInteger x = true then .inr b else .inl i) (fun _ _ => True) (a := ()) rfl ?_ ?_ trivial (by omega)]
      · unfold badEl
        cases scanE (fun i b x => if shapes_isInteger x = true then Sum.inr b else Sum.inl i) 0 a.Elements () <;> rfl
      · intro i hi b _
        refine ⟨?_, fun _ _ => trivial⟩
        simp only [ref15_Check.s1, lt_len hi, if_true, at_lt hi, Option.bind_some, isInteger_eq]
        by_cases hq : shapes_isInteger a.Elements[i] = true
        · simp only [hq, if_true, not_true, if_false]; rw [wn (by omega)]
        · simp only [hq, if_false, Bool.false_eq_true, not_false_eq_true, if_true]
      · intro b _; simp only [ref15_Check.s1, not_lt_len, if_false]
    · simp [hl]
  · simp [hb]
theorem refErr_eq {a : api_Array} (h : a.Elements.length < 16777216) : ref15_Err a = some (chk a).2 := by
  unfold ref15_Err; rw [refCheck_eq h]; rfl
theorem refCopy_eq {a : api_Array} (h1 : a.Bounds.length ≤ 16777216) (h : a.Elements.length < 16777216) : ref15_Copy a = some a := by
  unfold ref15_Copy; rw [copyBounds_eq h1, copyInts_eq (by omega)]; rfl
theorem few_ok {a : api_Array} (h : law15_few a = true) : a.Bounds.length ≤ 9 ∧ a.Elements.length ≤ 80 := by
  unfold law15_few at h
  simp at h
  omega
end Go.Sh
namespace Go.Sh
open Go.Lx
set_option linter.unusedVariables false
set_option linter.unusedSimpArgs false
theorem range_loop {τ : Type} {step : Int × List Int → Option (Sum (Int × List Int) τ)} (n : Int) (g : Nat → Int) (fin : List Int → τ) (h0 : 0 ≤ n) (hn : n < 16777216)
    (h : ∀ i : Nat, (i : Int) < n → ∀ b : List Int, b.length = i → step (i, b) = some (.inl (((i + 1 : Nat) : Int), b ++ [g i]))) (hend : ∀ b, step (n, b) = some (.inr (fin b))) :
    loopO step (0, []) = some (fin ((List.range n.toNat).map g)) := by
  have hl : (List.range n.toNat).length = n.toNat := by simp
  have hc : ((List.range n.toNat).length : Int) = n := by rw [hl]; omega
  refine loop_map (step := step) (List.range n.toNat) g (fun i b => (i, b)) fin rfl ?_ ?_ (by omega)
  · intro i hi b hb
    have : (List.range n.toNat)[i] = i := by simp
    rw [this]
    exact h i (by omega) b hb
  · intro b; rw [hc]; exact hend b
end Go.Sh
namespace Go.Sh
open Go.Lx
set_option linter.unusedVariables false
set_option linter.unusedSimpArgs false
abbrev Sec := List Int × List (List Int) × List Int
section
variable {p : List api_Bound} {q : List api_Subscript} {v : Sec}
structure SecOk (p : List api_Bound) (q : List api_Subscript) (v : Sec) : Prop where
  lists : v.2.1.length = p.length
  lens : v.2.2 = v.2.1.map fun l => (l.length : Int)
  small : ∀ l, l ∈ v.2.1 → l.length ≤ 512
  ins : ∀ t, t ∈ p.zip v.2.1 → ∀ x, x ∈ t.2 → shapes_inside x t.1.Low t.1.High = true
theorem inBase_get : ∀ {es ds : List Int}, inBase es ds → es.length = ds.length ∧ ∀ i (h1 : i < es.length) (h2 : i < ds.length), 0 ≤ ds[i] ∧ ds[i] < es[i]
  | [], [], _ => ⟨rfl, fun i h => by simp at h⟩
  | [], _ :: _, h => by cases h
  | _ :: _, [], h => by cases h
  | e :: es, d :: ds, ⟨h1, h2, h3⟩ => by
    obtain ⟨i1, i2⟩ := inBase_get h3
    refine ⟨by simp [i1], fun i g1 g2 => ?_⟩
    cases i with
    | zero => exact ⟨h1, h2⟩
    | succ i => simpa using i2 i (by simpa using g1) (by simpa using g2)
theorem SecOk.pos (h : SecOk p q v) : 0 ≤ prodE v.2.2 := by
  unfold prodE
  split
  · omega
  · rename_i h0
    have hr : ∀ x, x ∈ v.2.2 → 1 ≤ x ∧ x ≤ 512 := by
      intro x hx
      have hx' := hx
      rw [h.lens] at hx
      obtain ⟨l, hl, rfl⟩ := List.mem_map.1 hx
      have := h.small l hl
      simp only [List.any_eq_true, not_exists, not_and, beq_iff_eq] at h0
      have := h0 _ hx'
      omega
    have := capP_eq (a := 1) hr (by omega) (by omega)
    have hp := P_pos fun x hq => (hr x hq).1
    unfold capP
    omega
end
end Go.Sh
namespace Go.Sh
open Go.Lx
set_option linter.unusedVariables false
set_option linter.unusedSimpArgs false
structure Valid (a : api_Array) : Prop where
  b : bErr a.Bounds = 0
  len : (a.Elements.length : Int) = P (exs a.Bounds)
  int : ∀ x, x ∈ a.Elements → shapes_isInteger x = true
theorem badEl_iff : ∀ (xs : List Int) (i : Nat), (∀ x, x ∈ xs → shapes_isInteger x = true) ↔ scanE (fun i b x => if shapes_isInteger x = true then Sum.inr b else Sum.inl i) i xs () = .inr ()
  | [], i => by simp [scanE]
  | x :: xs, i => by
    simp only [scanE, List.mem_cons, forall_eq_or_imp]
    by_cases h : shapes_isInteger x = true
    · simp only [h, if_true, true_and]; exact badEl_iff xs (i + 1)
    · simp [h]
theorem chk_valid {a : api_Array} (h : (chk a).2 = 0) : Valid a := by
  unfold chk at h
  split at h
  · rename_i hb; exact absurd h hb
  rename_i hb
  split at h
  · cases h
  rename_i hl
  have hb' := Classical.not_not.1 hb
  have hl' := Classical.not_not.1 hl
  have ok := bErr_ok hb'
  refine ⟨hb', by have := ok.size; rw [hl']; exact this.1, ?_⟩
  cases hq : badEl a.Elements with
  | inl i => rw [hq] at h; cases h
  | inr u => exact (badEl_iff _ 0).2 hq
theorem valid_chk {a : api_Array} (h : Valid a) : chk a = (0, 0) := by
  unfold chk
  have ok := bErr_ok h.b
  have hl : (a.Elements.length : Int) = prodE (exs a.Bounds) := by rw [h.len]; exact ok.size.1.symm
  simp only [h.b, ne_eq, not_true, if_false, hl]
  have : badEl a.Elements = .inr () := (badEl_iff _ 0).1 h.int
  rw [this]
def elAt (xs : List Int) (o : Int) : Int := (xs[o.toNat]?).getD 0
def ofExt (es : List Int) : List api_Bound := es.map fun e => api_Bound.mk 1 e
theorem from_eq {es : List Int} (h : es.length < 16777216) : shapes_from es = some (ofExt es) := by
  unfold shapes_from
  rw [loop_map (step := shapes_from.s1 es) es (fun e => api_Bound.mk 1 e) (fun i b => (i, b)) (fun b => b) rfl ?_ ?_ (by omega)]
  · rfl
  · intro i hi b hb
    simp only [shapes_from.s1, lt_len hi, if_true, at_lt hi, Option.bind_some]
    rw [app_one (by omega), wn (by omega)]; rfl
  · intro b; simp only [shapes_from.s1, not_lt_len, if_false]
theorem at_el {xs : List Int} {o : Int} (h0 : 0 ≤ o) (h1 : o < (xs.length : Int)) : at_ xs o = some (elAt xs o) := by
  unfold at_ elAt
  rw [if_pos h0]
  have : o.toNat < xs.length := by omega
  simp [this]
theorem arraysErr1 {a : api_Array} (ha : a.Elements.length < 16777216) : shapes_arraysErr [a] = some (chk a).2 := by
  unfold shapes_arraysErr
  rw [loop_find (step := shapes_arraysErr.s1 [a]) [a] (fun x => if (chk x).2 = 0 then none else some (chk x).2) (fun c => Sum.inr c) (Sum.inl ()) rfl ?_ ?_ (by simp)]
  · by_cases h1 : (chk a).2 = 0
    · simp [h1]
    · simp [h1]
  · intro i hi
    have hx : [a][i].Elements.length < 16777216 := by
      match i, hi with
      | 0, _ => exact ha
    simp only [shapes_arraysErr.s1, lt_len hi, if_true, at_lt hi, Option.bind_some, checkArray_eq hx]
    by_cases e : (chk [a][i]).2 = 0
    · simp only [e, not_true, if_false, if_true]; rw [wn (by simp at hi; omega)]
    · simp only [e, not_false_eq_true, if_true, if_false]
  · simp only [shapes_arraysErr.s1, not_lt_len, if_false]
theorem copied_eq {a : api_Array} (h1 : a.Bounds.length ≤ 16777216) (h2 : a.Elements.length ≤ 16777216) : shapes_copied a = some a := by
  unfold shapes_copied slices_Clone_api_Bound slices_Clone_int
  rw [app_nil h1, app_nil h2]; rfl
theorem same_self {a : api_Array} (h1 : a.Bounds.length < 16777216) (h2 : a.Elements.length < 16777216) : ref15_Same a a = some true := by
  unfold ref15_Same
  rw [ints_eq h2 h2]
  simp only [Option.bind_some, beq_self_eq_true, not_true, if_false]
  rw [loop_find (step := ref15_Same.s1 a a) a.Bounds (fun _ => (none : Option Bool)) (fun c => Sum.inr c) (Sum.inl ()) rfl ?_ ?_ (by omega)]
  · have : a.Bounds.findSome? (fun _ => (none : Option Bool)) = none := by simp
    rw [this]; rfl
  · intro i hi
    simp only [ref15_Same.s1, lt_len hi, if_true, at_lt hi, Option.bind_some, beq_self_eq_true, Bool.and_self, not_true, if_false]
    rw [wn (by omega)]
  · simp only [ref15_Same.s1, not_lt_len, if_false]
theorem ofExt_exs {es : List Int} (h : ∀ e, e ∈ es → 0 ≤ e ∧ e ≤ 512) : exs (ofExt es) = es := by
  unfold exs ofExt
  rw [List.map_map]
  conv => rhs; rw [← List.map_id es]
  refine List.map_congr_left fun e he => ?_
  have := h e he
  show shapes_extent (api_Bound.mk 1 e) = id e
  unfold shapes_extent mx
  simp only [id]
  rw [w_id (n := e - 1) (by omega) (by omega), w_id (by omega) (by omega)]
  split <;> omega
theorem ofExt_bErr {es : List Int} (h : ∀ e, e ∈ es → 0 ≤ e ∧ e ≤ 512) (h7 : es.length ≤ 7) (hp : P es ≤ 512) : bErr (ofExt es) = 0 := by
  have hx := ofExt_exs h
  unfold bErr
  rw [if_neg (by simp [ofExt]; omega)]
  have n1 : (ofExt es).any (fun b => !num b) = false := by
    rw [List.any_eq_false]
    intro b hb
    obtain ⟨e, he, rfl⟩ := List.mem_map.1 hb
    have := h e he
    simp [num, shapes_isNumber, shapes_inside]
    omega
  have n2 : (ofExt es).any (fun b => decide (shapes_extent b > 512)) = false := by
    rw [List.any_eq_false]
    intro b hb
    have hm : shapes_extent b ∈ exs (ofExt es) := List.mem_map_of_mem hb
    rw [hx] at hm
    have := h _ hm
    simp; omega
  rw [n1, n2]
  simp only [Bool.false_eq_true, if_false]
  have hx' : (ofExt es).map shapes_extent = es := hx
  rw [hx']
  have hpe : prodE es ≤ 512 := by
    by_cases h0 : es.any (fun x => 0 == x) = true
    · unfold prodE; rw [if_pos h0]; omega
    · unfold prodE
      rw [if_neg h0]
      have hr : ∀ x, x ∈ es → 1 ≤ x ∧ x ≤ 512 := by
        intro x hx
        simp only [List.any_eq_true, not_exists, not_and, beq_iff_eq] at h0
        have := h0 x hx
        have := h x hx
        omega
      have := capP_eq (a := 1) hr (by omega) (by omega)
      unfold capP
      omega
  rw [if_neg (by omega)]
theorem elAt_mem {xs : List Int} {o : Int} (h0 : 0 ≤ o) (h1 : o < (xs.length : Int)) : elAt xs o ∈ xs := by
  unfold elAt
  have : o.toNat < xs.length := by omega
  simp [this]
end Go.Sh
namespace Go.Sh
open Go.Lx
set_option linter.unusedVariables false
set_option linter.unusedSimpArgs false
end Go.Sh
namespace Go.Sh
open Go.Lx
set_option linter.unusedVariables false
set_option linter.unusedSimpArgs false
def nth (l : List Int) (d : Nat) : Int := (l[d]?).getD 0
def er : Nat → List Int → List Int
  | _, [] => []
  | 0, _ :: l => l
  | n + 1, x :: l => x :: er n l
def ins : Nat → Int → List Int → List Int
  | 0, x, l => x :: l
  | _ + 1, x, [] => [x]
  | n + 1, x, a :: l => a :: ins n x l
def S : List Int → List Int → Int
  | s :: ss, d :: ds => s * d + S ss ds
  | _, _ => 0
theorem nth_succ (x : Int) (l : List Int) (d : Nat) : nth (x :: l) (d + 1) = nth l d := by simp [nth]
theorem nth_zero (x : Int) (l : List Int) : nth (x :: l) 0 = x := by simp [nth]
theorem nth_lt {l : List Int} {d : Nat} (h : d < l.length) : at_ l (d : Int) = some (nth l d) := by rw [at_lt h]; simp [nth, h]
theorem er_eq : ∀ (n : Nat) (l : List Int), l.take n ++ l.drop (n + 1) = er n l
  | n, [] => by simp [er]
  | 0, x :: l => by simp [er]
  | n + 1, x :: l => by simp only [List.take_succ_cons, List.drop_succ_cons, List.cons_append, er]; rw [er_eq n l]
theorem er_len : ∀ (n : Nat) (l : List Int), n < l.length → (er n l).length + 1 = l.length
  | n, [], h => by simp at h
  | 0, x :: l, h => by simp [er]
  | n + 1, x :: l, h => by
    have := er_len n l (by simpa using h)
    simp only [er, List.length_cons]
    omega
theorem ins_len : ∀ (n : Nat) (x : Int) (l : List Int), (ins n x l).length = l.length + 1
  | 0, x, l => rfl
  | n + 1, x, [] => rfl
  | n + 1, x, a :: l => by simp only [ins, List.length_cons, ins_len n x l]
theorem mem_er : ∀ {n : Nat} {l : List Int} {e : Int}, e ∈ l → e = nth l n ∨ e ∈ er n l
  | n, [], e, h => by cases h
  | 0, x :: l, e, h => by
    cases h with
    | head => exact .inl (nth_zero _ _).symm
    | tail _ h => exact .inr h
  | n + 1, x :: l, e, h => by
    cases h with
    | head => exact .inr (.head _)
    | tail _ h =>
      rcases mem_er (n := n) h with h1 | h1
      · exact .inl (by rw [nth_succ]; exact h1)
      · exact .inr (.tail _ h1)
theorem er_mem : ∀ {n : Nat} {l : List Int} {e : Int}, e ∈ er n l → e ∈ l
  | n, [], e, h => by simp [er] at h
  | 0, x :: l, e, h => .tail _ h
  | n + 1, x :: l, e, h => by
    cases h with
    | head => exact .head _
    | tail _ h => exact .tail _ (er_mem h)
theorem P_er : ∀ (n : Nat) (l : List Int), n < l.length → P l = nth l n * P (er n l)
  | n, [], h => by simp at h
  | 0, x :: l, h => by rw [nth_zero]; rfl
  | n + 1, x :: l, h => by
    rw [nth_succ, er, P, P, P_er n l (by simpa using h), ← Int.mul_assoc, ← Int.mul_assoc, Int.mul_comm x]
theorem S_ins : ∀ (n : Nat) (ss ds : List Int) (i : Int), n < ss.length → ds.length + 1 = ss.length → S ss (ins n i ds) = S (er n ss) ds + nth ss n * i
  | n, [], ds, i, h, _ => by simp at h
  | 0, s :: ss, ds, i, h, _ => by rw [nth_zero]; simp only [ins, er, S]; omega
  | n + 1, s :: ss, [], i, h, hl => by simp at h hl; subst hl; simp at h
  | n + 1, s :: ss, d :: ds, i, h, hl => by
    rw [nth_succ]
    simp only [ins, er, S]
    rw [S_ins n ss ds i (by simpa using h) (by simpa using hl)]
    omega
theorem base_ins : ∀ {n : Nat} {es ds : List Int} {i : Int}, n < es.length → inBase (er n es) ds → 0 ≤ i → i < nth es n → inBase es (ins n i ds)
  | n, [], ds, i, h, _, _, _ => by simp at h
  | 0, e :: es, ds, i, h, hb, h0, h1 => ⟨h0, by rw [nth_zero] at h1; exact h1, hb⟩
  | n + 1, e :: es, [], i, h, hb, h0, h1 => by cases hb
  | n + 1, e :: es, d :: ds, i, h, hb, h0, h1 => by
    obtain ⟨b1, b2, b3⟩ := hb
    rw [nth_succ] at h1
    exact ⟨b1, b2, base_ins (by simpa using h) b3 h0 h1⟩
theorem base_er : ∀ {n : Nat} {es ds : List Int}, n < es.length → inBase es ds → inBase (er n es) (er n ds) ∧ ins n (nth ds n) (er n ds) = ds ∧ 0 ≤ nth ds n ∧ nth ds n < nth es n
  | n, [], ds, h, _ => by simp at h
  | n, e :: es, [], h, hb => by cases hb
  | 0, e :: es, d :: ds, h, ⟨b1, b2, b3⟩ => by
    rw [nth_zero, nth_zero]
    exact ⟨b3, rfl, b1, b2⟩
  | n + 1, e :: es, d :: ds, h, ⟨b1, b2, b3⟩ => by
    obtain ⟨g1, g2, g3, g4⟩ := base_er (n := n) (by simpa using h) b3
    rw [nth_succ, nth_succ]
    exact ⟨⟨b1, b2, g1⟩, by simp only [er, ins]; rw [g2], g3, g4⟩
theorem ins_nth : ∀ (n : Nat) (i : Int) (l : List Int), n ≤ l.length → nth (ins n i l) n = i
  | 0, i, l, _ => nth_zero _ _
  | n + 1, i, [], h => by simp at h
  | n + 1, i, a :: l, h => by simp only [ins]; rw [nth_succ]; exact ins_nth n i l (by simpa using h)
theorem ins_set : ∀ (n : Nat) (i j : Int) (l : List Int), n ≤ l.length → (ins n i l).set n j = ins n j l
  | 0, i, j, l, _ => rfl
  | n + 1, i, j, [], h => by simp at h
  | n + 1, i, j, a :: l, h => by simp only [ins, List.set_cons_succ]; rw [ins_set n i j l (by simpa using h)]
theorem S_str : ∀ (es ds : List Int) (s : Int), inBase es ds → 1 ≤ s → s * P es ≤ 512 → S (str s es) ds = s * H es ds ∧ ∀ x, x ∈ str s es → 0 ≤ x
  | [], [], s, _, _, _ => by simp [str, S, H]
  | [], _ :: _, _, h, _, _ => by cases h
  | _ :: _, [], _, h, _, _ => by cases h
  | e :: es, d :: ds, s, ⟨h1, h2, h3⟩, hs, hp => by
    have hpos := P_pos (inBase_pos h3)
    have e0 : s * P (e :: es) = s * e * P es := by simp [P, Int.mul_assoc]
    rw [e0] at hp
    have e1 : 1 * 1 ≤ s * e := Int.mul_le_mul hs (by omega) (by omega) (by omega)
    have e2 : s * e * 1 ≤ s * e * P es := Int.mul_le_mul_of_nonneg_left hpos (by omega)
    have w1 : w (s * e) = s * e := w_id (by omega) (by omega)
    obtain ⟨i1, i2⟩ := S_str es ds (s * e) h3 (by omega) hp
    simp only [str, S, w1, H]
    refine ⟨by rw [i1, Int.mul_add, Int.mul_assoc], ?_⟩
    intro x hx
    cases hx with
    | head => omega
    | tail _ hx => exact i2 x hx
theorem S_nonneg : ∀ (ss ds : List Int), (∀ x, x ∈ ss → 0 ≤ x) → (∀ x, x ∈ ds → 0 ≤ x) → 0 ≤ S ss ds
  | [], ds, _, _ => by cases ds <;> simp [S]
  | s :: ss, [], _, _ => by simp [S]
  | s :: ss, d :: ds, h1, h2 => by
    have a := Int.mul_nonneg (h1 s (.head _)) (h2 d (.head _))
    have b := S_nonneg ss ds (fun x hx => h1 x (.tail _ hx)) (fun x hx => h2 x (.tail _ hx))
    simp only [S]; omega
def sumF (a : Int) (t : Int × Int) : Int := w (a + w (t.2 * t.1))
theorem fold_S : ∀ (ss ds : List Int) (a : Int), (∀ x, x ∈ ss → 0 ≤ x) → (∀ x, x ∈ ds → 0 ≤ x) → 0 ≤ a → a + S ss ds ≤ 1000000 → (ds.zip ss).foldl sumF a = a + S ss ds
  | [], ds, a, _, _, _, _ => by cases ds <;> simp [S]
  | s :: ss, [], a, _, _, _, _ => by simp [S]
  | s :: ss, d :: ds, a, h1, h2, h0, hb => by
    have p := Int.mul_nonneg (h1 s (.head _)) (h2 d (.head _))
    have q := S_nonneg ss ds (fun x hx => h1 x (.tail _ hx)) (fun x hx => h2 x (.tail _ hx))
    simp only [S] at hb ⊢
    have e : sumF a (d, s) = a + s * d := by
      unfold sumF
      simp only
      rw [w_id (n := s * d) (by omega) (by omega), w_id (by omega) (by omega)]
    rw [List.zip_cons_cons, List.foldl_cons, e, fold_S ss ds _ (fun x hx => h1 x (.tail _ hx)) (fun x hx => h2 x (.tail _ hx)) (by omega) (by omega)]
    omega
theorem inBase_nonneg : ∀ {es ds : List Int}, inBase es ds → ∀ x, x ∈ ds → 0 ≤ x
  | [], [], _, x, h => by cases h
  | [], _ :: _, h, _, _ => by cases h
  | _ :: _, [], h, _, _ => by cases h
  | e :: es, d :: ds, ⟨h1, h2, h3⟩, x, hx => by
    cases hx with
    | head => exact h1
    | tail _ hx => exact inBase_nonneg h3 x hx
def baseW (es : List Int) (d j : Nat) : Int := ((dig (er d es) j).zip (er d (str 1 es))).foldl sumF 0
def lineW (es : List Int) (d j : Nat) : List Int := (List.range (nth es d).toNat).map fun i : Nat => w (baseW es d j + w ((i : Int) * nth (str 1 es) d))
def linesW (es : List Int) (d : Nat) : List (List Int) := (List.range (prodE (er d es)).toNat).map fun j : Nat => lineW es d j
structure Exts (es : List Int) (d : Nat) : Prop where
  len : es.length ≤ 7
  d : d < es.length
  r : ∀ e, e ∈ es → 0 ≤ e ∧ e ≤ 512
  p : P es ≤ 512
theorem prodE_small {xs : List Int} (h : ∀ x, x ∈ xs → 0 ≤ x ∧ x ≤ 512) : 0 ≤ prodE xs ∧ prodE xs ≤ 513 ∧ (0 < prodE xs → (∀ x, x ∈ xs → 1 ≤ x) ∧ prodE xs = min (P xs) 513) := by
  unfold prodE
  by_cases h0 : xs.any (fun x => 0 == x) = true
  · rw [if_pos h0]; exact ⟨by omega, by omega, fun h => by omega⟩
  · rw [if_neg h0]
    have hr : ∀ x, x ∈ xs → 1 ≤ x ∧ x ≤ 512 := by
      intro x hx
      simp only [List.any_eq_true, not_exists, not_and, beq_iff_eq] at h0
      have := h0 x hx
      have := h x hx
      omega
    have c := capP_eq (a := 1) hr (by omega) (by omega)
    have hp := P_pos fun x hq => (hr x hq).1
    have e : capP xs = min (1 * P xs) 513 := c
    rw [Int.one_mul] at e
    exact ⟨by omega, by omega, fun _ => ⟨fun x hx => (hr x hx).1, e⟩⟩
section
variable {es : List Int} {d : Nat}
theorem line_spec (h : Exts es d) {j i : Nat} (hj : (j : Int) < prodE (er d es)) (hi : (i : Int) < nth es d) :
    (∀ e, e ∈ es → 1 ≤ e) ∧ inBase (er d es) (dig (er d es) j) ∧ inBase es (ins d i (dig (er d es) j)) ∧ w (baseW es d j + w ((i : Int) * nth (str 1 es) d)) = H es (ins d i (dig (er d es) j)) := by
  obtain ⟨z1, z2, z3⟩ := prodE_small (xs := er d es) (fun x hx => h.r x (er_mem hx))
  obtain ⟨y1, y2⟩ := z3 (by omega)
  have pos : ∀ e, e ∈ es → 1 ≤ e := by
    intro e he
    rcases mem_er (n := d) he with q | q
    · omega
    · exact y1 e q
  have hpe := P_er d es h.d
  have hn : 1 ≤ nth es d := by omega
  have hP1 := P_pos y1
  have hle : 1 * P (er d es) ≤ nth es d * P (er d es) := Int.mul_le_mul_of_nonneg_right hn (by omega)
  have hp512 := h.p
  have hjP : (j : Int) < P (er d es) := by omega
  obtain ⟨b1, b2⟩ := dig_ok y1 (by omega) hjP
  have b3 := base_ins h.d b1 (by omega) hi
  refine ⟨pos, b1, b3, ?_⟩
  obtain ⟨s1, s2⟩ := S_str es _ 1 b3 (by omega) (by omega)
  have hsl : d < (str 1 es).length := by rw [str_len]; exact h.d
  have hdl : (dig (er d es) j).length + 1 = (str 1 es).length := by rw [dig_len, str_len]; exact er_len d es h.d
  rw [S_ins d _ _ _ hsl hdl] at s1
  have r := H_range b3
  have n1 : 0 ≤ S (er d (str 1 es)) (dig (er d es) j) := S_nonneg _ _ (fun x hx => s2 x (er_mem hx)) (inBase_nonneg b1)
  have n2 : 0 ≤ nth (str 1 es) d := by
    unfold nth
    rw [List.getElem?_eq_getElem hsl]
    exact s2 _ (List.getElem_mem hsl)
  have n3 : 0 ≤ nth (str 1 es) d * (i : Int) := Int.mul_nonneg n2 (by omega)
  have hb : baseW es d j = S (er d (str 1 es)) (dig (er d es) j) := by
    unfold baseW
    rw [fold_S _ _ 0 (fun x hx => s2 x (er_mem hx)) (inBase_nonneg b1) (by omega) (by omega)]
    omega
  rw [hb, Int.mul_comm (i : Int), w_id (n := nth (str 1 es) d * (i : Int)) (by omega) (by omega), w_id (by omega) (by omega)]
  omega
theorem line_cover (h : Exts es d) {o : Int} (h0 : 0 ≤ o) (h1 : o < P es) : ∃ j i : Nat, (j : Int) < prodE (er d es) ∧ (i : Int) < nth es d ∧ o = H es (ins d i (dig (er d es) j)) := by
  have pos : ∀ e, e ∈ es → 1 ≤ e := by
    intro e he
    have := h.r e he
    rcases Int.lt_or_eq_of_le this.1 with q | q
    · omega
    · have : P es = 0 := P_zero ⟨e, he, q.symm⟩
      omega
  obtain ⟨b1, b2⟩ := dig_ok pos h0 h1
  obtain ⟨g1, g2, g3, g4⟩ := base_er h.d b1
  have hr := H_range g1
  obtain ⟨z1, z2, z3⟩ := prodE_small (xs := er d es) (fun x hx => h.r x (er_mem hx))
  have epos : ∀ e, e ∈ er d es → 1 ≤ e := fun e he => pos e (er_mem he)
  have hpp : prodE (er d es) = min (P (er d es)) 513 := by
    unfold prodE
    rw [if_neg]
    · have := capP_eq (xs := er d es) (a := 1) (fun x hx => ⟨epos x hx, (h.r x (er_mem hx)).2⟩) (by omega) (by omega)
      rw [Int.one_mul] at this
      exact this
    · simp only [List.any_eq_true, not_exists, not_and, beq_iff_eq]
      intro x hx q
      have := epos x hx
      omega
  have hpe := P_er d es h.d
  have hP1 := P_pos epos
  have hn : 1 ≤ nth es d := by omega
  have hle : 1 * P (er d es) ≤ nth es d * P (er d es) := Int.mul_le_mul_of_nonneg_right hn (by omega)
  have hp512 := h.p
  refine ⟨(H (er d es) (er d (dig es o))).toNat, (nth (dig es o) d).toNat, by omega, by omega, ?_⟩
  have e1 : (((H (er d es) (er d (dig es o))).toNat : Nat) : Int) = H (er d es) (er d (dig es o)) := by omega
  have e2 : (((nth (dig es o) d).toNat : Nat) : Int) = nth (dig es o) d := by omega
  rw [e1, e2, dig_H g1, g2, b2]
theorem range_loopG {β τ : Type} {step : Int × List β → Option (Sum (Int × List β) τ)} (n : Int) (g : Nat → β) (fin : List β → τ) (h0 : 0 ≤ n) (hn : n < 16777216)
    (h : ∀ i : Nat, (i : Int) < n → ∀ b : List β, b.length = i → step (i, b) = some (.inl (((i + 1 : Nat) : Int), b ++ [g i]))) (hend : ∀ b, step (n, b) = some (.inr (fin b))) :
    loopO step (0, []) = some (fin ((List.range n.toNat).map g)) := by
  have hl : (List.range n.toNat).length = n.toNat := by simp
  have hc : ((List.range n.toNat).length : Int) = n := by rw [hl]; omega
  refine loop_map (step := step) (List.range n.toNat) g (fun i b => (i, b)) fin rfl ?_ ?_ (by omega)
  · intro i hi b hb
    have : (List.range n.toNat)[i] = i := by simp
    rw [this]
    exact h i (by omega) b hb
  · intro b; rw [hc]; exact hend b
theorem nth_range (h : Exts es d) : 0 ≤ nth es d ∧ nth es d ≤ 512 := by
  have hd := h.d
  have : nth es d ∈ es := by unfold nth; simp [hd]
  exact h.r _ this
theorem lines_eq (h : Exts es d) : shapes_lines es (d : Int) = some (linesW es d) := by
  have h7 := h.len
  have hd := h.d
  unfold shapes_lines slices_Clone_int
  rw [app_nil (by omega)]
  simp only [Option.bind_some]
  rw [wn (by omega)]
  have del1 : ∀ l : List Int, l.length = es.length → del l (d : Int) ((d + 1 : Nat) : Int) = some (er d l) := by
    intro l hl
    unfold del
    rw [if_pos (by omega)]
    simp only [Int.toNat_natCast]
    rw [er_eq]
  rw [del1 es rfl, strides_eq (by omega)]
  simp only [Option.bind_some]
  have hsl : (str 1 es).length = es.length := str_len es 1
  rw [nth_lt (by omega), app_nil (by omega)]
  simp only [Option.bind_some]
  have erl := er_len d es hd
  rw [del1 _ hsl, product_eq (by omega)]
  simp only [Option.bind_some]
  obtain ⟨z1, z2, z3⟩ := prodE_small (xs := er d es) (fun x hx => h.r x (er_mem hx))
  have nr := nth_range h
  rw [range_loopG (step := shapes_lines.s1 es d (er d es) (nth (str 1 es) d) (er d (str 1 es)) (prodE (er d es))) (prodE (er d es)) (fun j => lineW es d j) (fun b => b) z1 (by omega) ?_ ?_]
  · rfl
  · intro j hj b hb
    obtain ⟨y1, y2⟩ := z3 (by omega)
    simp only [shapes_lines.s1, hj, if_true]
    rw [digits_eq y1 (by omega) (by omega) (by omega)]
    simp only [Option.bind_some]
    have hdl : (dig (er d es) j).length = (er d (str 1 es)).length := by
      have e1 := er_len d (str 1 es) (by omega)
      rw [dig_len]; omega
    have hz : ((dig (er d es) j).zip (er d (str 1 es))).length = (dig (er d es) j).length := by simp; omega
    have hdle : (dig (er d es) j).length ≤ 7 := by rw [dig_len]; omega
    rw [loop_fold (step := shapes_lines.s2 (er d (str 1 es)) (dig (er d es) j)) ((dig (er d es) j).zip (er d (str 1 es))) (fun i (b : Int) => (b, i)) (fun b => b) sumF (fun _ _ => True) (a := 0) rfl ?_ ?_ trivial (by omega)]
    · simp only [Option.bind_some]
      rw [nth_lt hd]
      simp only [Option.bind_some]
      rw [range_loopG (step := shapes_lines.s3 (nth (str 1 es) d) (((dig (er d es) j).zip (er d (str 1 es))).foldl sumF 0) (nth es d)) (nth es d) (fun i : Nat => w (baseW es d j + w ((i : Int) * nth (str 1 es) d))) (fun b => b) nr.1 (by omega) ?_ ?_]
      · simp only [Option.bind_some]
        rw [app_one (by omega), wn (by omega)]; rfl
      · intro i hi b hb
        simp only [shapes_lines.s3, hi, if_true]
        rw [app_one (by omega), wn (by omega)]; rfl
      · intro b; simp only [shapes_lines.s3, Int.lt_irrefl, if_false]
    · intro i hi b _
      refine ⟨?_, trivial⟩
      rw [hz] at hi
      have h2 : i < (er d (str 1 es)).length := by omega
      simp only [shapes_lines.s2, lt_len hi, if_true, at_lt hi, at_lt h2, Option.bind_some, List.getElem_zip, sumF]
      rw [wn (by omega)]
    · intro b _; rw [hz]; simp only [shapes_lines.s2, not_lt_len, if_false]
  · intro b; simp only [shapes_lines.s1, Int.lt_irrefl, if_false]
end
def putG (g : Int → Int) (Q : List Int) (xs : List Int) : List Int := Q.foldl (fun b q => b.set q.toNat (g q)) xs
theorem putG_len (g : Int → Int) : ∀ (Q xs : List Int), (putG g Q xs).length = xs.length
  | [], xs => rfl
  | q :: Q, xs => by
    have := putG_len g Q (xs.set q.toNat (g q))
    unfold putG at this ⊢
    rw [List.foldl_cons, this]; simp
theorem putG_at (g : Int → Int) : ∀ (Q xs : List Int) (k : Nat), k < xs.length → (∀ q, q ∈ Q → 0 ≤ q) → ((k : Int) ∈ Q → nth (putG g Q xs) k = g k) ∧ (¬ (k : Int) ∈ Q → nth (putG g Q xs) k = nth xs k)
  | [], xs, k, _, _ => ⟨fun h => (by cases h), fun _ => rfl⟩
  | q :: Q, xs, k, hk, hq => by
    have ih := putG_at g Q (xs.set q.toNat (g q)) k (by simpa using hk) (fun y hy => hq y (.tail _ hy))
    have e : putG g (q :: Q) xs = putG g Q (xs.set q.toNat (g q)) := rfl
    rw [e]
    have h0 := hq q (.head _)
    by_cases hm : (k : Int) ∈ Q
    · exact ⟨fun _ => ih.1 hm, fun h => absurd (.tail _ hm) h⟩
    · refine ⟨fun h => ?_, fun h => ?_⟩
      · cases h with
        | head =>
          rw [ih.2 hm]
          unfold nth
          simp [hk]
        | tail _ h => exact absurd h hm
      · rw [ih.2 hm]
        have hne : q.toNat ≠ k := fun r => h (by
          have : q = (k : Int) := by omega
          rw [this]; exact .head _)
        unfold nth
        rw [List.getElem?_set_ne hne]
theorem putG_all (g : Int → Int) {Q xs : List Int} (h0 : ∀ q, q ∈ Q → 0 ≤ q) (h : ∀ k : Nat, k < xs.length → (k : Int) ∈ Q) : putG g Q xs = (List.range xs.length).map fun k : Nat => g k := by
  apply List.ext_getElem
  · simp [putG_len]
  · intro k h1 h2
    have hk : k < xs.length := by rw [putG_len] at h1; exact h1
    have := (putG_at g Q xs k hk h0).1 (h k hk)
    unfold nth at this
    rw [List.getElem?_eq_getElem h1] at this
    simpa using this
theorem fold_lines (g : Int → Int) : ∀ (L : List (List Int)) (xs : List Int), L.foldl (fun b l => putG g l b) xs = putG g L.flatten xs
  | [], xs => rfl
  | l :: L, xs => by
    rw [List.foldl_cons, fold_lines g L, List.flatten_cons]
    unfold putG
    rw [List.foldl_append]
theorem line_mem {es : List Int} {d : Nat} (h : Exts es d) {o : Int} (ho : o ∈ (linesW es d).flatten) : 0 ≤ o ∧ o < P es := by
  obtain ⟨l, hl, ho⟩ := List.mem_flatten.1 ho
  obtain ⟨j, hj, rfl⟩ := List.mem_map.1 hl
  obtain ⟨i, hi, rfl⟩ := List.mem_map.1 ho
  have hj' := List.mem_range.1 hj
  have hi' := List.mem_range.1 hi
  obtain ⟨_, _, b3, e⟩ := line_spec h (j := j) (i := i) (by omega) (by omega)
  rw [e]
  exact H_range b3
theorem lines_all {es : List Int} {d : Nat} (h : Exts es d) {o : Int} (h0 : 0 ≤ o) (h1 : o < P es) : o ∈ (linesW es d).flatten := by
  obtain ⟨j, i, hj, hi, e⟩ := line_cover h h0 h1
  obtain ⟨_, _, _, e2⟩ := line_spec h hj hi
  refine List.mem_flatten.2 ⟨lineW es d j, List.mem_map.2 ⟨j, List.mem_range.2 (by omega), rfl⟩, List.mem_map.2 ⟨i, List.mem_range.2 (by omega), ?_⟩⟩
  rw [e2, e]
theorem lines_loop {es : List Int} {d : Nat} (h : Exts es d) {xs : List Int} (hx : (xs.length : Int) = P es) (g : Int → Int) {step : Int × List Int → Option (Sum (Int × List Int) (List Int))} {inner : List Int → Int × List Int → Option (Sum (Int × List Int) (List Int))}
    (ho : ∀ (i : Nat) (hi : i < (linesW es d).length) (b : List Int), step (i, b) = (loopO (inner (linesW es d)[i]) (0, b)).bind fun z => some (.inl (w ((i : Int) + 1), z))) (hend : ∀ b, step (((linesW es d).length : Int), b) = some (.inr b))
    (hin : ∀ (j i : Nat), (j : Int) < prodE (er d es) → (i : Int) < nth es d → ∀ b : List Int, b.length = xs.length → inner (lineW es d j) (i, b) = some (.inl (((i + 1 : Nat) : Int), b.set (H es (ins d i (dig (er d es) j))).toNat (g (H es (ins d i (dig (er d es) j)))))))
    (hie : ∀ (l : List Int) (b : List Int), inner l ((l.length : Int), b) = some (.inr b)) : loopO step (0, xs) = some ((List.range xs.length).map fun k : Nat => g k) := by
  obtain ⟨z1, z2, z3⟩ := prodE_small (xs := er d es) (fun x hx => h.r x (er_mem hx))
  have nr := nth_range h
  have ll : (linesW es d).length = (prodE (er d es)).toNat := by simp [linesW]
  rw [loop_fold (step := step) (linesW es d) (fun i b => (i, b)) (fun b => b) (fun b l => putG g l b) (fun _ b => b.length = xs.length) (a := xs) rfl ?_ (fun b _ => hend b) rfl (by omega)]
  · rw [fold_lines, putG_all g (fun q hq => (line_mem h hq).1) (fun k hk => lines_all h (by omega) (by omega))]
  · intro j hj b hb
    refine ⟨?_, by rw [putG_len]; exact hb⟩
    have hj' : (j : Int) < prodE (er d es) := by omega
    have hl : (linesW es d)[j] = lineW es d j := by simp [linesW]
    have lil : (lineW es d j).length = (nth es d).toNat := by simp [lineW]
    rw [ho j hj b, hl]
    rw [loop_fold (step := inner (lineW es d j)) (lineW es d j) (fun i b => (i, b)) (fun b => b) (fun b q => b.set q.toNat (g q)) (fun _ b => b.length = xs.length) (a := b) rfl ?_ (fun b _ => hie _ b) hb (by omega)]
    · simp only [Option.bind_some]
      rw [wn (by omega)]; rfl
    · intro i hi b2 hb2
      refine ⟨?_, by simpa using hb2⟩
      have hi' : (i : Int) < nth es d := by omega
      have e := (line_spec h hj' hi').2.2.2
      have hli : (lineW es d j)[i] = H es (ins d i (dig (er d es) j)) := by
        rw [← e]; simp [lineW]
      rw [hli, hin j i hj' hi' b2 hb2]
def dErr (a : api_Array) (dim : Int) : Int := if (chk a).2 ≠ 0 then (chk a).2 else if shapes_inside dim 1 (a.Bounds.length : Int) = true then 0 else 32
theorem dimErr_eq {a : api_Array} {dim : Int} (ha : a.Elements.length < 16777216) : shapes_dimErr a dim = some (dErr a dim) := by
  unfold shapes_dimErr dErr
  rw [arraysErr1 ha, broken1]
  simp only [Option.bind_some, cmpOr2]
  by_cases h : (chk a).2 = 0
  · simp [h]
  · simp [h]
theorem dim_ok {a : api_Array} {dim : Int} (h : dErr a dim = 0) : Valid a ∧ ∃ d : Nat, w (dim - 1) = d ∧ dim = d + 1 ∧ Exts (exs a.Bounds) d := by
  unfold dErr at h
  split at h
  · rename_i q; exact absurd h q
  rename_i q
  split at h
  · rename_i h2
    have va := chk_valid (Classical.not_not.1 q)
    have ok := bErr_ok va.b
    have hl7 := ok.len
    simp [shapes_inside] at h2
    refine ⟨va, (dim - 1).toNat, ?_, by omega, ⟨by simp [exs]; omega, by simp [exs]; omega, ?_, ok.size.2.2⟩⟩
    · rw [w_id (by omega) (by omega)]; omega
    · intro e he
      obtain ⟨b, hb, rfl⟩ := List.mem_map.1 he
      exact ⟨ok.pos b hb, ok.big b hb⟩
  · cases h
def shG (xs es : List Int) (d : Nat) (by_ : Int) (o : Int) : Int := elAt xs (H es ((dig es o).set d ((nth (dig es o) d + by_ % nth es d) % nth es d)))
theorem rem_chain {i by_ n : Int} (hn : 1 ≤ n) (hb : n ≤ 512) (h0 : 0 ≤ i) (hi : i < n) : ((rem by_ n).bind fun x12 => (rem (w (x12 + n)) n).bind fun x13 => rem (w (i + x13)) n) = some ((i + by_ % n) % n) := by
  unfold rem
  rw [if_neg (by omega)]
  simp only [Option.bind_some, show ¬ n = 0 by omega, if_false]
  have e := Int.tmod_eq_emod (a := by_) (b := n)
  have m1 := Int.emod_nonneg by_ (b := n) (by omega)
  have m2 := Int.emod_lt_of_pos by_ (b := n) (by omega)
  have hr : -n < by_.tmod n ∧ by_.tmod n < n := by
    by_cases hd : 0 ≤ by_ ∨ n ∣ by_
    · rw [if_pos hd] at e; omega
    · rw [if_neg hd] at e; omega
  rw [w_id (n := by_.tmod n + n) (by omega) (by omega), Int.tmod_eq_emod_of_nonneg (a := by_.tmod n + n) (by omega)]
  have e2 : (by_.tmod n + n) % n = by_ % n := by
    rw [Int.add_emod_right]
    by_cases hd : 0 ≤ by_ ∨ n ∣ by_
    · rw [if_pos hd] at e
      rw [show by_.tmod n = by_ % n by omega, Int.emod_emod_of_dvd _ (Int.dvd_refl n)]
    · rw [if_neg hd] at e
      rw [show by_.tmod n = by_ % n - n by omega, Int.sub_emod_right, Int.emod_emod_of_dvd _ (Int.dvd_refl n)]
  rw [e2, w_id (n := i + by_ % n) (by omega) (by omega), Int.tmod_eq_emod_of_nonneg (by omega)]
end Go.Sh
namespace Go.Sh
open Go.Lx
set_option linter.unusedVariables false
set_option linter.unusedSimpArgs false
section
variable {a : api_Array} {d : Nat}
theorem place_dig (h : Exts (exs a.Bounds) d) {j i : Nat} (hj : (j : Int) < prodE (er d (exs a.Bounds))) (hi : (i : Int) < nth (exs a.Bounds) d) :
    dig (exs a.Bounds) (H (exs a.Bounds) (ins d i (dig (er d (exs a.Bounds)) j))) = ins d i (dig (er d (exs a.Bounds)) j) ∧ d ≤ (dig (er d (exs a.Bounds)) j).length := by
  obtain ⟨_, _, b3, _⟩ := line_spec h hj hi
  refine ⟨dig_H b3, ?_⟩
  have := er_len d (exs a.Bounds) h.d
  have := h.d
  rw [dig_len]; omega
theorem shifted_eq (va : Valid a) (h : Exts (exs a.Bounds) d) (hs : a.Elements.length < 16777216) (by_ : Int) : loopO (shapes_Shifted.s1 a by_ (linesW (exs a.Bounds) d)) (0, a.Elements) = some ((List.range a.Elements.length).map fun k : Nat => shG a.Elements (exs a.Bounds) d by_ k) := by
  refine lines_loop h va.len (shG a.Elements (exs a.Bounds) d by_) (inner := fun l => shapes_Shifted.s2 a by_ l) ?_ ?_ ?_ ?_
  · intro i hi b
    simp only [shapes_Shifted.s1, lt_len hi, if_true, at_lt hi, Option.bind_some]
  · intro b; simp only [shapes_Shifted.s1, not_lt_len, if_false]
  · intro j i hj hi b hb
    have nr := nth_range h
    have lil : (lineW (exs a.Bounds) d j).length = (nth (exs a.Bounds) d).toNat := by simp [lineW]
    have lic : ((lineW (exs a.Bounds) d j).length : Int) = nth (exs a.Bounds) d := by omega
    have hil : i < (lineW (exs a.Bounds) d j).length := by omega
    have hat : ∀ k : Nat, (k : Int) < nth (exs a.Bounds) d → at_ (lineW (exs a.Bounds) d j) (k : Int) = some (H (exs a.Bounds) (ins d k (dig (er d (exs a.Bounds)) j))) := by
      intro k hk
      have hkl : k < (lineW (exs a.Bounds) d j).length := by omega
      rw [at_lt hkl, ← (line_spec h hj hk).2.2.2]
      simp [lineW]
    have b3 := (line_spec h hj hi).2.2.1
    have rg := H_range b3
    have hl := va.len
    have rc := rem_chain (i := i) (by_ := by_) (n := nth (exs a.Bounds) d) (by omega) nr.2 (by omega) hi
    have q1 := Int.emod_nonneg ((i : Int) + by_ % nth (exs a.Bounds) d) (b := nth (exs a.Bounds) d) (by omega)
    have q2 := Int.emod_lt_of_pos ((i : Int) + by_ % nth (exs a.Bounds) d) (b := nth (exs a.Bounds) d) (by omega)
    obtain ⟨i', hi'⟩ : ∃ i' : Nat, (i' : Int) = ((i : Int) + by_ % nth (exs a.Bounds) d) % nth (exs a.Bounds) d := ⟨(((i : Int) + by_ % nth (exs a.Bounds) d) % nth (exs a.Bounds) d).toNat, by omega⟩
    have b3' := (line_spec h hj (i := i') (by omega)).2.2.1
    have rg' := H_range b3'
    obtain ⟨pd1, pd2⟩ := place_dig h hj hi
    simp only [shapes_Shifted.s2, lic, hi, if_true, hat i hi, Option.bind_some]
    obtain ⟨x12, e12, rc⟩ := Option.bind_eq_some_iff.1 rc
    obtain ⟨x13, e13, rc⟩ := Option.bind_eq_some_iff.1 rc
    simp only [e12, e13, rc, Option.bind_some]
    rw [← hi', hat i' (by omega)]
    simp only [Option.bind_some]
    rw [at_el rg'.1 (by omega)]
    simp only [Option.bind_some]
    rw [at_el rg.1 (by omega)]
    simp only [Option.bind_some]
    rw [wn (by omega)]
    unfold shG
    rw [pd1, ins_nth d _ _ pd2, ins_set d _ _ _ pd2, hi']
  · intro l b; simp only [shapes_Shifted.s2, not_lt_len, if_false]
end
end Go.Sh
namespace Go.Sh
open Go.Lx
set_option linter.unusedVariables false
set_option linter.unusedSimpArgs false
def prodF (_ : Nat) (b x : Int) : Sum Unit Int := if shapes_isInteger (w (b * x)) = true then .inr (w (b * x)) else .inl ()
def cntF (b x : Int) : Int := if x = 0 then b else w (b + 1)
def foldV (k : Int) (l : List Int) : Int × Bool :=
  if k = 2 then (l.foldl mx (-2147483648), true)
  else if k = 3 then (l.foldl mn 2147483647, true)
  else if k = 1 then (match scanE prodF 0 l 1 with | .inl _ => (0, false) | .inr n => (n, shapes_isInteger n))
  else if k = 4 then (l.foldl cntF 0, shapes_isInteger (l.foldl cntF 0))
  else (l.foldl (fun b x => w (b + x)) 0, shapes_isInteger (l.foldl (fun b x => w (b + x)) 0))
theorem int_range {x : Int} : shapes_isInteger x = true ↔ -2147483648 ≤ x ∧ x ≤ 2147483647 := by simp [shapes_isInteger, shapes_inside]
theorem max_eq {l : List Int} {b : Int} (h : l.length < 16777215) : slices_Max_int (b :: l) = some (l.foldl mx b) := by
  unfold slices_Max_int
  rw [if_neg (by simp; omega)]
  have : at_ (b :: l) 0 = some b := rfl
  rw [this]
  simp only [Option.bind_some]
  rw [loop_fold (step := slices_Max_int.s1 (b :: l)) l (fun i (c : Int) => (c, i + 1)) (fun c => c) mx (fun _ _ => True) (a := b) (s := (b, 1)) rfl ?_ ?_ trivial (by omega)]
  · rfl
  · intro i hi c _
    refine ⟨?_, trivial⟩
    have e : ((i : Int) + 1) = ((i + 1 : Nat) : Int) := by omega
    have hl : i + 1 < (b :: l).length := by simp; omega
    simp only [slices_Max_int.s1]
    rw [e, if_pos (by omega), at_lt hl]
    simp only [Option.bind_some, List.getElem_cons_succ]
    rw [wn (by omega)]; rfl
  · intro c _
    have e : ((l.length : Int) + 1) = ((b :: l).length : Int) := by simp
    simp only [slices_Max_int.s1, e, not_lt_len, if_false]
theorem min_eq {l : List Int} {b : Int} (h : l.length < 16777215) : slices_Min_int (b :: l) = some (l.foldl mn b) := by
  unfold slices_Min_int
  rw [if_neg (by simp; omega)]
  have : at_ (b :: l) 0 = some b := rfl
  rw [this]
  simp only [Option.bind_some]
  rw [loop_fold (step := slices_Min_int.s1 (b :: l)) l (fun i (c : Int) => (c, i + 1)) (fun c => c) mn (fun _ _ => True) (a := b) (s := (b, 1)) rfl ?_ ?_ trivial (by omega)]
  · rfl
  · intro i hi c _
    refine ⟨?_, trivial⟩
    have e : ((i : Int) + 1) = ((i + 1 : Nat) : Int) := by omega
    have hl : i + 1 < (b :: l).length := by simp; omega
    simp only [slices_Min_int.s1]
    rw [e, if_pos (by omega), at_lt hl]
    simp only [Option.bind_some, List.getElem_cons_succ]
    rw [wn (by omega)]; rfl
  · intro c _
    have e : ((l.length : Int) + 1) = ((b :: l).length : Int) := by simp
    simp only [slices_Min_int.s1, e, not_lt_len, if_false]
theorem app_cons {l : List Int} {b : Int} (h : l.length < 16777215) : app [b] l = some (b :: l) := by unfold app; rw [if_pos (by simp; omega)]; rfl
theorem kind5 {k : Int} (h : shapes_inside k 0 4 = true) : k = 0 ∨ k = 1 ∨ k = 2 ∨ k = 3 ∨ k = 4 := by
  simp [shapes_inside] at h; omega
theorem fold_eq {l : List Int} (h : l.length < 16777215) {k : Int} (hk : shapes_inside k 0 4 = true) : shapes_fold k l = some (foldV k l) := by
  rcases kind5 hk with rfl | rfl | rfl | rfl | rfl
  · unfold shapes_fold foldV shapes_fold.j1
    simp only [show ¬ (0 : Int) = 2 by decide, show ¬ (0 : Int) = 3 by decide, show ¬ (0 : Int) = 1 by decide, show ¬ (0 : Int) = 4 by decide, if_false]
    rw [loop_fold (step := shapes_fold.s2 0 l) l (fun i (c : Int) => (c, i)) (fun c => Sum.inl c) (fun b x => w (b + x)) (fun _ _ => True) (a := 0) rfl ?_ ?_ trivial (by omega)]
    · rfl
    · intro i hi c _
      refine ⟨?_, trivial⟩
      simp only [shapes_fold.s2, lt_len hi, if_true, at_lt hi, Option.bind_some]
      rw [wn (by omega)]
    · intro c _; simp only [shapes_fold.s2, not_lt_len, if_false]
  · unfold shapes_fold foldV shapes_fold.j1
    simp only [show ¬ (1 : Int) = 2 by decide, show ¬ (1 : Int) = 3 by decide, if_false, if_true]
    rw [loop_scan (step := shapes_fold.s2 1 l) l (fun i (c : Int) => (c, i)) (fun (_ : Unit) => Sum.inr (0, false)) (fun c => Sum.inl c) prodF (fun _ _ => True) (a := 1) rfl ?_ ?_ trivial (by omega)]
    · cases scanE prodF 0 l 1 <;> rfl
    · intro i hi c _
      refine ⟨?_, fun _ _ => trivial⟩
      simp only [shapes_fold.s2, lt_len hi, if_true, at_lt hi, Option.bind_some, show ¬ (1 : Int) = 0 by decide, show ¬ (1 : Int) = 4 by decide, if_false, prodF]
      by_cases e : shapes_isInteger (w (c * l[i])) = true
      · simp only [e, not_true, if_false, if_true]; rw [wn (by omega)]
      · simp only [e, not_false_eq_true, if_true, if_false, Bool.false_eq_true]
    · intro c _; simp only [shapes_fold.s2, not_lt_len, if_false]
  · unfold shapes_fold foldV
    simp only [if_true]
    rw [app_cons h]
    simp only [Option.bind_some]
    rw [max_eq h]; rfl
  · unfold shapes_fold foldV
    simp only [show ¬ (3 : Int) = 2 by decide, if_false, if_true]
    rw [app_cons h]
    simp only [Option.bind_some]
    rw [min_eq h]; rfl
  · unfold shapes_fold foldV shapes_fold.j1
    simp only [show ¬ (4 : Int) = 2 by decide, show ¬ (4 : Int) = 3 by decide, show ¬ (4 : Int) = 1 by decide, if_false, if_true]
    rw [loop_fold (step := shapes_fold.s2 4 l) l (fun i (c : Int) => (c, i)) (fun c => Sum.inl c) cntF (fun _ _ => True) (a := 0) rfl ?_ ?_ trivial (by omega)]
    · rfl
    · intro i hi c _
      refine ⟨?_, trivial⟩
      simp only [shapes_fold.s2, lt_len hi, if_true, at_lt hi, Option.bind_some, show ¬ (4 : Int) = 0 by decide, if_false, cntF]
      by_cases e : l[i] = 0
      · simp only [e, not_true, if_false, if_true]; rw [wn (by omega)]
      · simp only [e, not_false_eq_true, if_true, if_false]; rw [wn (by omega)]
    · intro c _; simp only [shapes_fold.s2, not_lt_len, if_false]
def redF (k : Int) (_ : Nat) (b : List Int) (l : List Int) : Sum Unit (List Int) := if (foldV k l).2 = true then .inr (b ++ [(foldV k l).1]) else .inl ()
def redAll (k : Int) (bs : List api_Bound) (L : List (List Int)) : api_Array × Int := match scanE (redF k) 0 L [] with | .inl _ => (⟨[], []⟩, 28) | .inr b => (⟨bs, b⟩, 0)
theorem redF_len {k : Int} {i : Nat} {b b' l : List Int} (h : redF k i b l = .inr b') : b'.length = b.length + 1 := by
  unfold redF at h
  split at h
  · cases h; simp
  · cases h
theorem reduced_j {k : Int} (hk : shapes_inside k 0 4 = true) {bs : List api_Bound} {L : List (List Int)} (hL : L.length < 16777216) (hl : ∀ l, l ∈ L → l.length < 16777215) : shapes_Reduced.j1 k (bs, L) = some (redAll k bs L) := by
  unfold shapes_Reduced.j1 redAll
  rw [loop_scan (step := shapes_Reduced.s2 k (bs, L)) L (fun i b => (i, b)) (fun (_ : Unit) => Sum.inr (⟨[], []⟩, 28)) (fun b => Sum.inl b) (redF k) (fun i b => b.length = i) (a := []) rfl ?_ ?_ rfl (by omega)]
  · cases scanE (redF k) 0 L [] <;> rfl
  · intro i hi b hb
    refine ⟨?_, fun b' h => by rw [redF_len h, hb]⟩
    simp only [shapes_Reduced.s2, lt_len hi, if_true, at_lt hi, Option.bind_some]
    rw [fold_eq (hl _ (List.getElem_mem hi)) hk]
    simp only [Option.bind_some, redF]
    by_cases e : (foldV k L[i]).2 = true
    · simp only [e, not_true, if_false, if_true]
      rw [app_one (by omega)]
      simp only [Option.bind_some]
      rw [wn (by omega)]
    · simp only [e, not_false_eq_true, if_true, if_false, Bool.false_eq_true]
  · intro b _; simp only [shapes_Reduced.s2, not_lt_len, if_false]
theorem brokenR (a b : Bool) : shapes_broken [shapes_rule.mk a 32, shapes_rule.mk b 15] = some (if a = true then (if b = true then 0 else 15) else 32) := by
  cases a <;> cases b <;> decide +kernel
def elsL (a : api_Array) (d j : Nat) : List Int := (List.range (nth (exs a.Bounds) d).toNat).map fun i : Nat => elAt a.Elements (H (exs a.Bounds) (ins d i (dig (er d (exs a.Bounds)) j)))
def linesL (a : api_Array) (d : Nat) : List (List Int) := (List.range (prodE (er d (exs a.Bounds))).toNat).map fun j : Nat => elsL a d j
section
variable {a : api_Array} {d : Nat}
theorem line_els (h : Exts (exs a.Bounds) d) {j : Nat} (hj : (j : Int) < prodE (er d (exs a.Bounds))) : (lineW (exs a.Bounds) d j).map (elAt a.Elements) = elsL a d j := by
  unfold lineW elsL
  rw [List.map_map]
  apply List.map_congr_left
  intro i hi
  have hi' := List.mem_range.1 hi
  have nr := nth_range h
  simp only [Function.comp]
  rw [(line_spec h hj (i := i) (by omega)).2.2.2]
theorem picked_line (va : Valid a) (h : Exts (exs a.Bounds) d) {j : Nat} (hj : (j : Int) < prodE (er d (exs a.Bounds))) : shapes_picked a [] (lineW (exs a.Bounds) d j) = some ⟨[], elsL a d j⟩ := by
  have nr := nth_range h
  have lil : (lineW (exs a.Bounds) d j).length = (nth (exs a.Bounds) d).toNat := by simp [lineW]
  have hl := va.len
  unfold shapes_picked
  rw [from_eq (by simp)]
  simp only [Option.bind_some]
  rw [loop_map (step := shapes_picked.s1 a (lineW (exs a.Bounds) d j)) (lineW (exs a.Bounds) d j) (elAt a.Elements) (fun i b => (i, b)) (fun b => b) rfl ?_ ?_ (by omega)]
  · simp only [Option.bind_some]; rw [line_els h hj]; rfl
  · intro i hi b hb
    simp only [shapes_picked.s1, lt_len hi, if_true, at_lt hi, Option.bind_some]
    have hi' : (i : Int) < nth (exs a.Bounds) d := by omega
    have sp := line_spec h hj hi'
    have rg := H_range sp.2.2.1
    have e : (lineW (exs a.Bounds) d j)[i] = H (exs a.Bounds) (ins d i (dig (er d (exs a.Bounds)) j)) := by rw [← sp.2.2.2]; simp [lineW]
    rw [e, at_el rg.1 (by omega)]
    simp only [Option.bind_some]
    rw [app_one (by omega), wn (by omega)]; rfl
  · intro b; simp only [shapes_picked.s1, not_lt_len, if_false]
theorem linesL_len (h : Exts (exs a.Bounds) d) : (linesL a d).length ≤ 513 ∧ ∀ l, l ∈ linesL a d → l.length ≤ 512 := by
  obtain ⟨z1, z2, z3⟩ := prodE_small (xs := er d (exs a.Bounds)) (fun x hx => h.r x (er_mem hx))
  have nr := nth_range h
  refine ⟨by simp [linesL]; omega, fun l hl => ?_⟩
  obtain ⟨j, _, rfl⟩ := List.mem_map.1 hl
  simp [elsL]; omega
theorem todo_eq (va : Valid a) (h : Exts (exs a.Bounds) d) : loopO (shapes_Reduced.s3 a (linesW (exs a.Bounds) d)) (0, []) = some (linesL a d) := by
  obtain ⟨z1, z2, z3⟩ := prodE_small (xs := er d (exs a.Bounds)) (fun x hx => h.r x (er_mem hx))
  have ll : (linesW (exs a.Bounds) d).length = (prodE (er d (exs a.Bounds))).toNat := by simp [linesW]
  have lc : ((linesW (exs a.Bounds) d).length : Int) = prodE (er d (exs a.Bounds)) := by omega
  rw [range_loopG (step := shapes_Reduced.s3 a (linesW (exs a.Bounds) d)) (prodE (er d (exs a.Bounds))) (fun j => elsL a d j) (fun b => b) z1 (by omega) ?_ ?_]
  · rfl
  · intro j hj b hb
    have hjl : j < (linesW (exs a.Bounds) d).length := by omega
    have e : (linesW (exs a.Bounds) d)[j] = lineW (exs a.Bounds) d j := by simp [linesW]
    simp only [shapes_Reduced.s3, lc, hj, if_true, at_lt hjl, Option.bind_some]
    rw [e, picked_line va h hj]
    simp only [Option.bind_some]
    rw [app_one (by omega), wn (by omega)]; rfl
  · intro b; simp only [shapes_Reduced.s3, lc, Int.lt_irrefl, if_false]
end
end Go.Sh
namespace Go.Sh
open Go.Lx
set_option linter.unusedVariables false
set_option linter.unusedSimpArgs false
structure Small (es : List Int) : Prop where
  len : es.length ≤ 7
  r : ∀ e, e ∈ es → 0 ≤ e ∧ e ≤ 512
  p : P es ≤ 512
theorem valid_small {a : api_Array} (va : Valid a) : Small (exs a.Bounds) := by
  have ok := bErr_ok va.b
  refine ⟨by simp [exs]; exact ok.len, ?_, ok.size.2.2⟩
  intro e he
  obtain ⟨b, hb, rfl⟩ := List.mem_map.1 he
  exact ⟨ok.pos b hb, ok.big b hb⟩
theorem picked_eq {a : api_Array} {es os : List Int} (he : es.length < 16777216) (ho : os.length < 16777216) (h : ∀ o, o ∈ os → 0 ≤ o ∧ o < (a.Elements.length : Int)) :
    shapes_picked a es os = some ⟨ofExt es, os.map (elAt a.Elements)⟩ := by
  unfold shapes_picked
  rw [from_eq he]
  simp only [Option.bind_some]
  rw [loop_map (step := shapes_picked.s1 a os) os (elAt a.Elements) (fun i b => (i, b)) (fun b => b) rfl ?_ ?_ (by omega)]
  · rfl
  · intro i hi b hb
    have h1 := h _ (List.getElem_mem hi)
    simp only [shapes_picked.s1, lt_len hi, if_true, at_lt hi, Option.bind_some]
    rw [at_el h1.1 h1.2]
    simp only [Option.bind_some]
    rw [app_one (by omega), wn (by omega)]; rfl
  · intro b; simp only [shapes_picked.s1, not_lt_len, if_false]
theorem foldl_many {α β : Type} (F : α → List β) : ∀ (xs : List α) (acc : List β), xs.foldl (fun b x => b ++ F x) acc = acc ++ xs.flatMap F
  | [], acc => by simp
  | x :: xs, acc => by rw [List.foldl_cons, foldl_many F xs]; simp
def tpos (e0 e1 : Int) : List Int := (List.range e0.toNat).flatMap fun i : Nat => (List.range e1.toNat).map fun j : Nat => (i : Int) + (j : Int) * e0
theorem tpos_range {e0 e1 : Int} (h0 : 0 ≤ e0) (h1 : 0 ≤ e1) : ∀ o, o ∈ tpos e0 e1 → 0 ≤ o ∧ o < e0 * e1 := by
  intro o ho
  obtain ⟨i, hi0, hj0⟩ := List.mem_flatMap.1 ho
  obtain ⟨j, hj1, rfl⟩ := List.mem_map.1 hj0
  have hi := List.mem_range.1 hi0
  have hj := List.mem_range.1 hj1
  have a1 : 0 ≤ (j : Int) * e0 := Int.mul_nonneg (by omega) h0
  have a2 : ((j : Int) + 1) * e0 ≤ e1 * e0 := Int.mul_le_mul_of_nonneg_right (by omega) h0
  rw [Int.add_mul, Int.one_mul, Int.mul_comm e1] at a2
  omega
theorem tpos_len (e0 e1 : Int) : (tpos e0 e1).length = e0.toNat * e1.toNat := by
  unfold tpos
  rw [List.length_flatMap]
  simp [List.map_const', List.sum_replicate_nat]
theorem dbl_loop {step : Int × List Int → Option (Sum (Int × List Int) (List Int))} {inner : Nat → List Int → Int × List Int → Option (Sum (Int × List Int) (List Int))} {e0 e1 : Int} (g : Nat → Nat → Int) (h0 : 0 ≤ e0 ∧ e0 ≤ 512) (h1 : 0 ≤ e1 ∧ e1 ≤ 512)
    (hin : ∀ i : Nat, (i : Int) < e0 → ∀ b0 (j : Nat) (b : List Int), (j : Int) < e1 → b.length < 16777216 → inner i b0 (j, b) = some (.inl (((j + 1 : Nat) : Int), b ++ [g i j])))
    (hie : ∀ i : Nat, (i : Int) < e0 → ∀ b0 b, inner i b0 (e1, b) = some (.inr b))
    (hs : ∀ i : Nat, (i : Int) < e0 → ∀ b : List Int, step (i, b) = (loopO (inner i b) (0, b)).bind fun z => some (.inl (((i + 1 : Nat) : Int), z)))
    (hse : ∀ b, step (e0, b) = some (.inr b)) : loopO step (0, []) = some ((List.range e0.toNat).flatMap fun i => (List.range e1.toNat).map (g i)) := by
  have hl : (List.range e0.toNat).length = e0.toNat := by simp
  have hc : ((List.range e0.toNat).length : Int) = e0 := by rw [hl]; omega
  have hl1 : (List.range e1.toNat).length = e1.toNat := by simp
  have hc1 : ((List.range e1.toNat).length : Int) = e1 := by rw [hl1]; omega
  rw [loop_fold (step := step) (List.range e0.toNat) (fun i b => (i, b)) (fun b => b) (fun b i => b ++ (List.range e1.toNat).map (g i)) (fun i b => b.length ≤ i * 512) rfl ?_ ?_ (by simp) (by omega)]
  · rw [foldl_many]; rfl
  · intro i hi b hb
    have hi' : (i : Int) < e0 := by omega
    have e : (List.range e0.toNat)[i] = i := by simp
    rw [e, hs i hi' b]
    rw [loop_fold (step := inner i b) (List.range e1.toNat) (fun j c => (j, c)) (fun c => c) (fun c j => c ++ [g i j]) (fun j c => c.length ≤ b.length + j) rfl ?_ ?_ (by simp) (by omega)]
    · rw [foldl_snoc]
      refine ⟨rfl, ?_⟩
      simp only [List.length_append, List.length_map, hl1]
      omega
    · intro j hj c hc'
      have e : (List.range e1.toNat)[j] = j := by simp
      rw [e]
      refine ⟨hin i hi' b j c (by omega) ?_, by simp; omega⟩
      have : i * 512 ≤ 512 * 512 := Nat.mul_le_mul_right _ (by omega)
      omega
    · intro c _; rw [hc1]; exact hie i hi' b c
  · intro b _; rw [hc]; exact hse b
theorem er_ins : ∀ (n : Nat) (x : Int) (l : List Int), n ≤ l.length → er n (ins n x l) = l
  | 0, x, l, _ => rfl
  | n + 1, x, [], h => by simp at h
  | n + 1, x, a :: l, h => by simp only [ins, er]; rw [er_ins n x l (by simpa using h)]
theorem mem_ins : ∀ {n : Nat} {x e : Int} {l : List Int}, n ≤ l.length → e ∈ ins n x l → e = x ∨ e ∈ l := by
  intro n x e l h he
  rcases mem_er (n := n) he with q | q
  · rw [ins_nth n x l h] at q; exact .inl q
  · rw [er_ins n x l h] at q; exact .inr q
structure Sprd (es : List Int) (d : Nat) (m : Int) : Prop where
  sm : Small es
  l7 : es.length < 7
  d : d ≤ es.length
  m : 0 ≤ m ∧ m ≤ 512
section
variable {es : List Int} {d : Nat} {m : Int}
theorem Sprd.r (h : Sprd es d m) : ∀ e, e ∈ ins d m es → 0 ≤ e ∧ e ≤ 512 := by
  intro e he
  rcases mem_ins h.d he with rfl | q
  · exact h.m
  · exact h.sm.r e q
theorem Sprd.P (h : Sprd es d m) : P (ins d m es) = m * P es := by
  have := P_er d (ins d m es) (by rw [ins_len]; have := h.d; omega)
  rw [ins_nth d m es h.d, er_ins d m es h.d] at this
  exact this
theorem Sprd.digs (h : Sprd es d m) {k : Nat} (hk : (k : Int) < prodE (ins d m es)) (hp : prodE (ins d m es) ≤ 512) :
    (∀ e, e ∈ ins d m es → 1 ≤ e) ∧ inBase (ins d m es) (dig (ins d m es) k) ∧ (k : Int) < Go.Sh.P (ins d m es) ∧ inBase es (er d (dig (ins d m es) k)) ∧ H (ins d m es) (dig (ins d m es) k) = k := by
  obtain ⟨z1, z2, z3⟩ := prodE_small h.r
  obtain ⟨y1, y2⟩ := z3 (by omega)
  have hkP : (k : Int) < Go.Sh.P (ins d m es) := by omega
  obtain ⟨b1, b2⟩ := dig_ok y1 (by omega) hkP
  have hd : d < (ins d m es).length := by rw [ins_len]; have := h.d; omega
  obtain ⟨g1, g2, g3, g4⟩ := base_er hd b1
  rw [er_ins d m es h.d] at g1
  exact ⟨y1, b1, hkP, g1, b2⟩
end
theorem Reduced_dim {a : api_Array} (va : Valid a) {dim k : Int} {d : Nat} (hd : w (dim - 1) = d) (hdim : dim = d + 1) (ex : Exts (exs a.Bounds) d) (h2 : shapes_inside k 0 4 = true) (hp : prodE (er d (exs a.Bounds)) ≤ 512) :
    shapes_Reduced a dim k = some (redAll k (ofExt (er d (exs a.Bounds))) (linesL a d)) := by
  have hc := valid_chk va
  have ok := bErr_ok va.b
  have hl7 := ok.len
  have hel : a.Elements.length < 16777216 := by
    have := va.len
    have := ex.p
    omega
  have h7 := ex.len
  have exd := ex.d
  have erl := er_len d (exs a.Bounds) ex.d
  have hlx : (exs a.Bounds).length = a.Bounds.length := by simp [exs]
  have h1 : shapes_inside dim 0 (a.Bounds.length : Int) = true := by simp [shapes_inside]; omega
  unfold shapes_Reduced
  rw [arraysErr1 hel, brokenR]
  simp only [Option.bind_some, cmpOr2, hc, h1, h2, if_true, not_true, if_false]
  rw [if_neg (by omega), extents_eq' (by omega)]
  simp only [Option.bind_some]
  unfold slices_Clone_int
  rw [app_nil (by omega), hd]
  simp only [Option.bind_some]
  have del1 : del (exs a.Bounds) (d : Int) dim = some (er d (exs a.Bounds)) := by
    unfold del
    rw [if_pos (by omega), hdim]
    have : ((d : Int) + 1).toNat = d + 1 := by omega
    simp only [Int.toNat_natCast, this]
    rw [er_eq]
  rw [del1]
  simp only [Option.bind_some]
  rw [product_eq (by omega)]
  simp only [Option.bind_some]
  rw [if_neg (by omega), from_eq (by omega), lines_eq ex]
  simp only [Option.bind_some]
  rw [todo_eq va ex]
  simp only [Option.bind_some]
  obtain ⟨L1, L2⟩ := linesL_len ex
  rw [reduced_j h2 (by omega) (fun l hl => by have := L2 l hl; omega)]
theorem elAt_map {α : Type} {n : Nat} {f : Nat → Int} {o : Int} (h0 : 0 ≤ o) (h1 : o < (n : Int)) : elAt ((List.range n).map f) o = f o.toNat := by
  unfold elAt
  have : o.toNat < n := by omega
  simp [this]
section
variable {a : api_Array} {d : Nat}
theorem P_prodE {xs : List Int} (h : ∀ x, x ∈ xs → 0 ≤ x ∧ x ≤ 512) (hp : P xs ≤ 512) : prodE xs = P xs := by
  by_cases h0 : ∃ e, e ∈ xs ∧ e = 0
  · rw [P_zero h0]
    obtain ⟨e, he, e0⟩ := h0
    unfold prodE
    rw [if_pos]
    simp only [List.any_eq_true, beq_iff_eq]
    exact ⟨e, he, e0.symm⟩
  · have hpos : ∀ x, x ∈ xs → 1 ≤ x ∧ x ≤ 512 := by
      intro x hx
      have := h x hx
      rcases Int.lt_or_eq_of_le this.1 with q | q
      · omega
      · exact absurd ⟨x, hx, q.symm⟩ h0
    have c := capP_eq (xs := xs) (a := 1) hpos (by omega) (by omega)
    rw [Int.one_mul] at c
    unfold prodE
    rw [if_neg]
    · have : capP xs = min (P xs) 513 := c
      rw [this]; omega
    · simp only [List.any_eq_true, not_exists, not_and, beq_iff_eq]
      intro x hx q
      have := hpos x hx
      omega
end
end Go.Sh
namespace Go.Sh
open Go.Lx
set_option linter.unusedVariables false
set_option linter.unusedSimpArgs false
def iota1 (n : Nat) : List Int := (List.range n).map fun i : Nat => (i : Int) + 1
def iota0 (n : Nat) : List Int := (List.range n).map fun i : Nat => (i : Int)
theorem iota1_sorted (n : Nat) : (iota1 n).Pairwise (· ≤ ·) := by
  unfold iota1
  rw [List.pairwise_map]
  exact (List.pairwise_lt_range (n := n)).imp (by intro a b h; omega)
theorem iota1_nodup (n : Nat) : (iota1 n).Nodup := by
  unfold iota1 List.Nodup
  rw [List.pairwise_map]
  exact (List.pairwise_lt_range (n := n)).imp (by intro a b h; omega)
theorem iota0_nodup (n : Nat) : (iota0 n).Nodup := by
  unfold iota0 List.Nodup
  rw [List.pairwise_map]
  exact (List.pairwise_lt_range (n := n)).imp (by intro a b h; omega)
theorem perm_of_sub : ∀ {xs ys : List Int}, xs.Nodup → (∀ x, x ∈ xs → x ∈ ys) → ys.length ≤ xs.length → ys.Perm xs
  | [], ys, _, _, h => by
    have : ys = [] := List.eq_nil_of_length_eq_zero (by simpa using h)
    subst this
    exact .refl _
  | x :: xs, ys, hn, hs, hl => by
    rw [List.nodup_cons] at hn
    have hx := hs x (.head _)
    have p := List.perm_cons_erase hx
    refine p.trans (.cons x (perm_of_sub hn.2 (fun z hz => ?_) ?_))
    · have hne : z ≠ x := fun e => hn.1 (e ▸ hz)
      exact (List.mem_erase_of_ne hne).2 (hs z (.tail _ hz))
    · have := List.length_erase_of_mem hx
      simp at hl
      have := List.length_pos_of_mem hx
      omega
theorem isort_iota {l : List Int} : isort l = iota1 l.length ↔ ∀ i : Nat, i < l.length → (i : Int) + 1 ∈ l := by
  constructor
  · intro h i hi
    have := (isort_perm l).mem_iff (a := (i : Int) + 1)
    rw [h] at this
    exact this.1 (List.mem_map.2 ⟨i, List.mem_range.2 hi, rfl⟩)
  · intro h
    refine (isort_unique (List.Perm.symm ?_) (iota1_sorted _)).symm
    refine perm_of_sub (iota1_nodup _) (fun x hx => ?_) (by simp [iota1])
    obtain ⟨i, hi, rfl⟩ := List.mem_map.1 hx
    exact h i (List.mem_range.1 hi)
def isOrd (l : List Int) : Bool := (List.range l.length).all fun i => l.any fun x => x == (i : Int) + 1
theorem isOrd_iff {l : List Int} : isOrd l = true ↔ isort l = iota1 l.length := by
  rw [isort_iota]
  unfold isOrd
  rw [List.all_eq_true]
  constructor
  · intro h i hi
    have := h i (List.mem_range.2 hi)
    obtain ⟨x, hx, he⟩ := List.any_eq_true.1 this
    rw [← Lx.eq_of_beq he]
    exact hx
  · intro h i hi
    exact List.any_eq_true.2 ⟨_, h i (List.mem_range.1 hi), beq_self_eq_true _⟩
def ordF (i : Nat) (b : List Int) (t : Int × Int) : Sum Unit (List Int) := if t.1 = w ((i : Int) + 1) then .inr (b.set i (w (t.2 - 1))) else .inl ()
theorem scan_ordF : ∀ (T : List (Int × Int)) (i : Nat) (pre rest : List Int), pre.length = i → rest.length = T.length → i + T.length < 16777216 →
    scanE ordF i T (pre ++ rest) = if T.map (·.1) = (List.range T.length).map (fun j : Nat => ((i + j : Nat) : Int) + 1) then .inr (pre ++ T.map fun t => w (t.2 - 1)) else .inl ()
  | [], i, pre, rest, hp, hr, hb => by
    have : rest = [] := List.eq_nil_of_length_eq_zero (by simpa using hr)
    subst this
    simp [scanE]
  | t :: T, i, pre, [], hp, hr, hb => by simp at hr
  | t :: T, i, pre, r :: rest, hp, hr, hb => by
    simp only [List.length_cons] at hb
    have hw : w ((i : Int) + 1) = (i : Int) + 1 := w_id (by omega) (by omega)
    simp only [scanE, ordF, hw]
    have hmap : (List.range (t :: T).length).map (fun j : Nat => ((i + j : Nat) : Int) + 1) = ((i : Int) + 1) :: (List.range T.length).map (fun j : Nat => ((i + 1 + j : Nat) : Int) + 1) := by
      rw [List.length_cons, List.range_succ_eq_map, List.map_cons, List.map_map]
      congr 1
      apply List.map_congr_left
      intro j _
      simp only [Function.comp]
      omega
    rw [hmap]
    by_cases ht : t.1 = (i : Int) + 1
    · simp only [ht, if_true]
      have hset : (pre ++ r :: rest).set i (w (t.2 - 1)) = (pre ++ [w (t.2 - 1)]) ++ rest := by
        rw [List.set_append_right _ _ (by omega), hp, Nat.sub_self, List.set_cons_zero]; simp
      rw [hset, scan_ordF T (i + 1) (pre ++ [w (t.2 - 1)]) rest (by simp [hp]) (by simpa using hr) (by omega)]
      simp only [List.map_cons, ht, List.cons.injEq, true_and, List.append_assoc, List.cons_append, List.nil_append]
    · simp only [ht, if_false, List.map_cons, List.cons.injEq, false_and]
def ordR (l : List Int) (r : Nat) : List Int × Bool := if l.length = 0 then (iota0 r, true) else if l.length = r ∧ isOrd l = true then (l.map fun x => w (x - 1), true) else ([], false)
theorem sorted_small {l : List Int} (h : l.length ≤ 1000000) : slices_Sorted_int__slices_Values_int_c1 l = some (isort l) := by
  unfold slices_Sorted_int__slices_Values_int_c1 sortedO
  rw [if_pos h]
theorem isort_len (l : List Int) : (isort l).length = l.length := (isort_perm l).length_eq
theorem orderOf_eq {l : List Int} {r : Nat} (hl : l.length ≤ 1000000) (hr : r < 16777216) : shapes_orderOf l (r : Int) = some (ordR l r) := by
  unfold shapes_orderOf
  rw [range_loop (step := shapes_orderOf.s1 (r : Int)) (r : Int) (fun i => (i : Int)) (fun b => b) (by omega) (by omega) ?_ ?_]
  · simp only [Option.bind_some, Int.toNat_natCast]
    unfold ordR
    by_cases h0 : l.length = 0
    · simp only [h0, Int.ofNat_zero, if_true]; rfl
    · have h0' : ¬ (l.length : Int) = 0 := by omega
      simp only [h0, h0', if_false]
      rw [sorted_small hl]
      simp only [Option.bind_some]
      by_cases hlr : l.length = r
      · have hlr' : (l.length : Int) = (r : Int) := by omega
        simp only [hlr', not_true, if_false, hlr, true_and]
        have hz : ((isort l).zip l).length = l.length := by simp [isort_len]
        have hil := isort_len l
        change ((loopO (shapes_orderOf.s2 l (isort l)) (0, iota0 r)).bind _) = _
        rw [loop_scan (ρ := Unit) (step := shapes_orderOf.s2 l (isort l)) ((isort l).zip l) (fun i b => (i, b)) (fun _ => .inr (([] : List Int), false)) (fun b => .inl b) ordF (fun i b => b.length = l.length) (a := iota0 r) rfl ?_ ?_ (by simp [iota0, hlr]) (by omega)]
        · have := scan_ordF ((isort l).zip l) 0 [] (iota0 r) rfl (by rw [hz]; simp [iota0, hlr]) (by omega)
          rw [List.nil_append] at this
          rw [this, hz, List.map_fst_zip (by omega)]
          have hio : (List.range l.length).map (fun j : Nat => ((0 + j : Nat) : Int) + 1) = iota1 l.length := by unfold iota1; simp
          rw [hio]
          by_cases ho : isOrd l = true
          · have := isOrd_iff.1 ho
            simp only [this, if_true, ho, Option.bind_some, List.nil_append]
            have e2 : List.map (fun t : Int × Int => w (t.2 - 1)) ((isort l).zip l) = l.map fun x => w (x - 1) := by
              rw [show (fun t : Int × Int => w (t.2 - 1)) = (fun x => w (x - 1)) ∘ Prod.snd from rfl, ← List.map_map, List.map_snd_zip (by omega)]
            rw [this] at e2
            rw [e2]
          · have : ¬ isort l = iota1 l.length := fun h => ho (isOrd_iff.2 h)
            simp only [this, if_false, ho, Option.bind_some, Bool.false_eq_true]
        · intro i hi b hb
          rw [hz] at hi
          have hi2 : i < (isort l).length := by omega
          have hi3 : i < b.length := by omega
          constructor
          · simp only [shapes_orderOf.s2, lt_len hi2, if_true, at_lt hi2, Option.bind_some, ordF, List.getElem_zip]
            by_cases hx : (isort l)[i] = w ((i : Int) + 1)
            · simp only [hx, not_true, if_false, at_lt hi, at_lt hi3, Option.bind_some, if_true]
              rw [wn (by omega)]; rfl
            · simp only [hx, not_false_eq_true, if_true, if_false]
          · intro b' he
            unfold ordF at he
            split at he
            · cases he; simpa using hb
            · cases he
        · intro b _
          have : ((isort l).zip l).length = (isort l).length := by omega
          rw [this]
          simp only [shapes_orderOf.s2, not_lt_len, if_false]
      · have hlr' : ¬ (l.length : Int) = (r : Int) := by omega
        simp only [hlr', not_false_eq_true, if_true, hlr, false_and, if_false]
  · intro i hi b hb
    simp only [shapes_orderOf.s1, hi, if_true]
    rw [app_one (by omega), wn (by omega)]; rfl
  · intro b; simp only [shapes_orderOf.s1, Int.lt_irrefl, if_false]
end Go.Sh
namespace Go.Sh
open Go.Lx
set_option linter.unusedVariables false
set_option linter.unusedSimpArgs false
def scat : List Int → List Int → List Int → List Int
  | j :: o, d :: ds, acc => scat o ds (acc.set j.toNat d)
  | _, _, acc => acc
theorem scat_len : ∀ (o ds acc : List Int), (scat o ds acc).length = acc.length
  | [], ds, acc => by cases ds <;> rfl
  | j :: o, [], acc => rfl
  | j :: o, d :: ds, acc => by rw [scat, scat_len o ds, List.length_set]
theorem nth_set_ne {l : List Int} {n m : Nat} {v : Int} (h : n ≠ m) : nth (l.set n v) m = nth l m := by
  unfold nth
  rw [List.getElem?_set_ne h]
theorem nth_set_same {l : List Int} {n : Nat} {v : Int} (h : n < l.length) : nth (l.set n v) n = v := by
  unfold nth
  rw [List.getElem?_set_self h]
  rfl
theorem S_set : ∀ (ss ds : List Int) (n : Nat) (v : Int), n < ss.length → n < ds.length → S ss (ds.set n v) = S ss ds + nth ss n * (v - nth ds n)
  | [], ds, n, v, h, _ => by simp at h
  | s :: ss, [], n, v, _, h => by simp at h
  | s :: ss, d :: ds, 0, v, _, _ => by simp only [List.set_cons_zero, S, nth_zero]; rw [Int.mul_sub]; omega
  | s :: ss, d :: ds, n + 1, v, h1, h2 => by
    simp only [List.set_cons_succ, S, nth_succ]
    rw [S_set ss ds n v (by simpa using h1) (by simpa using h2)]
    omega
theorem S_scat {ss : List Int} : ∀ (o ds acc : List Int), o.length = ds.length → o.Nodup → (∀ j, j ∈ o → 0 ≤ j ∧ j.toNat < acc.length) → (∀ j, j ∈ o → nth acc j.toNat = 0) → acc.length = ss.length →
    S ss (scat o ds acc) = S ss acc + S (o.map fun j => nth ss j.toNat) ds
  | [], ds, acc, _, _, _, _, _ => by cases ds <;> simp [scat, S]
  | j :: o, [], acc, h, _, _, _, _ => by simp at h
  | j :: o, d :: ds, acc, h, hn, hr, hz, hl => by
    rw [List.nodup_cons] at hn
    have hj := hr j (.head _)
    rw [scat, S_scat o ds _ (by simpa using h) hn.2 (fun i hi => by rw [List.length_set]; exact hr i (.tail _ hi)) (fun i hi => ?_) (by rw [List.length_set]; exact hl)]
    · rw [S_set ss acc j.toNat d (by omega) hj.2, hz j (.head _)]
      simp only [List.map_cons, S]
      rw [Int.sub_zero]
      omega
    · have hne : j.toNat ≠ i.toNat := by
        intro e
        have hi' := hr i (.tail _ hi)
        have : j = i := by omega
        exact hn.1 (this ▸ hi)
      rw [nth_set_ne hne]
      exact hz i (.tail _ hi)
theorem nth_scat {Q : Nat → Int → Prop} : ∀ (o ds acc : List Int), (∀ j, j ∈ o → j.toNat < acc.length) → (∀ m, m < acc.length → Q m (nth acc m)) → (∀ t, t ∈ o.zip ds → Q t.1.toNat t.2) → ∀ m, m < acc.length → Q m (nth (scat o ds acc) m)
  | [], ds, acc, _, h, _ => by cases ds <;> exact h
  | j :: o, [], acc, _, h, _ => h
  | j :: o, d :: ds, acc, hr, h, hq => by
    intro m hm
    rw [scat]
    refine nth_scat o ds (acc.set j.toNat d) (fun i hi => by rw [List.length_set]; exact hr i (.tail _ hi)) (fun i hi => ?_) (fun t ht => hq t (by rw [List.zip_cons_cons]; exact .tail _ ht)) m (by rw [List.length_set]; exact hm)
    rw [List.length_set] at hi
    by_cases e : j.toNat = i
    · subst e
      rw [nth_set_same hi]
      exact hq (j, d) (by rw [List.zip_cons_cons]; exact .head _)
    · rw [nth_set_ne e]
      exact h i hi
theorem inBase_of : ∀ (es ds : List Int), es.length = ds.length → (∀ i, i < es.length → 0 ≤ nth ds i ∧ nth ds i < nth es i) → inBase es ds
  | [], [], _, _ => trivial
  | [], _ :: _, h, _ => by simp at h
  | _ :: _, [], h, _ => by simp at h
  | e :: es, d :: ds, h, hi => by
    have h0 := hi 0 (by simp)
    rw [nth_zero, nth_zero] at h0
    refine ⟨h0.1, h0.2, inBase_of es ds (by simpa using h) fun i hl => ?_⟩
    have := hi (i + 1) (by simpa using hl)
    rwa [nth_succ, nth_succ] at this
theorem inBase_nth {es ds : List Int} (h : inBase es ds) : es.length = ds.length ∧ ∀ i, i < es.length → 0 ≤ nth ds i ∧ nth ds i < nth es i := by
  obtain ⟨h1, h2⟩ := inBase_get h
  refine ⟨h1, fun i hi => ?_⟩
  have := h2 i hi (by omega)
  simpa [nth, hi, show i < ds.length by omega] using this
theorem P_perm {xs ys : List Int} (h : xs.Perm ys) : P xs = P ys := by
  induction h with
  | nil => rfl
  | cons x _ ih => simp only [P, ih]
  | swap x y l => simp only [P]; rw [← Int.mul_assoc, ← Int.mul_assoc, Int.mul_comm y x]
  | trans _ _ h1 h2 => exact h1.trans h2
theorem map_iota0 (sh : List Int) : (iota0 sh.length).map (fun j => nth sh j.toNat) = sh := by
  apply List.ext_getElem
  · simp [iota0]
  · intro i h1 h2
    simp [iota0, nth, h2]
theorem range_fold {β τ : Type} {step : Int × β → Option (Sum (Int × β) τ)} (n : Int) (f : β → Nat → β) (fin : β → τ) (Inv : β → Prop) {a : β} (h0 : 0 ≤ n) (hn : n < 16777216)
    (h : ∀ i : Nat, (i : Int) < n → ∀ b : β, Inv b → step (i, b) = some (.inl (((i + 1 : Nat) : Int), f b i)) ∧ Inv (f b i)) (hend : ∀ b, step (n, b) = some (.inr (fin b))) (hI : Inv a) :
    loopO step (0, a) = some (fin ((List.range n.toNat).foldl f a)) := by
  have hl : (List.range n.toNat).length = n.toNat := by simp
  have hc : ((List.range n.toNat).length : Int) = n := by rw [hl]; omega
  refine loop_fold (step := step) (List.range n.toNat) (fun i b => (i, b)) fin f (fun _ b => Inv b) rfl ?_ ?_ hI (by omega)
  · intro i hi b hb
    have : (List.range n.toNat)[i] = i := by simp
    rw [this]
    exact h i (by omega) b hb
  · intro b _; rw [hc]; exact hend b
structure Rsh (sh o : List Int) : Prop where
  len : sh.length ≤ 7
  r : ∀ e, e ∈ sh → 0 ≤ e ∧ e ≤ 512
  p : prodE sh ≤ 512
  perm : o.Perm (iota0 sh.length)
def turn (sh o : List Int) : List Int := o.map fun j => nth sh j.toNat
def rpos (sh o : List Int) (k : Nat) : Int := H sh (scat o (dig (turn sh o) k) (List.replicate sh.length 0))
section
variable {sh o : List Int}
theorem Rsh.olen (h : Rsh sh o) : o.length = sh.length := by rw [h.perm.length_eq]; simp [iota0]
theorem Rsh.mem (h : Rsh sh o) {j : Int} (hj : j ∈ o) : 0 ≤ j ∧ j.toNat < sh.length := by
  obtain ⟨i, hi, rfl⟩ := List.mem_map.1 ((h.perm.mem_iff).1 hj)
  have := List.mem_range.1 hi
  omega
theorem Rsh.nodup (h : Rsh sh o) : o.Nodup := (h.perm.nodup_iff).2 (iota0_nodup _)
theorem Rsh.turn_perm (h : Rsh sh o) : (turn sh o).Perm sh := by
  have := h.perm.map (fun j => nth sh j.toNat)
  rw [map_iota0] at this
  exact this
theorem Rsh.digs (h : Rsh sh o) {k : Nat} (hk : (k : Int) < prodE sh) : (∀ e, e ∈ turn sh o → 1 ≤ e) ∧ inBase (turn sh o) (dig (turn sh o) k) ∧ P sh = prodE sh ∧ (∀ e, e ∈ sh → 1 ≤ e) := by
  obtain ⟨z1, z2, z3⟩ := prodE_small h.r
  obtain ⟨y1, y2⟩ := z3 (by omega)
  have hp := h.p
  have hP : P sh = prodE sh := by omega
  have t1 : ∀ e, e ∈ turn sh o → 1 ≤ e := fun e he => y1 e (h.turn_perm.mem_iff.1 he)
  have hT : P (turn sh o) = P sh := P_perm h.turn_perm
  exact ⟨t1, (dig_ok t1 (by omega) (by omega)).1, hP, y1⟩
theorem Rsh.pos (h : Rsh sh o) {k : Nat} (hk : (k : Int) < prodE sh) :
    inBase sh (scat o (dig (turn sh o) k) (List.replicate sh.length 0)) ∧ S (o.map fun j => nth (str 1 sh) j.toNat) (dig (turn sh o) k) = rpos sh o k ∧ 0 ≤ rpos sh o k ∧ rpos sh o k < prodE sh := by
  obtain ⟨t1, tb, hP, y1⟩ := h.digs hk
  have hol := h.olen
  have dl : (dig (turn sh o) k).length = o.length := by rw [dig_len]; simp [turn]
  have ib : inBase sh (scat o (dig (turn sh o) k) (List.replicate sh.length 0)) := by
    refine inBase_of _ _ (by rw [scat_len]; simp) fun i hi => ?_
    refine nth_scat (Q := fun m v => 0 ≤ v ∧ v < nth sh m) o _ _ (fun j hj => by simpa using (h.mem hj).2) (fun m hm => ?_) (fun t ht => ?_) i (by simpa using hi)
    · have hm' : m < sh.length := by simpa using hm
      have : nth (List.replicate sh.length (0 : Int)) m = 0 := by simp [nth, hm']
      rw [this]
      have := y1 (nth sh m) (by simp [nth, hm'])
      omega
    · obtain ⟨i, hi, rfl⟩ := List.getElem_of_mem ht
      simp only [List.length_zip] at hi
      have hi1 : i < o.length := by omega
      have hi2 : i < (dig (turn sh o) k).length := by omega
      rw [List.getElem_zip]
      have := (inBase_nth tb).2 i (by simpa [turn] using hi1)
      have e4 : nth (dig (turn sh o) k) i = (dig (turn sh o) k)[i] := by unfold nth; rw [List.getElem?_eq_getElem hi2]; rfl
      have e5 : nth (turn sh o) i = nth sh o[i].toNat := by simp [nth, turn, hi1]
      rw [e4, e5] at this
      exact this
  have hp := h.p
  obtain ⟨s1, s2⟩ := S_str _ _ 1 ib (by omega) (by omega)
  have hz : S (str 1 sh) (List.replicate sh.length 0) = 0 := by
    have : ∀ (ss : List Int) (n : Nat), S ss (List.replicate n 0) = 0 := by
      intro ss
      induction ss with
      | nil => intro n; cases n <;> simp [S]
      | cons s ss ih => intro n; cases n with | zero => simp [S] | succ n => simp [List.replicate_succ, S, ih]
    exact this _ _
  have hs := S_scat (ss := str 1 sh) o (dig (turn sh o) k) (List.replicate sh.length 0) dl.symm h.nodup (fun j hj => by simpa using h.mem hj) (fun j hj => by have := (h.mem hj).2; simp [nth, this]) (by simp [str_len])
  have r := H_range ib
  refine ⟨ib, ?_, r.1, by have := r.2; unfold rpos; omega⟩
  unfold rpos
  omega
end
def rsrc (els pad : List Int) (k : Nat) : Int := if (k : Int) < (els.length : Int) then elAt els k else elAt pad (((k : Int) - els.length) % pad.length)
def rout (els pad sh o : List Int) : List Int := (List.range (prodE sh).toNat).foldl (fun b k => b.set (rpos sh o k).toNat (rsrc els pad k)) (List.replicate (prodE sh).toNat 0)
theorem pad_at {els pad : List Int} {k : Nat} {n : Int} (hk : (k : Int) < n) (hn : n ≤ 512) (hp : pad.length < 16777216) (he : els.length < 16777216) (hne : ¬ (n > (els.length : Int) ∧ pad.length = 0)) (h : ¬ (k : Int) < (els.length : Int)) :
    (rem (w ((k : Int) - (els.length : Int))) (pad.length : Int)).bind (fun x => at_ pad x) = some (rsrc els pad k) := by
  have h0 : pad.length ≠ 0 := fun e => hne ⟨by omega, e⟩
  rw [w_id (by omega) (by omega)]
  unfold rem
  rw [if_neg (by omega)]
  simp only [Option.bind_some]
  rw [Int.tmod_eq_emod_of_nonneg (by omega)]
  have m1 := Int.emod_nonneg ((k : Int) - (els.length : Int)) (show (pad.length : Int) ≠ 0 by omega)
  have m2 := Int.emod_lt_of_pos ((k : Int) - (els.length : Int)) (show (0 : Int) < (pad.length : Int) by omega)
  rw [at_el m1 m2]
  unfold rsrc
  rw [if_neg h]
theorem mk_zero {n : Int} (h0 : 0 ≤ n) (h1 : n ≤ 16777216) : mkSl n (0 : Int) = some (List.replicate n.toNat 0) := by unfold mkSl; rw [if_pos ⟨h0, h1⟩]
section
variable {a : api_Array} {x : api_Reshape} {o : List Int}
theorem prog_loop (h : Rsh x.Shape o) {bo : Bool} (he : a.Elements.length < 16777216) (hpd : x.Pad.length < 16777216) (hne : ¬ (prodE x.Shape > (a.Elements.length : Int) ∧ x.Pad.length = 0)) :
    loopO (shapes_Reshape.s2 a x (prodE x.Shape) (o, bo) (str 1 x.Shape) (turn x.Shape o)) (0, List.replicate (prodE x.Shape).toNat 0) = some (rout a.Elements x.Pad x.Shape o) := by
  obtain ⟨z1, z2, z3⟩ := prodE_small h.r
  have hp := h.p
  have hol := h.olen
  have hl7 := h.len
  refine range_fold (step := shapes_Reshape.s2 a x (prodE x.Shape) (o, bo) (str 1 x.Shape) (turn x.Shape o)) (prodE x.Shape) (fun b k => b.set (rpos x.Shape o k).toNat (rsrc a.Elements x.Pad k)) (fun b => b) (fun b => b.length = (prodE x.Shape).toNat) z1 (by omega) ?_ ?_ (by simp)
  · intro k hk b hb
    refine ⟨?_, by simpa using hb⟩
    obtain ⟨t1, tb, hP, y1⟩ := h.digs hk
    obtain ⟨ib, e1, p0, p1⟩ := h.pos hk
    simp only [shapes_Reshape.s2, hk, if_true]
    have tl : (turn x.Shape o).length = o.length := by simp [turn]
    rw [digits_eq t1 (by omega) (by omega) (by omega)]
    simp only [Option.bind_some]
    have dl : (dig (turn x.Shape o) k).length = o.length := by rw [dig_len, tl]
    have sl := str_len x.Shape 1
    generalize hds : dig (turn x.Shape o) k = ds at *
    have hz : (ds.zip (o.map fun j => nth (str 1 x.Shape) j.toNat)).length = ds.length := by simp; omega
    rw [loop_fold (step := shapes_Reshape.s3 (o, bo) (str 1 x.Shape) ds) (ds.zip (o.map fun j => nth (str 1 x.Shape) j.toNat)) (fun i (b : Int) => (b, i)) (fun b => b) sumF (fun _ _ => True) (a := 0) rfl ?_ ?_ trivial (by omega)]
    · simp only [Option.bind_some]
      obtain ⟨s1, s2⟩ := S_str _ _ 1 ib (by omega) (by omega)
      have nn : ∀ z, z ∈ o.map (fun j => nth (str 1 x.Shape) j.toNat) → 0 ≤ z := by
        intro z hz
        obtain ⟨j, hj, rfl⟩ := List.mem_map.1 hz
        have := (h.mem hj).2
        exact s2 _ (by simp [nth, sl, this])
      rw [fold_S _ _ 0 nn (inBase_nonneg tb) (by omega) (by omega)]
      have e2 : 0 + S (o.map fun j => nth (str 1 x.Shape) j.toNat) ds = rpos x.Shape o k := by omega
      rw [e2]
      have hat : ∃ v, at_ b (rpos x.Shape o k) = some v := ⟨elAt b (rpos x.Shape o k), at_el p0 (by omega)⟩
      obtain ⟨v, hv⟩ := hat
      by_cases hke : (k : Int) < (a.Elements.length : Int)
      · simp only [hke, if_true]
        rw [at_el (by omega) hke]
        simp only [Option.bind_some, hv]
        rw [wn (by omega)]
        unfold rsrc
        rw [if_pos hke]
      · simp only [hke, if_false]
        have := pad_at hk hp hpd he hne hke
        obtain ⟨q, hq1, hq2⟩ := Option.bind_eq_some_iff.1 this
        rw [hq1]
        simp only [Option.bind_some, hq2, hv]
        rw [wn (by omega)]
    · intro i hi b _
      refine ⟨?_, trivial⟩
      rw [hz] at hi
      have h2 : i < o.length := by omega
      have hm := h.mem (List.getElem_mem h2)
      have h3 : o[i].toNat < (str 1 x.Shape).length := by omega
      have e3 : at_ (str 1 x.Shape) o[i] = some (nth (str 1 x.Shape) o[i].toNat) := by
        have := nth_lt h3
        rwa [Int.toNat_of_nonneg hm.1] at this
      simp only [shapes_Reshape.s3, lt_len hi, if_true, at_lt hi, at_lt h2, Option.bind_some, e3, List.getElem_zip, List.getElem_map, sumF]
      rw [wn (by omega)]
    · intro b _; rw [hz]; simp only [shapes_Reshape.s3, not_lt_len, if_false]
  · intro b; simp only [shapes_Reshape.s2, Int.lt_irrefl, if_false]
end
end Go.Sh
namespace Go.Sh
open Go.Lx
set_option linter.unusedVariables false
set_option linter.unusedSimpArgs false
def oddS (sh : List Int) : Bool := sh.any fun x => !shapes_inside x 0 512
def badP (pad : List Int) : Bool := pad.any fun x => !shapes_isInteger x
theorem odd_eq {p : List Int} (h : p.length < 16777216) : slices_ContainsFunc_int__shapes_reshapeErr_c1 p = some (oddS p) := by
  unfold slices_ContainsFunc_int__shapes_reshapeErr_c1 slices_IndexFunc_int__shapes_reshapeErr_c1
  have key := loop_scan (ρ := Nat) (β := Unit) (τ := Sum Unit Int) (step := slices_IndexFunc_int__shapes_reshapeErr_c1.s1 p) p (fun i (_ : Unit) => i) (fun k => .inr (k : Int)) (fun _ => .inl ())
    (fun i b x => if (!shapes_inside x 0 512) = true then .inl i else .inr b) (fun _ _ => True) (a := ()) (s := 0) rfl ?_ ?_ trivial (by omega)
  · obtain ⟨k, _, hk⟩ := scanE_any (p := fun x => !shapes_inside x 0 512) p 0
    rw [key, hk]
    unfold oddS
    by_cases hq : (p.any fun x => !shapes_inside x 0 512) = true
    · simp only [hq, if_true, Option.bind_some]
      have : (k : Int) ≥ 0 := by omega
      simp [this]
    · simp only [hq, if_false, Option.bind_some, Bool.false_eq_true]
      simp at hq ⊢
  · intro i hi b _
    refine ⟨?_, fun _ _ => trivial⟩
    simp only [slices_IndexFunc_int__shapes_reshapeErr_c1.s1, lt_len hi, if_true, at_lt hi, Option.bind_some, shapes_reshapeErr_c1]
    by_cases hx : (!shapes_inside p[i] 0 512) = true
    · simp only [hx, if_true]
    · simp only [hx, if_false, Bool.false_eq_true]; rw [wn (by omega)]
  · intro b _; simp only [slices_IndexFunc_int__shapes_reshapeErr_c1.s1, not_lt_len, if_false]
theorem bad_eq {p : List Int} (h : p.length < 16777216) : slices_ContainsFunc_int__shapes_reshapeErr_c2 p = some (badP p) := by
  unfold slices_ContainsFunc_int__shapes_reshapeErr_c2 slices_IndexFunc_int__shapes_reshapeErr_c2
  have key := loop_scan (ρ := Nat) (β := Unit) (τ := Sum Unit Int) (step := slices_IndexFunc_int__shapes_reshapeErr_c2.s1 p) p (fun i (_ : Unit) => i) (fun k => .inr (k : Int)) (fun _ => .inl ())
    (fun i b x => if (!shapes_isInteger x) = true then .inl i else .inr b) (fun _ _ => True) (a := ()) (s := 0) rfl ?_ ?_ trivial (by omega)
  · obtain ⟨k, _, hk⟩ := scanE_any (p := fun x => !shapes_isInteger x) p 0
    rw [key, hk]
    unfold badP
    by_cases hq : (p.any fun x => !shapes_isInteger x) = true
    · simp only [hq, if_true, Option.bind_some]
      have : (k : Int) ≥ 0 := by omega
      simp [this]
    · simp only [hq, if_false, Option.bind_some, Bool.false_eq_true]
      simp at hq ⊢
  · intro i hi b _
    refine ⟨?_, fun _ _ => trivial⟩
    simp only [slices_IndexFunc_int__shapes_reshapeErr_c2.s1, lt_len hi, if_true, at_lt hi, Option.bind_some, shapes_reshapeErr_c2]
    by_cases hx : (!shapes_isInteger p[i]) = true
    · simp only [hx, if_true]
    · simp only [hx, if_false, Bool.false_eq_true]; rw [wn (by omega)]
  · intro b _; simp only [slices_IndexFunc_int__shapes_reshapeErr_c2.s1, not_lt_len, if_false]
theorem broken5 (a b c d e : Bool) : shapes_broken [shapes_rule.mk a 2, shapes_rule.mk b 8, shapes_rule.mk c 3, shapes_rule.mk d 8, shapes_rule.mk e 2] = some (if a = true then (if b = true then (if c = true then (if d = true then (if e = true then 0 else 2) else 8) else 3) else 8) else 2) := by
  cases a <;> cases b <;> cases c <;> cases d <;> cases e <;> decide +kernel
theorem reshapeErr_eq {x : api_Reshape} (h1 : x.Shape.length < 16777216) (h2 : x.Order.length ≤ 1000000) (h3 : x.Pad.length < 16777216) :
    shapes_reshapeErr x = some (if (x.Shape.length : Int) > 7 then 32 else if oddS x.Shape = true then 2 else if prodE x.Shape > 512 then 8 else if (ordR x.Order x.Shape.length).2 = true then (if (x.Pad.length : Int) > 512 then 8 else if badP x.Pad = true then 2 else 0) else 3) := by
  unfold shapes_reshapeErr
  rw [odd_eq h1, orderOf_eq h2 h1, product_eq h1, bad_eq h3]
  simp only [Option.bind_some]
  by_cases c1 : (x.Shape.length : Int) > 7
  · simp only [c1, if_true]
  simp only [c1, if_false]
  by_cases c2 : oddS x.Shape = true
  · simp only [c2, if_true]
    rw [broken5]
    simp
  · simp only [c2, if_false, Bool.false_eq_true]
    have c2' : oddS x.Shape = false := by simpa using c2
    rw [broken5]
    simp only [Option.bind_some]
    by_cases c3 : prodE x.Shape > 512
    · have c3' : ¬ prodE x.Shape ≤ 512 := by omega
      simp [c3, c3']
    have c3' : prodE x.Shape ≤ 512 := by omega
    by_cases c4 : (ordR x.Order x.Shape.length).2 = true
    · by_cases c5 : (x.Pad.length : Int) > 512
      · have c5' : ¬ (x.Pad.length : Int) ≤ 512 := by omega
        simp [c3, c3', c4, c5, c5']
      · have c5' : (x.Pad.length : Int) ≤ 512 := by omega
        simp only [Bool.not_false, if_true, decide_eq_true c3', c3, if_false, c4, decide_eq_true c5', c5]
        cases badP x.Pad <;> rfl
    · simp [c3, c3', c4]
def ordL (x : api_Reshape) : List Int := if x.Order.length = 0 then iota1 x.Shape.length else x.Order
theorem w_iota1 {n : Nat} (h : n < 16777216) : (iota1 n).map (fun z => w (z - 1)) = iota0 n := by
  unfold iota1 iota0
  rw [List.map_map]
  apply List.map_congr_left
  intro i hi
  have := List.mem_range.1 hi
  simp only [Function.comp]
  rw [w_id (by omega) (by omega)]
  omega
theorem ordR_L {x : api_Reshape} (h1 : x.Shape.length < 16777216) (h : (ordR x.Order x.Shape.length).2 = true) : (ordR x.Order x.Shape.length).1 = (ordL x).map (fun z => w (z - 1)) ∧ ((ordL x).map fun z => w (z - 1)).Perm (iota0 x.Shape.length) ∧ (ordL x).length = x.Shape.length := by
  unfold ordR at h ⊢
  unfold ordL
  by_cases h0 : x.Order.length = 0
  · simp only [h0, if_true]
    rw [w_iota1 h1]
    exact ⟨rfl, .refl _, by simp [iota1]⟩
  · simp only [h0, if_false] at h ⊢
    by_cases hc : x.Order.length = x.Shape.length ∧ isOrd x.Order = true
    · rw [if_pos hc]
      refine ⟨rfl, ?_, hc.1⟩
      have hs := isOrd_iff.1 hc.2
      have p := isort_perm x.Order
      rw [hs, hc.1] at p
      have := (p.map fun z => w (z - 1)).symm
      rwa [w_iota1 h1] at this
    · rw [if_neg hc] at h
      cases h
section
variable {a : api_Array} {x : api_Reshape}
theorem prog_turn {o : List Int} {bo : Bool} (h : Rsh x.Shape o) : loopO (shapes_Reshape.s1 x (o, bo)) (0, []) = some (turn x.Shape o) := by
  have hol := h.olen
  have hl7 := h.len
  rw [loop_map (step := shapes_Reshape.s1 x (o, bo)) o (fun j => nth x.Shape j.toNat) (fun i b => (i, b)) (fun b => b) rfl ?_ ?_ (by omega)]
  · rfl
  · intro i hi b hb
    have hm := h.mem (List.getElem_mem hi)
    have e3 : at_ x.Shape o[i] = some (nth x.Shape o[i].toNat) := by
      have := nth_lt hm.2
      rwa [Int.toNat_of_nonneg hm.1] at this
    simp only [shapes_Reshape.s1, lt_len hi, if_true, at_lt hi, Option.bind_some, e3]
    rw [app_one (by omega), wn (by omega)]; rfl
  · intro b; simp only [shapes_Reshape.s1, not_lt_len, if_false]
theorem odd_range {sh : List Int} (h : ¬ oddS sh = true) : ∀ e, e ∈ sh → 0 ≤ e ∧ e ≤ 512 := by
  intro e he
  have : oddS sh = false := by simpa using h
  unfold oddS at this
  have := List.any_eq_false.1 this e he
  simp only [Bool.not_eq_true', Bool.not_eq_false] at this
  simpa [shapes_inside] using this
def rshR (a : api_Array) (x : api_Reshape) : api_Array × Int :=
  if (chk a).2 ≠ 0 then (⟨[], []⟩, (chk a).2) else if (x.Shape.length : Int) > 7 then (⟨[], []⟩, 32) else if oddS x.Shape = true then (⟨[], []⟩, 2) else if prodE x.Shape > 512 then (⟨[], []⟩, 8) else if ¬ (ordR x.Order x.Shape.length).2 = true then (⟨[], []⟩, 3) else if (x.Pad.length : Int) > 512 then (⟨[], []⟩, 8)
  else if badP x.Pad = true then (⟨[], []⟩, 2) else if prodE x.Shape > (a.Elements.length : Int) ∧ x.Pad.length = 0 then (⟨[], []⟩, 17) else (⟨ofExt x.Shape, rout a.Elements x.Pad x.Shape ((ordL x).map fun z => w (z - 1))⟩, 0)
theorem reshape_eq (ha : a.Elements.length < 16777216) (h1 : x.Shape.length < 100) (h2 : x.Order.length ≤ 1000000) (h3 : x.Pad.length < 16777216) : shapes_Reshape a x = some (rshR a x) := by
  unfold shapes_Reshape rshR
  rw [arraysErr1 ha, reshapeErr_eq (by omega) h2 h3, product_eq (by omega), orderOf_eq h2 (by omega)]
  simp only [Option.bind_some, cmpOr2]
  by_cases c0 : (chk a).2 = 0
  case neg => simp only [c0, if_false, not_false_eq_true, if_true, ne_eq]
  simp only [c0, if_true, ne_eq, not_true, if_false]
  by_cases c1 : (x.Shape.length : Int) > 7
  · simp only [c1, if_true]; rfl
  simp only [c1, if_false]
  by_cases c2 : oddS x.Shape = true
  · simp only [c2, if_true]; rfl
  simp only [c2, if_false, Bool.false_eq_true]
  by_cases c3 : prodE x.Shape > 512
  · simp only [c3, if_true]; rfl
  simp only [c3, if_false]
  by_cases c4 : (ordR x.Order x.Shape.length).2 = true
  case neg => simp only [c4, if_false, not_false_eq_true, if_true, Bool.false_eq_true]; rfl
  simp only [c4, if_true, not_true, if_false]
  by_cases c5 : (x.Pad.length : Int) > 512
  · simp only [c5, if_true]; rfl
  simp only [c5, if_false]
  by_cases c6 : badP x.Pad = true
  · simp only [c6, if_true]; rfl
  simp only [c6, if_false, Bool.false_eq_true, not_true]
  by_cases c7 : prodE x.Shape > (a.Elements.length : Int) ∧ x.Pad.length = 0
  · have : ((decide (prodE x.Shape > (a.Elements.length : Int))) && ((x.Pad.length : Int) == 0)) = true := by simp [c7.1, c7.2]
    rw [if_pos this, if_pos c7]
  have c7' : ((decide (prodE x.Shape > (a.Elements.length : Int))) && ((x.Pad.length : Int) == 0)) = false := by
    rw [Bool.eq_false_iff]
    intro hq
    simp only [Bool.and_eq_true, decide_eq_true_eq, beq_iff_eq] at hq
    exact c7 ⟨hq.1, by omega⟩
  simp only [c7', c7, if_false, Bool.false_eq_true]
  obtain ⟨r1, r2, r3⟩ := ordR_L (x := x) (by omega) c4
  have R : Rsh x.Shape ((ordL x).map fun z => w (z - 1)) := ⟨by omega, odd_range c2, by omega, r2⟩
  obtain ⟨z1, z2, z3⟩ := prodE_small R.r
  have e9 : ordR x.Order x.Shape.length = ((ordL x).map fun z => w (z - 1), (ordR x.Order x.Shape.length).2) := by rw [← r1]
  rw [e9, strides_eq (by omega)]
  simp only [Option.bind_some]
  rw [prog_turn R, from_eq (by omega), mk_zero z1 (by omega)]
  simp only [Option.bind_some]
  rw [prog_loop R ha h3 c7]
  rfl
end
end Go.Sh
namespace Go.Sh
open Go.Lx
set_option linter.unusedVariables false
set_option linter.unusedSimpArgs false
theorem shifted_ok {a : api_Array} (ha : a.Bounds.length ≤ 9 ∧ a.Elements.length ≤ 80) {dim : Int} {d : Nat} (va : Valid a) (hd : w (dim - 1) = d) (h : dErr a dim = 0) (ex : Exts (exs a.Bounds) d) (by_ : Int) :
    shapes_Shifted a dim by_ = some (⟨a.Bounds, (List.range a.Elements.length).map fun k : Nat => shG a.Elements (exs a.Bounds) d by_ k⟩, 0) := by
  unfold shapes_Shifted
  rw [dimErr_eq (by omega)]
  simp only [Option.bind_some, h, not_true, if_false]
  rw [copied_eq (by omega) (by omega), extents_eq' (by omega)]
  simp only [Option.bind_some]
  rw [hd, lines_eq ex]
  simp only [Option.bind_some]
  rw [shifted_eq va ex (by omega)]
  rfl
theorem back_mod {m b n : Int} (h0 : 0 ≤ m) (h1 : m < n) : ((m + (-b) % n) % n + b % n) % n = m := by
  rw [Int.emod_add_emod]
  have e1 := Int.emod_def b n
  have e2 := Int.emod_def (-b) n
  rw [e1, e2]
  have e3 : m + (-b - n * (-b / n)) + (b - n * (b / n)) = m + n * (-(-b / n) - b / n) := by
    rw [Int.mul_sub, Int.mul_neg]
    omega
  rw [e3, Int.add_mul_emod_self_left, Int.emod_eq_of_lt h0 h1]
theorem set_nthS {X : List Int} {d : Nat} : X.set d (nth X d) = X := by
  apply List.ext_getElem?
  intro i
  by_cases e : d = i
  · subst e
    by_cases hl : d < X.length
    · rw [List.getElem?_set_self hl]; simp [nth, hl]
    · rw [List.getElem?_eq_none (by simp; omega), List.getElem?_eq_none (by omega)]
  · rw [List.getElem?_set_ne e]
theorem inBase_set {es X : List Int} {d : Nat} {v : Int} (h : inBase es X) (h0 : 0 ≤ v) (h1 : v < nth es d) : inBase es (X.set d v) := by
  obtain ⟨hl, hi⟩ := inBase_nth h
  refine inBase_of _ _ (by simpa using hl) fun i hii => ?_
  by_cases e : d = i
  · subst e
    rw [nth_set_same (by omega)]
    exact ⟨h0, h1⟩
  · rw [nth_set_ne e]
    exact hi i hii
theorem shG_pos {es : List Int} {d : Nat} (ex : Exts es d) {k : Nat} (hk : (k : Int) < P es) (by_ : Int) :
    inBase es ((dig es k).set d ((nth (dig es k) d + by_ % nth es d) % nth es d)) ∧ inBase es (dig es k) ∧ H es (dig es k) = k ∧ 1 ≤ nth es d := by
  have pos : ∀ e, e ∈ es → 1 ≤ e := by
    intro e he
    have := ex.r e he
    rcases Int.lt_or_le 0 e with q | q
    · omega
    · have := P_zero (es := es) ⟨e, he, by omega⟩; omega
  obtain ⟨b1, b2⟩ := dig_ok pos (n := k) (by omega) hk
  have hn : 1 ≤ nth es d := by
    have := ex.d
    exact pos _ (by simp [nth, this])
  exact ⟨inBase_set b1 (Int.emod_nonneg _ (by omega)) (Int.emod_lt_of_pos _ (by omega)), b1, b2, hn⟩
theorem shift_back {es els : List Int} {d : Nat} (ex : Exts es d) (hl : (els.length : Int) = P es) (by_ : Int) :
    ((List.range els.length).map fun k : Nat => shG ((List.range els.length).map fun k : Nat => shG els es d by_ k) es d (-by_) k) = els := by
  apply List.ext_getElem
  · simp
  · intro k h1 h2
    simp only [List.getElem_map, List.getElem_range]
    have hk : (k : Int) < P es := by omega
    obtain ⟨b1, b2, b3, hn⟩ := shG_pos ex hk (-by_)
    have r := H_range b1
    have bx := (inBase_nth b2).2 d ex.d
    have dl : d < (dig es k).length := by rw [dig_len]; exact ex.d
    unfold shG
    rw [elAt_map (α := Int) (f := fun j => elAt els (H es ((dig es ↑j).set d ((nth (dig es ↑j) d + by_ % nth es d) % nth es d)))) r.1 (by omega)]
    have hq : ∀ z : Int, 0 ≤ z → ((z.toNat : Nat) : Int) = z := fun z hz => by omega
    rw [hq _ r.1, dig_H b1, nth_set_same dl, List.set_set, back_mod bx.1 bx.2, set_nthS, b3]
    simp [elAt, h2]
theorem shifted_valid {a : api_Array} {d : Nat} (va : Valid a) (ex : Exts (exs a.Bounds) d) (by_ : Int) : Valid ⟨a.Bounds, (List.range a.Elements.length).map fun k : Nat => shG a.Elements (exs a.Bounds) d by_ k⟩ := by
  refine ⟨va.b, by simpa using va.len, ?_⟩
  intro x hx
  obtain ⟨k, hk, rfl⟩ := List.mem_map.1 hx
  have hk := List.mem_range.1 hk
  have hl := va.len
  obtain ⟨b1, _, _, _⟩ := shG_pos ex (k := k) (by omega) by_
  have r := H_range b1
  exact va.int _ (elAt_mem r.1 (by omega))
theorem flat_len {α : Type} (g : Nat → Nat → α) (m : Nat) : ∀ n : Nat, ((List.range n).flatMap fun i => (List.range m).map (g i)).length = n * m
  | 0 => by simp
  | n + 1 => by
    rw [List.range_succ, List.flatMap_append, List.length_append, flat_len g m n, Nat.succ_mul]
    simp
theorem flat_get {α : Type} (g : Nat → Nat → α) (m : Nat) : ∀ (n i j : Nat), i < n → j < m → ((List.range n).flatMap fun i => (List.range m).map (g i))[i * m + j]? = some (g i j)
  | 0, i, j, h, _ => by omega
  | n + 1, i, j, hi, hj => by
    rw [List.range_succ, List.flatMap_append]
    have hl := flat_len g m n
    by_cases e : i < n
    · have : i * m + j < n * m := by
        have := Nat.mul_le_mul_right m (show i + 1 ≤ n by omega)
        rw [Nat.succ_mul] at this
        omega
      rw [List.getElem?_append_left (by omega)]
      exact flat_get g m n i j e hj
    · have : i = n := by omega
      subst this
      rw [List.getElem?_append_right (by omega), hl]
      simp [hj]
theorem transpose_ok {a : api_Array} (va : Valid a) (hb : a.Bounds.length = 2) {e0 e1 : Int} (hex : exs a.Bounds = [e0, e1]) : shapes_Transpose a = some (⟨ofExt [e1, e0], (tpos e0 e1).map (elAt a.Elements)⟩, 0) := by
  have sm := valid_small va
  have hc := valid_chk va
  have he : a.Elements.length < 16777216 := by
    have := va.len
    have := sm.p
    omega
  unfold shapes_Transpose
  rw [arraysErr1 he, broken1]
  simp only [Option.bind_some, cmpOr2, hc, if_true, not_true, if_false]
  have h2' : ((a.Bounds.length : Int) == 2) = true := by simp [hb]
  simp only [h2', if_true, not_true, if_false]
  rw [extents_eq' (by omega)]
  simp only [Option.bind_some]
  have hr0 := sm.r e0 (by rw [hex]; simp)
  have hr1 := sm.r e1 (by rw [hex]; simp)
  have hP : P (exs a.Bounds) = e0 * e1 := by rw [hex]; simp [P]
  have hp := sm.p
  have hlen := va.len
  rw [hP] at hp hlen
  have a0 : at_ [e0, e1] 0 = some e0 := rfl
  have a1 : at_ [e0, e1] 1 = some e1 := rfl
  have inr : ∀ (i j : Nat), (i : Int) < e0 → (j : Int) < e1 → 0 ≤ (j : Int) * e0 ∧ (j : Int) * e0 ≤ 512 ∧ (i : Int) + (j : Int) * e0 < e0 * e1 := by
    intro i j hi hj
    have b1 : 0 ≤ (j : Int) * e0 := Int.mul_nonneg (by omega) hr0.1
    have b2 : ((j : Int) + 1) * e0 ≤ e1 * e0 := Int.mul_le_mul_of_nonneg_right (by omega) hr0.1
    rw [Int.add_mul, Int.one_mul, Int.mul_comm e1] at b2
    omega
  rw [hex]
  simp only [a0, Option.bind_some]
  rw [dbl_loop (step := shapes_Transpose.s1 [e0, e1] e0) (inner := fun i b => shapes_Transpose.s2 [e0, e1] (i, b) e1) (e0 := e0) (e1 := e1) (fun i j => (i : Int) + (j : Int) * e0) hr0 hr1
    (fun i hi b0 j b hj hb => by
      obtain ⟨q1, q2, q3⟩ := inr i j hi hj
      simp only [shapes_Transpose.s2, hj, if_true, a0, Option.bind_some]
      rw [app_one hb]
      simp only [Option.bind_some]
      rw [w_id (n := (j : Int) * e0) (by omega) (by omega), w_id (n := (i : Int) + (j : Int) * e0) (by omega) (by omega), wn (by omega)])
    (fun i hi b0 b => by simp only [shapes_Transpose.s2, Int.lt_irrefl, if_false])
    (fun i hi b => by
      simp only [shapes_Transpose.s1, hi, if_true, a1, Option.bind_some]
      rw [wn (by omega)])
    (fun b => by simp only [shapes_Transpose.s1, Int.lt_irrefl, if_false])]
  simp only [Option.bind_some, a1, a0]
  have tl := tpos_len e0 e1
  have ts : (tpos e0 e1).length ≤ 512 * 512 := by rw [tl]; exact Nat.mul_le_mul (by omega) (by omega)
  have hpk := picked_eq (a := a) (es := [e1, e0]) (os := tpos e0 e1) (by simp) (by omega) (fun o ho => by rw [hlen]; exact tpos_range hr0.1 hr1.1 o ho)
  unfold tpos at hpk
  rw [hpk]
  rfl
theorem transpose_valid {a : api_Array} (va : Valid a) {e0 e1 : Int} (hex : exs a.Bounds = [e0, e1]) : Valid ⟨ofExt [e1, e0], (tpos e0 e1).map (elAt a.Elements)⟩ ∧ exs (ofExt [e1, e0]) = [e1, e0] := by
  have sm := valid_small va
  have hr0 := sm.r e0 (by rw [hex]; simp)
  have hr1 := sm.r e1 (by rw [hex]; simp)
  have hP : P (exs a.Bounds) = e0 * e1 := by rw [hex]; simp [P]
  have hp := sm.p
  have hlen := va.len
  rw [hP] at hp hlen
  have hr : ∀ e, e ∈ [e1, e0] → 0 ≤ e ∧ e ≤ 512 := by
    intro e he
    simp only [List.mem_cons, List.not_mem_nil, or_false] at he
    rcases he with rfl | rfl
    · exact hr1
    · exact hr0
  have hPe : P [e1, e0] = e0 * e1 := by simp [P, Int.mul_comm]
  refine ⟨⟨ofExt_bErr hr (by simp) (by rw [hPe]; exact hp), ?_, ?_⟩, ofExt_exs hr⟩
  · rw [ofExt_exs hr, hPe, List.length_map, tpos_len]
    obtain ⟨n0, rfl⟩ := Int.eq_ofNat_of_zero_le hr0.1
    obtain ⟨n1, rfl⟩ := Int.eq_ofNat_of_zero_le hr1.1
    simp
  · intro x hx
    obtain ⟨o, ho, rfl⟩ := List.mem_map.1 hx
    have := tpos_range hr0.1 hr1.1 o ho
    exact va.int _ (elAt_mem this.1 (by omega))
theorem tpos_nat (n0 n1 : Nat) : tpos (n0 : Int) (n1 : Int) = (List.range n0).flatMap fun i : Nat => (List.range n1).map fun j : Nat => (i : Int) + (j : Int) * (n0 : Int) := by
  unfold tpos
  simp
theorem transpose_back {els : List Int} {e0 e1 : Int} (h0 : 0 ≤ e0) (h1 : 0 ≤ e1) (hl : (els.length : Int) = e0 * e1) : (tpos e1 e0).map (elAt ((tpos e0 e1).map (elAt els))) = els := by
  obtain ⟨n0, rfl⟩ := Int.eq_ofNat_of_zero_le h0
  obtain ⟨n1, rfl⟩ := Int.eq_ofNat_of_zero_le h1
  have hl' : els.length = n0 * n1 := by
    have : ((n0 * n1 : Nat) : Int) = (n0 : Int) * (n1 : Int) := by simp
    omega
  have L0 : (tpos (n0 : Int) (n1 : Int)).length = n0 * n1 := by rw [tpos_len]; simp
  have L1 : (tpos (n1 : Int) (n0 : Int)).length = n1 * n0 := by rw [tpos_len]; simp
  apply List.ext_getElem?
  intro q
  by_cases hq : q < els.length
  · have hpos : 0 < n0 := by
      rcases Nat.eq_zero_or_pos n0 with z | z
      · rw [z, Nat.zero_mul] at hl'; omega
      · exact z
    have hi : q / n0 < n1 := by rw [Nat.div_lt_iff_lt_mul hpos, Nat.mul_comm]; omega
    have hj : q % n0 < n0 := Nat.mod_lt _ hpos
    have hqe : q / n0 * n0 + q % n0 = q := by have := Nat.div_add_mod q n0; rw [Nat.mul_comm] at this; exact this
    have g1 := flat_get (fun i j : Nat => (i : Int) + (j : Int) * (n1 : Int)) n0 n1 (q / n0) (q % n0) hi hj
    rw [hqe] at g1
    rw [List.getElem?_map, tpos_nat n1 n0, g1]
    simp only [Option.map_some]
    have g2 := flat_get (fun i j : Nat => (i : Int) + (j : Int) * (n0 : Int)) n1 n0 (q % n0) (q / n0) hj hi
    have hcast : (((q / n0 : Nat) : Int) + ((q % n0 : Nat) : Int) * (n1 : Int)).toNat = q % n0 * n1 + q / n0 := by
      have : (((q / n0 : Nat) : Int) + ((q % n0 : Nat) : Int) * (n1 : Int)) = ((q % n0 * n1 + q / n0 : Nat) : Int) := by
        rw [Int.natCast_add, Int.natCast_mul]; omega
      rw [this]; exact Int.toNat_natCast _
    have hcast2 : (((q % n0 : Nat) : Int) + ((q / n0 : Nat) : Int) * (n0 : Int)).toNat = q := by
      have : (((q % n0 : Nat) : Int) + ((q / n0 : Nat) : Int) * (n0 : Int)) = ((q / n0 * n0 + q % n0 : Nat) : Int) := by
        rw [Int.natCast_add, Int.natCast_mul]; omega
      rw [this, hqe]; exact Int.toNat_natCast _
    unfold elAt
    rw [hcast, List.getElem?_map, tpos_nat n0 n1, g2]
    simp only [Option.map_some, Option.getD_some]
    rw [hcast2]
    simp [hq]
  · rw [List.getElem?_eq_none (by rw [List.length_map, L1, Nat.mul_comm]; omega), List.getElem?_eq_none (by omega)]
theorem scat_iota : ∀ (ds pre rest : List Int), rest.length = ds.length → scat ((List.range' pre.length ds.length).map fun i : Nat => (i : Int)) ds (pre ++ rest) = pre ++ ds
  | [], pre, rest, h => by
    have : rest = [] := List.eq_nil_of_length_eq_zero (by simpa using h)
    subst this
    rfl
  | d :: ds, pre, [], h => by simp at h
  | d :: ds, pre, r :: rest, h => by
    rw [List.length_cons, List.range'_succ, List.map_cons, scat]
    have hset : (pre ++ r :: rest).set ((pre.length : Int)).toNat d = (pre ++ [d]) ++ rest := by
      rw [Int.toNat_natCast, List.set_append_right _ _ (Nat.le_refl _), Nat.sub_self, List.set_cons_zero]; simp
    rw [hset]
    have := scat_iota ds (pre ++ [d]) rest (by simpa using h)
    rw [List.length_append, List.length_singleton] at this
    rw [this]
    simp
theorem rsh_plain {sh : List Int} (h7 : sh.length ≤ 7) (hr : ∀ e, e ∈ sh → 0 ≤ e ∧ e ≤ 512) (hp : prodE sh ≤ 512) : Rsh sh (iota0 sh.length) := ⟨h7, hr, hp, .refl _⟩
theorem rpos_plain {sh : List Int} (R : Rsh sh (iota0 sh.length)) {k : Nat} (hk : (k : Int) < prodE sh) : rpos sh (iota0 sh.length) k = k := by
  obtain ⟨t1, tb, hP, y1⟩ := R.digs hk
  have ht : turn sh (iota0 sh.length) = sh := map_iota0 sh
  unfold rpos
  rw [ht]
  have := scat_iota (dig sh k) [] (List.replicate sh.length 0) (by simp [dig_len])
  simp only [List.length_nil, List.nil_append, dig_len] at this
  have hi : iota0 sh.length = (List.range' 0 sh.length).map fun i : Nat => (i : Int) := by unfold iota0; rw [List.range_eq_range']
  rw [hi, this]
  exact (dig_ok y1 (by omega) (by omega)).2
theorem rout_plain {els pad sh : List Int} (R : Rsh sh (iota0 sh.length)) (hl : (els.length : Int) = prodE sh) : rout els pad sh (iota0 sh.length) = els := by
  unfold rout
  have hn : (prodE sh).toNat = els.length := by omega
  rw [hn]
  have key : (List.range els.length).foldl (fun b k => b.set (rpos sh (iota0 sh.length) k).toNat (rsrc els pad k)) (List.replicate els.length 0) = (List.range els.length).foldl (fun b k => b.set k (elAt els k)) (List.replicate els.length 0) := by
    have : ∀ (ks : List Nat) (b : List Int), (∀ k, k ∈ ks → k < els.length) → ks.foldl (fun b k => b.set (rpos sh (iota0 sh.length) k).toNat (rsrc els pad k)) b = ks.foldl (fun b k => b.set k (elAt els k)) b := by
      intro ks
      induction ks with
      | nil => intros; rfl
      | cons k ks ih =>
        intro b hk
        have h1 := hk k (.head _)
        rw [List.foldl_cons, List.foldl_cons, rpos_plain R (by omega), ih _ (fun z hz => hk z (.tail _ hz))]
        unfold rsrc
        rw [if_pos (by omega)]
        simp
    exact this _ _ (fun k hk => List.mem_range.1 hk)
  rw [key]
  have q := putG_all (fun o => elAt els o) (Q := iota0 els.length) (xs := List.replicate els.length 0) (fun q hq => by
    obtain ⟨i, _, rfl⟩ := List.mem_map.1 hq
    omega) (fun k hk => List.mem_map.2 ⟨k, List.mem_range.2 (by simpa using hk), rfl⟩)
  unfold putG iota0 at q
  rw [List.foldl_map] at q
  simp only [Int.toNat_natCast] at q
  rw [q]
  apply List.ext_getElem
  · simp
  · intro i h1 h2
    simp [elAt, h2]
theorem reshape_plain {a : api_Array} (va : Valid a) {sh : List Int} (h7 : sh.length ≤ 7) (hr : ∀ e, e ∈ sh → 0 ≤ e ∧ e ≤ 512) (hl : (a.Elements.length : Int) = prodE sh) (he : a.Elements.length ≤ 512) :
    shapes_Reshape a (api_Reshape.mk sh [] []) = some (⟨ofExt sh, a.Elements⟩, 0) := by
  have hc := valid_chk va
  have ho : ¬ oddS sh = true := by
    intro q
    obtain ⟨e, h1, h2⟩ := List.any_eq_true.1 q
    have := hr e h1
    simp [shapes_inside] at h2
    omega
  have hbp : ¬ badP ([] : List Int) = true := by decide
  have hL : (ordL (api_Reshape.mk sh [] [])).map (fun z => w (z - 1)) = iota0 sh.length := by
    have e : ordL (api_Reshape.mk sh [] []) = iota1 sh.length := by unfold ordL; exact if_pos rfl
    rw [e]
    exact w_iota1 (by show sh.length < 16777216; omega)
  rw [reshape_eq (by omega) (by show sh.length < 100; omega) (by simp) (by simp)]
  unfold rshR
  rw [hL]
  simp only [hc, ne_eq, not_true, if_false]
  rw [if_neg (by omega), if_neg ho, if_neg (by omega), if_neg (by unfold ordR; simp), if_neg (by simp), if_neg hbp, if_neg (by omega), rout_plain (rsh_plain h7 hr (by omega)) hl]
theorem sum_app : ∀ a b : List Int, (a ++ b).sum = a.sum + b.sum
  | [], b => by simp
  | x :: a, b => by rw [List.cons_append, List.sum_cons, List.sum_cons, sum_app a b]; omega
theorem sum_perm {a b : List Int} (h : a.Perm b) : a.sum = b.sum := by
  induction h with
  | nil => rfl
  | cons x _ ih => rw [List.sum_cons, List.sum_cons, ih]
  | swap x y l => simp only [List.sum_cons]; omega
  | trans _ _ h1 h2 => exact h1.trans h2
theorem sum_flat : ∀ L : List (List Int), (L.map List.sum).sum = L.flatten.sum
  | [] => rfl
  | l :: L => by rw [List.map_cons, List.sum_cons, List.flatten_cons, sum_app, sum_flat L]
theorem sum_bound {B : Int} : ∀ l : List Int, (∀ x, x ∈ l → -B ≤ x ∧ x ≤ B) → -((l.length : Int) * B) ≤ l.sum ∧ l.sum ≤ (l.length : Int) * B
  | [], _ => by simp
  | x :: l, h => by
    have h1 := h x (.head _)
    have h2 := sum_bound l (fun y hy => h y (.tail _ hy))
    rw [List.sum_cons, List.length_cons, Int.natCast_add, Int.add_mul]
    simp only [Int.natCast_one, Int.one_mul]
    omega
theorem sum_fold {B : Int} (hB : 0 ≤ B) : ∀ (l : List Int) (b : Int), (∀ x, x ∈ l → -B ≤ x ∧ x ≤ B) → -1000000000000 + (l.length : Int) * B ≤ b → b + (l.length : Int) * B ≤ 1000000000000 → l.foldl (fun b x => w (b + x)) b = b + l.sum
  | [], b, _, _, _ => by simp
  | x :: l, b, h, h1, h2 => by
    have hx := h x (.head _)
    rw [List.length_cons, Int.natCast_add, Int.add_mul] at h1 h2
    simp only [Int.natCast_one, Int.one_mul] at h1 h2
    have hn : 0 ≤ (l.length : Int) * B := Int.mul_nonneg (by omega) hB
    rw [List.foldl_cons, w_id (by omega) (by omega), sum_fold hB l (b + x) (fun y hy => h y (.tail _ hy)) (by omega) (by omega), List.sum_cons]
    omega
theorem foldV_sum {B : Int} (hB : 0 ≤ B) {l : List Int} (h : ∀ x, x ∈ l → -B ≤ x ∧ x ≤ B) (hl : (l.length : Int) * B ≤ 2147483647) : foldV 0 l = (l.sum, true) := by
  have hs := sum_bound l h
  have hf := sum_fold hB l 0 h (by omega) (by omega)
  unfold foldV
  rw [if_neg (by decide), if_neg (by decide), if_neg (by decide), if_neg (by decide), hf, Int.zero_add]
  have : shapes_isInteger l.sum = true := int_range.2 (by omega)
  rw [this]
theorem red_sum {L : List (List Int)} (h : ∀ l, l ∈ L → foldV 0 l = (l.sum, true)) (bs : List api_Bound) : redAll 0 bs L = (⟨bs, L.map List.sum⟩, 0) := by
  have scan : ∀ (L : List (List Int)) (i : Nat) (b : List Int), (∀ l, l ∈ L → foldV 0 l = (l.sum, true)) → scanE (redF 0) i L b = .inr (b ++ L.map List.sum) := by
    intro L
    induction L with
    | nil => intro i b _; simp [scanE]
    | cons l L ih =>
      intro i b hh
      have h1 := hh l (.head _)
      simp only [scanE, redF, h1, if_true]
      rw [ih (i + 1) (b ++ [l.sum]) (fun z hz => hh z (.tail _ hz))]
      simp
  unfold redAll
  rw [scan L 0 [] h]
  rfl
theorem reduced_all {a : api_Array} (va : Valid a) (he : a.Elements.length < 16777215) : shapes_Reduced a 0 0 = some (redAll 0 [] [a.Elements]) := by
  have hc := valid_chk va
  have h1 : shapes_inside 0 0 (a.Bounds.length : Int) = true := by simp [shapes_inside]
  have h2 : shapes_inside 0 0 4 = true := by decide
  unfold shapes_Reduced
  rw [arraysErr1 (by omega), brokenR]
  simp only [Option.bind_some, cmpOr2, hc, h1, h2, if_true, not_true, if_false]
  have ap : app ([] : List (List Int)) [a.Elements] = some [a.Elements] := app_nil (by simp)
  rw [ap]
  simp only [Option.bind_some]
  rw [reduced_j h2 (by simp) (by intro l hl; simp at hl; subst hl; exact he)]
theorem reduced_large {a : api_Array} (va : Valid a) {dim k : Int} {d : Nat} (hd : w (dim - 1) = d) (hdim : dim = d + 1) (ex : Exts (exs a.Bounds) d) (h2 : shapes_inside k 0 4 = true) (hp : prodE (er d (exs a.Bounds)) > 512) :
    shapes_Reduced a dim k = some (⟨[], []⟩, 8) := by
  have hc := valid_chk va
  have ok := bErr_ok va.b
  have hl7 := ok.len
  have hel : a.Elements.length < 16777216 := by
    have := va.len
    have := ex.p
    omega
  have h7 := ex.len
  have exd := ex.d
  have erl := er_len d (exs a.Bounds) ex.d
  have hlx : (exs a.Bounds).length = a.Bounds.length := by simp [exs]
  have h1 : shapes_inside dim 0 (a.Bounds.length : Int) = true := by simp [shapes_inside]; omega
  unfold shapes_Reduced
  rw [arraysErr1 hel, brokenR]
  simp only [Option.bind_some, cmpOr2, hc, h1, h2, if_true, not_true, if_false]
  rw [if_neg (by omega), extents_eq' (by omega)]
  simp only [Option.bind_some]
  unfold slices_Clone_int
  rw [app_nil (by omega), hd]
  simp only [Option.bind_some]
  have del1 : del (exs a.Bounds) (d : Int) dim = some (er d (exs a.Bounds)) := by
    unfold del
    rw [if_pos (by omega), hdim]
    have : ((d : Int) + 1).toNat = d + 1 := by omega
    simp only [Int.toNat_natCast, this]
    rw [er_eq]
  rw [del1]
  simp only [Option.bind_some]
  rw [product_eq (by omega)]
  simp only [Option.bind_some]
  rw [if_pos hp]
theorem lines_perm {es : List Int} {d : Nat} (ex : Exts es d) (hp : prodE (er d es) ≤ 512) {n : Nat} (hn : (n : Int) = P es) : (linesW es d).flatten.Perm (iota0 n) := by
  refine perm_of_sub (iota0_nodup n) (fun x hx => ?_) ?_
  · obtain ⟨i, hi, rfl⟩ := List.mem_map.1 hx
    have := List.mem_range.1 hi
    exact lines_all ex (by omega) (by omega)
  · have hPE := prodE_P (xs := er d es) (fun x hx => ex.r x (er_mem hx)) hp
    have hnr := nth_range ex
    have len : (linesW es d).flatten.length = (prodE (er d es)).toNat * (nth es d).toNat := by
      rw [List.length_flatten]
      unfold linesW
      rw [List.map_map]
      have : (List.length ∘ fun j : Nat => lineW es d j) = fun _ => (nth es d).toNat := by
        funext j
        simp [lineW]
      rw [this]
      simp [List.map_const', List.sum_replicate_nat]
    have hPe := P_er d es ex.d
    rw [len]
    have e1 : (((prodE (er d es)).toNat * (nth es d).toNat : Nat) : Int) = P es := by
      rw [Int.natCast_mul, Int.toNat_of_nonneg (by omega), Int.toNat_of_nonneg hnr.1, hPe, hPE.1, Int.mul_comm]
    have : (iota0 n).length = n := by simp [iota0]
    omega
theorem sum_lines {a : api_Array} {d : Nat} (va : Valid a) (ex : Exts (exs a.Bounds) d) (hp : prodE (er d (exs a.Bounds)) ≤ 512) : ((linesL a d).map List.sum).sum = a.Elements.sum := by
  rw [sum_flat]
  have h1 : linesL a d = (linesW (exs a.Bounds) d).map fun l => l.map (elAt a.Elements) := by
    unfold linesL linesW
    rw [List.map_map]
    apply List.map_congr_left
    intro j hj
    have := List.mem_range.1 hj
    exact (line_els ex (by omega)).symm
  rw [h1, ← List.map_flatten, sum_perm ((lines_perm ex hp va.len).map (elAt a.Elements))]
  congr 1
  apply List.ext_getElem
  · simp [iota0]
  · intro i h1 h2
    simp [iota0, elAt, h2]
theorem linesL_bound {a : api_Array} {d : Nat} (va : Valid a) (ex : Exts (exs a.Bounds) d) (hb : ∀ x, x ∈ a.Elements → -1000 ≤ x ∧ x ≤ 1000) : ∀ l, l ∈ linesL a d → ∀ x, x ∈ l → -1000 ≤ x ∧ x ≤ 1000 := by
  intro l hl x hx
  obtain ⟨j, hj, rfl⟩ := List.mem_map.1 hl
  obtain ⟨i, hi, rfl⟩ := List.mem_map.1 hx
  have hj := List.mem_range.1 hj
  have hi := List.mem_range.1 hi
  have hlen := va.len
  obtain ⟨_, _, b3, _⟩ := line_spec ex (j := j) (i := i) (by omega) (by omega)
  have r := H_range b3
  exact hb _ (elAt_mem r.1 (by omega))
theorem back_j2 {a : api_Array} (ha : a.Bounds.length ≤ 9 ∧ a.Elements.length ≤ 80) (va : Valid a) {dim : Int} (hde : dErr a dim = 0) (hb : ∀ x, x ∈ a.Elements → -1000 ≤ x ∧ x ≤ 1000) : law15_ShapesBack.j2 a dim () = some true := by
  obtain ⟨_, d, hd, hdim, ex⟩ := dim_ok hde
  have sm := valid_small va
  have hlen := va.len
  have hsp := sm.p
  have exd := ex.d
  have hPs : prodE (exs a.Bounds) = P (exs a.Bounds) := P_prodE sm.r hsp
  unfold law15_ShapesBack.j2
  rw [refCopy_eq (by omega) (by omega)]
  simp only [Option.bind_some]
  have hr1 : ∀ e, e ∈ [(a.Elements.length : Int)] → 0 ≤ e ∧ e ≤ 512 := by intro e he; simp at he; omega
  have hp1 : prodE [(a.Elements.length : Int)] = (a.Elements.length : Int) := by
    rw [P_prodE hr1 (by simp [P]; omega)]; simp [P]
  rw [reshape_plain va (sh := [(a.Elements.length : Int)]) (by simp) hr1 hp1.symm (by omega), refExtents_eq' (by omega)]
  simp only [Option.bind_some]
  have vf : Valid ⟨ofExt [(a.Elements.length : Int)], a.Elements⟩ := ⟨ofExt_bErr hr1 (by simp) (by simp [P]; omega), by rw [ofExt_exs hr1]; simp [P], va.int⟩
  rw [reshape_plain vf (sh := exs a.Bounds) sm.len sm.r (by show (a.Elements.length : Int) = _; omega) (by show a.Elements.length ≤ 512; omega)]
  simp only [Option.bind_some, bne_self_eq_false, Bool.or_self, Bool.false_eq_true, if_false]
  rw [ints_eq (by omega) (by omega)]
  simp only [beq_self_eq_true, Option.bind_some, not_true, if_false]
  by_cases hp : prodE (er d (exs a.Bounds)) > 512
  · rw [reduced_large va hd hdim ex (by decide) hp]
    simp only [Option.bind_some, if_true]
  have hp' : prodE (er d (exs a.Bounds)) ≤ 512 := by omega
  have hPE := prodE_P (xs := er d (exs a.Bounds)) (fun x hx => ex.r x (er_mem hx)) hp'
  obtain ⟨L1, L2⟩ := linesL_len ex
  have hbl := linesL_bound va ex hb
  have fl : ∀ l, l ∈ linesL a d → foldV 0 l = (l.sum, true) := fun l hl => foldV_sum (B := 1000) (by omega) (hbl l hl) (by have := L2 l hl; omega)
  rw [Reduced_dim va hd hdim ex (by decide) hp', red_sum fl]
  simp only [Option.bind_some]
  have her : ∀ e, e ∈ er d (exs a.Bounds) → 0 ≤ e ∧ e ≤ 512 := fun e he => ex.r e (er_mem he)
  have erl := er_len d (exs a.Bounds) ex.d
  have sb : ∀ x, x ∈ (linesL a d).map List.sum → -512000 ≤ x ∧ x ≤ 512000 := by
    intro x hx
    obtain ⟨l, hl, rfl⟩ := List.mem_map.1 hx
    have := sum_bound l (hbl l hl)
    have := L2 l hl
    omega
  have vx : Valid ⟨ofExt (er d (exs a.Bounds)), (linesL a d).map List.sum⟩ := by
    refine ⟨ofExt_bErr her (by have := ex.len; omega) (by omega), ?_, ?_⟩
    · rw [ofExt_exs her, List.length_map]
      unfold linesL
      rw [List.length_map, List.length_range]
      omega
    · intro x hx
      have := sb x hx
      exact int_range.2 (by omega)
  have ml : ((linesL a d).map List.sum).length ≤ 513 := by rw [List.length_map]; exact L1
  have tot := sum_lines va ex hp'
  have ab := sum_bound a.Elements hb
  have fy : foldV 0 ((linesL a d).map List.sum) = (((linesL a d).map List.sum).sum, true) := foldV_sum (B := 512000) (by omega) sb (by omega)
  have fz : foldV 0 a.Elements = (a.Elements.sum, true) := foldV_sum (B := 1000) (by omega) hb (by omega)
  rw [if_neg (by decide), reduced_all vx (by show ((linesL a d).map List.sum).length < 16777215; omega), reduced_all va (by omega)]
  rw [red_sum (L := [(linesL a d).map List.sum]) (fun l hl => by simp only [List.mem_singleton] at hl; subst hl; exact fy), red_sum (L := [a.Elements]) (fun l hl => by simp only [List.mem_singleton] at hl; subst hl; exact fz)]
  simp only [Option.bind_some, List.map_cons, List.map_nil, tot]
  rw [ints_eq (by simp) (by simp)]
  simp
theorem ShapesBack_true (a : api_Array) (dim by_ : Int) : law15_ShapesBack a dim by_ = some true := by
  unfold law15_ShapesBack
  rw [awake_eq]
  simp only [Option.bind_some, not_true, if_false]
  by_cases hg : law15_few a = true
  case neg => simp only [hg, not_false_eq_true, if_true, Bool.false_eq_true]
  have fa := few_ok hg
  simp only [hg, not_true, if_false]
  rw [refErr_eq (by omega)]
  simp only [Option.bind_some, within_eq]
  by_cases hc : ((((chk a).2 != 0) || (!(shapes_inside dim 1 (a.Bounds.length : Int)))) || (!(shapes_inside by_ (-1000) 1000))) = true
  · rw [if_pos hc]
  rw [if_neg hc]
  simp only [Bool.or_eq_true, bne_iff_ne, ne_eq, Bool.not_eq_true', not_or, Bool.not_eq_false] at hc
  obtain ⟨⟨c1, c2⟩, c3⟩ := hc
  have c1' := Classical.not_not.1 c1
  have va := chk_valid c1'
  have hde : dErr a dim = 0 := by unfold dErr; rw [if_neg c1, if_pos c2]
  obtain ⟨_, d, hd, hdim, ex⟩ := dim_ok hde
  have hby : -1000 ≤ by_ ∧ by_ ≤ 1000 := by simpa [shapes_inside] using c3
  rw [loop_find (step := law15_ShapesBack.s1 a) a.Elements (fun z => if (!shapes_inside z (-1000) 1000) = true then some () else none) (fun _ => .inr true) (.inl ()) rfl ?_ ?_ (by omega), findSome_const]
  · by_cases hq : (a.Elements.any fun z => !shapes_inside z (-1000) 1000) = true
    · simp only [hq, if_true, Option.bind_some]
    simp only [hq, if_false, Bool.false_eq_true, Option.bind_some]
    have hb : ∀ x, x ∈ a.Elements → -1000 ≤ x ∧ x ≤ 1000 := by
      intro x hx
      have : (a.Elements.any fun z => !shapes_inside z (-1000) 1000) = false := by simpa using hq
      have := List.any_eq_false.1 this x hx
      simp only [Bool.not_eq_true', Bool.not_eq_false] at this
      simpa [shapes_inside] using this
    rw [refCopy_eq (by omega) (by omega)]
    simp only [Option.bind_some]
    have vs := shifted_valid va ex by_
    have hde2 : dErr ⟨a.Bounds, (List.range a.Elements.length).map fun k : Nat => shG a.Elements (exs a.Bounds) d by_ k⟩ dim = 0 := by
      unfold dErr; rw [valid_chk vs, if_neg (by simp), if_pos c2]
    rw [shifted_ok fa va hd hde ex by_]
    simp only [Option.bind_some]
    rw [show w (0 - by_) = -by_ by rw [w_id (by omega) (by omega)]; omega, shifted_ok (a := ⟨a.Bounds, (List.range a.Elements.length).map fun k : Nat => shG a.Elements (exs a.Bounds) d by_ k⟩) (by simpa using fa) vs hd hde2 ex (-by_)]
    simp only [Option.bind_some, List.length_map, List.length_range, bne_self_eq_false, Bool.or_self, Bool.false_eq_true, if_false]
    rw [shift_back ex va.len by_, same_self (a := ⟨a.Bounds, a.Elements⟩) (by show a.Bounds.length < 16777216; omega) (by show a.Elements.length < 16777216; omega)]
    simp only [Option.bind_some, not_true, if_false]
    rw [back_j2 fa va hde hb]
    by_cases h2 : (a.Bounds.length : Int) = 2
    · simp only [h2, if_true]
      obtain ⟨e0, e1, hex⟩ : ∃ e0 e1, exs a.Bounds = [e0, e1] := by
        have hl : (exs a.Bounds).length = 2 := by simp [exs]; omega
        match h : exs a.Bounds, hl with
        | [x, y], _ => exact ⟨x, y, rfl⟩
      have sm := valid_small va
      have hr0 := sm.r e0 (by rw [hex]; simp)
      have hr1 := sm.r e1 (by rw [hex]; simp)
      have hP : P (exs a.Bounds) = e0 * e1 := by rw [hex]; simp [P]
      have hlen := va.len
      rw [hP] at hlen
      obtain ⟨vt, xt⟩ := transpose_valid va hex
      rw [transpose_ok va (by omega) hex]
      simp only [Option.bind_some]
      rw [transpose_ok vt (by simp [ofExt]) xt]
      simp only [Option.bind_some, not_true, if_false]
      rw [transpose_back hr0.1 hr1.1 hlen, ints_eq (by omega) (by omega)]
      simp only [beq_self_eq_true, Option.bind_some, not_true, if_false]
      have hr : ∀ e, e ∈ [e0, e1] → 0 ≤ e ∧ e ≤ 512 := by
        intro e he
        simp only [List.mem_cons, List.not_mem_nil, or_false] at he
        rcases he with rfl | rfl
        · exact hr0
        · exact hr1
      rw [refExtents_eq' (by simp [ofExt]), refExtents_eq' (by omega), ofExt_exs hr, hex]
      simp only [Option.bind_some]
      rw [ints_eq (by simp) (by simp)]
      simp
    · simp only [h2, if_false]
  · intro i hi
    simp only [law15_ShapesBack.s1, lt_len hi, if_true, at_lt hi, Option.bind_some, within_eq]
    by_cases hz : shapes_inside a.Elements[i] (-1000) 1000 = true
    · simp only [hz, not_true, if_false, Bool.not_true, Bool.false_eq_true]; rw [wn (by omega)]
    · have : shapes_inside a.Elements[i] (-1000) 1000 = false := by simpa using hz
      simp [this]
  · simp only [law15_ShapesBack.s1, not_lt_len, if_false]
end Go.Sh
