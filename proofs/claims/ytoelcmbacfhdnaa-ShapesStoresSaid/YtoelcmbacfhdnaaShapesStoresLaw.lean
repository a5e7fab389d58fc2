/- What the functions compute answers as the statement says. -/
import Derived.Test.YtoelcmbacfhdnaaShapesStoresSh
set_option linter.all false
namespace Go.Sh
open Go.Lx
set_option linter.unusedVariables false
set_option linter.unusedSimpArgs false
theorem awake_eq : law15_awake = some true := by decide +kernel
theorem lt_len {i n : Nat} (h : i < n) : ((i : Int) < (n : Int)) = True := eq_true (by omega)
theorem not_lt_len (n : Nat) : ((n : Int) < (n : Int)) = False := eq_false (by omega)
theorem copyBounds_eq {p : List api_Bound} (h : p.length ≤ 16777216) : ref15_CopyBounds p = some p := by
  unfold ref15_CopyBounds; rw [app_nil h]; rfl
theorem copyInts_eq {p : List Int} (h : p.length ≤ 16777216) : base_CopyInts p = some p := by
  unfold base_CopyInts; rw [mkSl_len h]; simp [copied_all]
theorem extents_eq {p : List api_Bound} (h : p.length < 16777216) : shapes_extents p = some (p.map shapes_extent) := by
  unfold shapes_extents
  rw [loop_map p shapes_extent (fun i b => (i, b)) (fun b => b) rfl ?_ ?_ (by omega)]
  · rfl
  · intro i hi b hb
    simp only [shapes_extents.s1, lt_len hi, if_true, at_lt hi, Option.bind_some]
    rw [app_one (by omega), wn (by omega)]; rfl
  · intro b; simp only [shapes_extents.s1, not_lt_len, if_false]
theorem refExtents_eq {p : List api_Bound} (h : p.length < 16777216) : ref15_Extents p = some (p.map shapes_extent) := by
  unfold ref15_Extents
  rw [loop_map p shapes_extent (fun i b => (i, b)) (fun b => b) rfl ?_ ?_ (by omega)]
  · rfl
  · intro i hi b hb
    simp only [ref15_Extents.s1, lt_len hi, if_true, at_lt hi, Option.bind_some]
    rw [app_one (by omega), wn (by omega)]; rfl
  · intro b; simp only [ref15_Extents.s1, not_lt_len, if_false]
theorem index_any (p : List Int) (v : Int) (h : p.length < 16777216) : ∃ k : Nat, slices_Index_int p v = some (if p.any (fun x => v == x) = true then (k : Int) else -1) := by
  unfold slices_Index_int
  obtain ⟨k, hk⟩ := loop_any (step := slices_Index_int.s1 p v) p (fun x => v == x) (fun i => Sum.inr i) (Sum.inl ()) (s := 0) rfl (fun i hi => by
    simp only [slices_Index_int.s1, lt_len hi, if_true, at_lt hi, Option.bind_some]
    by_cases e : v = p[i]
    · simp [e]
    · simp only [e, if_false, beq_iff_eq]; rw [wn (by omega)]) (by simp only [slices_Index_int.s1, not_lt_len, if_false]) (by omega)
  refine ⟨k, ?_⟩
  rw [hk]
  by_cases e : p.any (fun x => v == x) = true
  · rw [if_pos e, if_pos e]; rfl
  · rw [if_neg e, if_neg e]; rfl
theorem contains_eq {p : List Int} {v : Int} (h : p.length < 16777216) : slices_Contains_int p v = some (p.any (fun x => v == x)) := by
  unfold slices_Contains_int
  obtain ⟨k, hk⟩ := index_any p v h
  rw [hk]
  by_cases e : p.any (fun x => v == x) = true
  · rw [if_pos e, e]; simp
  · rw [if_neg e, eq_false_of_ne_true e]; rfl
def capP (xs : List Int) : Int := xs.foldl (fun a x => mn (w (a * mn x 513)) 513) 1
def prodE (xs : List Int) : Int := if xs.any (fun x => 0 == x) = true then 0 else capP xs
theorem product_eq {p : List Int} (h : p.length < 16777216) : shapes_product p = some (prodE p) := by
  unfold shapes_product
  rw [loop_fold (step := shapes_product.s1 p) p (fun i b => (b, i)) (fun b => b) (fun a x => mn (w (a * mn x 513)) 513) (fun _ _ => True) (a := 1) rfl ?_ ?_ trivial (by omega)]
  · simp only [Option.bind_some, contains_eq h]
    unfold prodE capP
    split <;> rfl
  · intro i hi b _
    refine ⟨?_, trivial⟩
    simp only [shapes_product.s1, lt_len hi, if_true, at_lt hi, Option.bind_some]
    rw [wn (by omega)]
  · intro b _; simp only [shapes_product.s1, not_lt_len, if_false]
theorem scan_prod : ∀ (xs : List Int) (i : Nat) (a : Int), scanE (ρ := Unit) (fun _ (b : Int) x => if x = 0 then .inl () else .inr (mn (w (b * mn x 513)) 513)) i xs a = (if xs.any (fun x => 0 == x) = true then .inl () else .inr (xs.foldl (fun a x => mn (w (a * mn x 513)) 513) a))
  | [], i, a => rfl
  | x :: xs, i, a => by
    simp only [scanE, List.any_cons, List.foldl_cons]
    by_cases e : x = 0
    · subst e; simp
    · have e' : (0 == x) = false := by simp; exact fun q => e q.symm
      simp only [e, if_false, e', Bool.false_or]
      exact scan_prod xs (i + 1) _
theorem refProduct_eq {p : List Int} (h : p.length < 16777216) : ref15_Product p = some (prodE p) := by
  unfold ref15_Product
  rw [loop_scan (step := ref15_Product.s1 p) p (fun i b => (b, i)) (fun (_ : Unit) => Sum.inr 0) (fun b => Sum.inl b) (fun _ (b : Int) x => if x = 0 then .inl () else .inr (mn (w (b * mn x 513)) 513)) (fun _ _ => True) (a := 1) rfl ?_ ?_ trivial (by omega)]
  · rw [scan_prod]
    unfold prodE capP
    by_cases e : p.any (fun x => 0 == x) = true
    · simp only [e, if_true]; rfl
    · simp only [e, if_false]; rfl
  · intro i hi b _
    refine ⟨?_, fun _ _ => trivial⟩
    simp only [ref15_Product.s1, lt_len hi, if_true, at_lt hi, Option.bind_some]
    by_cases e : p[i] = 0
    · simp only [e, if_true]
    · simp only [e, if_false]; rw [wn (by omega)]
  · intro b _; simp only [ref15_Product.s1, not_lt_len, if_false]
def num (b : api_Bound) : Bool := shapes_isNumber b.Low && shapes_isNumber b.High
def bErr (p : List api_Bound) : Int := if (p.length : Int) > 7 then 32 else if p.any (fun b => !num b) = true then 2 else if p.any (fun b => decide (shapes_extent b > 512)) = true then 8 else if prodE (p.map shapes_extent) > 512 then 8 else 0
theorem within_eq (a b c : Int) : base_Within a b c = shapes_inside a b c := by
  unfold base_Within shapes_inside
  simp only [Bool.not_or, ← decide_not]
  congr 1 <;> exact decide_eq_decide.2 (by omega)
theorem findSome_const {α ρ : Type} {p : α → Bool} {c : ρ} : ∀ xs : List α, xs.findSome? (fun x => if p x = true then some c else none) = if xs.any p = true then some c else none
  | [] => rfl
  | x :: xs => by
    simp only [List.findSome?_cons, List.any_cons]
    by_cases e : p x = true
    · simp [e]
    · simp only [e, if_false, Bool.false_or]; exact findSome_const xs
theorem broken1 (b : Bool) (c : Int) : shapes_broken [shapes_rule.mk b c] = some (if b = true then 0 else c) := by
  unfold shapes_broken
  rw [loop_find (step := shapes_broken.s1 [shapes_rule.mk b c]) [shapes_rule.mk b c] (fun r => if r.holds = true then none else some r.code) (fun c => Sum.inr c) (Sum.inl ()) rfl ?_ ?_ (by simp)]
  · cases b <;> rfl
  · intro i hi
    simp only [shapes_broken.s1, lt_len hi, if_true, at_lt hi, Option.bind_some]
    have : i = 0 := by simpa using hi
    subst this
    cases b <;> simp [w, IntKind.wrap] <;> rfl
  · rfl
theorem index1_eq (p : List api_Bound) (h : p.length < 16777216) : slices_ContainsFunc_api_Bound__shapes_boundsErr_c1 p = some (p.any (fun b => !num b)) := by
  unfold slices_ContainsFunc_api_Bound__shapes_boundsErr_c1 slices_IndexFunc_api_Bound__shapes_boundsErr_c1
  obtain ⟨k, hk⟩ := loop_any (step := slices_IndexFunc_api_Bound__shapes_boundsErr_c1.s1 p) p (fun b => !num b) (fun i => Sum.inr i) (Sum.inl ()) (s := 0) rfl (fun i hi => by
    simp only [slices_IndexFunc_api_Bound__shapes_boundsErr_c1.s1, lt_len hi, if_true, at_lt hi, Option.bind_some]
    have : shapes_boundsErr_c1 p[i] = !num p[i] := by unfold shapes_boundsErr_c1 num; simp
    rw [this, wn (by omega)]; split <;> rfl) (by simp only [slices_IndexFunc_api_Bound__shapes_boundsErr_c1.s1, not_lt_len, if_false]) (by omega)
  rw [hk]
  by_cases e : p.any (fun b => !num b) = true
  · rw [if_pos e, e]; simp
  · rw [if_neg e, eq_false_of_ne_true e]; rfl
theorem index2_eq (p : List api_Bound) (h : p.length < 16777216) : slices_ContainsFunc_api_Bound__shapes_boundsErr_c2 p = some (p.any (fun b => decide (shapes_extent b > 512))) := by
  unfold slices_ContainsFunc_api_Bound__shapes_boundsErr_c2 slices_IndexFunc_api_Bound__shapes_boundsErr_c2
  obtain ⟨k, hk⟩ := loop_any (step := slices_IndexFunc_api_Bound__shapes_boundsErr_c2.s1 p) p (fun b => decide (shapes_extent b > 512)) (fun i => Sum.inr i) (Sum.inl ()) (s := 0) rfl (fun i hi => by
    simp only [slices_IndexFunc_api_Bound__shapes_boundsErr_c2.s1, lt_len hi, if_true, at_lt hi, Option.bind_some]
    unfold shapes_boundsErr_c2
    rw [wn (by omega)]; split <;> rfl) (by simp only [slices_IndexFunc_api_Bound__shapes_boundsErr_c2.s1, not_lt_len, if_false]) (by omega)
  rw [hk]
  by_cases e : p.any (fun b => decide (shapes_extent b > 512)) = true
  · rw [if_pos e, e]; simp
  · rw [if_neg e, eq_false_of_ne_true e]; rfl
theorem size_eq {p : List api_Bound} (h : p.length < 16777216) : shapes_size p = some (prodE (p.map shapes_extent)) := by
  unfold shapes_size
  rw [extents_eq h]; simp only [Option.bind_some]
  rw [product_eq (by simpa using h)]; rfl
theorem boundsErr_eq (p : List api_Bound) : shapes_boundsErr p = some (bErr p) := by
  unfold shapes_boundsErr bErr
  by_cases h7 : (p.length : Int) > 7
  · simp only [h7, if_true]
  · have h : p.length < 16777216 := by omega
    simp only [h7, if_false, index1_eq p h, index2_eq p h, size_eq h, broken1, Option.bind_some]
    by_cases e1 : p.any (fun b => !num b) = true
    · simp only [e1, if_true]
    · simp only [e1, if_false]
      by_cases e2 : p.any (fun b => decide (shapes_extent b > 512)) = true
      · simp [e2]
      · simp only [e2, if_false]
        by_cases e3 : prodE (p.map shapes_extent) > 512
        · have : ¬ prodE (p.map shapes_extent) ≤ 512 := by omega
          simp [e3, this]
        · have : prodE (p.map shapes_extent) ≤ 512 := by omega
          simp [e3, this]
theorem refBoundsErr_eq (p : List api_Bound) : ref15_BoundsErr p = some (bErr p) := by
  unfold ref15_BoundsErr bErr
  by_cases h7 : (p.length : Int) > 7
  · simp only [h7, if_true]
  · have h : p.length < 16777216 := by omega
    simp only [h7, if_false, refExtents_eq h, Option.bind_some]
    rw [loop_find (step := ref15_BoundsErr.s1 p) p (fun b => if (!num b) = true then some (2 : Int) else none) (fun c => Sum.inr c) (Sum.inl ()) rfl ?_ ?_ (by omega), findSome_const]
    · by_cases e1 : p.any (fun b => !num b) = true
      · simp only [e1, if_true, Option.bind_some]
      · simp only [e1, if_false, Option.bind_some]
        rw [loop_find (step := ref15_BoundsErr.s2 (p.map shapes_extent)) (p.map shapes_extent) (fun x => if (decide (x > 512)) = true then some (8 : Int) else none) (fun c => Sum.inr c) (Sum.inl ()) rfl ?_ ?_ (by simp; omega), findSome_const, List.any_map]
        · by_cases e2 : p.any (fun b => decide (shapes_extent b > 512)) = true
          · have e2' : p.any ((fun x => decide (x > 512)) ∘ shapes_extent) = true := e2
            simp only [e2, e2', if_true, Option.bind_some, Bool.false_eq_true, if_false]
          · have e2' : ¬ p.any ((fun x => decide (x > 512)) ∘ shapes_extent) = true := e2
            simp only [e2, e2', if_false, Option.bind_some, Bool.false_eq_true]
            rw [refProduct_eq (by simpa using h)]
            simp only [Option.bind_some]
            split <;> rfl
        · intro i hi
          simp only [ref15_BoundsErr.s2, lt_len hi, if_true, at_lt hi, Option.bind_some]
          by_cases e : (p.map shapes_extent)[i] > 512
          · simp only [e, if_true, decide_true]
          · simp only [e, if_false, decide_false, Bool.false_eq_true]; rw [wn (by simp at hi; omega)]
        · simp only [ref15_BoundsErr.s2, not_lt_len, if_false]
    · intro i hi
      simp only [ref15_BoundsErr.s1, lt_len hi, if_true, at_lt hi, Option.bind_some, ref15_isBound, within_eq, num, shapes_isNumber]
      rw [wn (by omega)]
      by_cases e1 : shapes_inside p[i].Low (-2147483647) 2147483647 = true
      · by_cases e2 : shapes_inside p[i].High (-2147483647) 2147483647 = true
        · simp [e1, e2]
        · simp [e1, e2]
      · simp [e1]
    · simp only [ref15_BoundsErr.s1, not_lt_len, if_false]
end Go.Sh
namespace Go.Sh
open Go.Lx
set_option linter.unusedVariables false
set_option linter.unusedSimpArgs false
theorem before_eq : ∀ (n : Nat) (a b : List Int), a.length < n → n ≤ 16777217 → b.length < 16777216 → ∃ r, base_Before.N n a b = some r ∧ (r = true → a ≠ b)
  | 0, a, b, h, _, _ => absurd h (Nat.not_lt_zero _)
  | n + 1, a, b, h, hn, hb => by
    show ∃ r, base_Before.F (base_Before.N n) a b = some r ∧ _
    unfold base_Before.F
    match a, b with
    | [], b => exact ⟨_, rfl, fun h => by simp at h; intro q; subst q; simp at h⟩
    | x :: a, [] => exact ⟨_, rfl, fun h => by simp at h; omega⟩
    | x :: a, y :: b =>
      have e0 : ¬ ((((x :: a).length : Int) == 0) || (((y :: b).length : Int) == 0)) = true := by simp; omega
      have c1 : cut (x :: a) 1 ((x :: a).length : Int) = some a := by unfold cut; rw [if_pos (by simp; omega)]; simp
      have c2 : cut (y :: b) 1 ((y :: b).length : Int) = some b := by unfold cut; rw [if_pos (by simp; omega)]; simp
      have a1 : at_ (x :: a) 0 = some x := rfl
      have a2 : at_ (y :: b) 0 = some y := rfl
      rw [if_neg e0]
      simp only [a1, a2, Option.bind_some]
      by_cases h1 : x < y
      · exact ⟨true, by simp [h1], fun _ q => by simp at q; omega⟩
      · by_cases h2 : x = y
        · obtain ⟨r, h3, h4⟩ := before_eq n a b (by simp at h; omega) (by omega) (by simp at hb; omega)
          refine ⟨r, ?_, fun hr q => h4 hr (by simp at q; exact q.2)⟩
          subst h2
          rw [if_neg h1, if_pos rfl, c1, c2]
          simp only [Option.bind_some, h3]
        · exact ⟨false, by simp [h1, h2], fun q => by cases q⟩
theorem before_tri : ∀ (n m : Nat) (a b : List Int), base_Before.N n a b = some false → base_Before.N m b a = some false → a.length = b.length → a = b
  | 0, m, a, b, h, _, _ => by cases h
  | n + 1, 0, a, b, _, h, _ => by cases h
  | n + 1, m + 1, a, b, h, k, hl => by
    change base_Before.F (base_Before.N n) a b = some false at h
    change base_Before.F (base_Before.N m) b a = some false at k
    unfold base_Before.F at h k
    match a, b, hl with
    | [], [], _ => rfl
    | x :: a, y :: b, hl =>
      have e0 : ¬ ((((x :: a).length : Int) == 0) || (((y :: b).length : Int) == 0)) = true := by simp; omega
      have e1 : ¬ ((((y :: b).length : Int) == 0) || (((x :: a).length : Int) == 0)) = true := by simp; omega
      have c1 : cut (x :: a) 1 ((x :: a).length : Int) = some a := by unfold cut; rw [if_pos (by simp; omega)]; simp
      have c2 : cut (y :: b) 1 ((y :: b).length : Int) = some b := by unfold cut; rw [if_pos (by simp; omega)]; simp
      have a1 : at_ (x :: a) 0 = some x := rfl
      have a2 : at_ (y :: b) 0 = some y := rfl
      rw [if_neg e0] at h
      rw [if_neg e1] at k
      simp only [a1, a2, Option.bind_some, c1, c2] at h k
      by_cases h1 : x < y
      · simp [h1] at h
      · by_cases h2 : y < x
        · simp [h2] at k
        · have h3 : x = y := by omega
          subst h3
          simp only [h1, if_false, if_true] at h k
          obtain ⟨r, hr, h⟩ := Option.bind_eq_some_iff.1 h
          obtain ⟨r', hr', k⟩ := Option.bind_eq_some_iff.1 k
          cases h
          cases k
          rw [before_tri n m a b hr hr' (by simpa using hl)]
theorem ints_eq {a b : List Int} (ha : a.length < 16777216) (hb : b.length < 16777216) : base_Ints a b = some (a == b) := by
  unfold base_Ints
  have hF : (16777217 : Nat) ≤ FUEL := by unfold FUEL; omega
  have step : ∀ (n : Nat) (a b : List Int) (r : Bool), base_Before.N n a b = some r → base_Before.N (n + 1) a b = some r := by
    intro n
    induction n with
    | zero => intro a b r h; cases h
    | succ n ih =>
      intro a b r h
      change base_Before.F (base_Before.N n) a b = some r at h
      show base_Before.F (base_Before.N (n + 1)) a b = some r
      unfold base_Before.F at h ⊢
      split
      · rename_i hc; rw [if_pos hc] at h; exact h
      · rename_i hc
        rw [if_neg hc] at h
        obtain ⟨x4, h4, h⟩ := Option.bind_eq_some_iff.1 h
        obtain ⟨x5, h5, h⟩ := Option.bind_eq_some_iff.1 h
        rw [h4, h5]
        simp only [Option.bind_some]
        split
        · rename_i hd; rw [if_pos hd] at h; exact h
        · rename_i hd
          rw [if_neg hd] at h
          rw [h4, h5] at h
          simp only [Option.bind_some] at h ⊢
          split
          · rename_i he
            rw [if_pos he] at h
            obtain ⟨x6, h6, h⟩ := Option.bind_eq_some_iff.1 h
            obtain ⟨x7, h7, h⟩ := Option.bind_eq_some_iff.1 h
            obtain ⟨x8, h8, h⟩ := Option.bind_eq_some_iff.1 h
            rw [h6, h7]
            simp only [Option.bind_some]
            rw [ih _ _ _ h8]
            exact h
          · rename_i he; rw [if_neg he] at h; exact h
  have up : ∀ (n m : Nat) (a b : List Int) (r : Bool), n ≤ m → base_Before.N n a b = some r → base_Before.N m a b = some r := by
    intro n m a b r hnm h
    induction hnm with
    | refl => exact h
    | step _ ih => exact step _ _ _ _ ih
  have get : ∀ a b : List Int, a.length < 16777216 → b.length < 16777216 → ∃ r, base_Before a b = some r ∧ (r = true → a ≠ b) := by
    intro a b ha hb
    obtain ⟨r, h1, h2⟩ := before_eq 16777217 a b (by omega) (Nat.le_refl _) hb
    exact ⟨r, up _ _ _ _ _ hF h1, h2⟩
  by_cases hl : (a.length : Int) = (b.length : Int)
  · rw [if_pos hl]
    obtain ⟨r, h1, h2⟩ := get a b ha hb
    obtain ⟨r', h3, h4⟩ := get b a hb ha
    rw [h1, h3]
    simp only [Option.bind_some]
    cases r with
    | true => simp; exact h2 rfl
    | false =>
      cases r' with
      | true => simp; exact fun q => h4 rfl q.symm
      | false => simp; exact before_tri _ _ _ _ h1 h3 (by omega)
  · rw [if_neg hl]
    have : a ≠ b := fun q => hl (by rw [q])
    simp [this]
end Go.Sh
namespace Go.Sh
open Go.Lx
set_option linter.unusedVariables false
set_option linter.unusedSimpArgs false
def P : List Int → Int
  | [] => 1
  | x :: xs => x * P xs
def H : List Int → List Int → Int
  | e :: es, d :: ds => d + e * H es ds
  | _, _ => 0
def dig : List Int → Int → List Int
  | [], _ => []
  | e :: es, n => n % e :: dig es (n / e)
def inBase : List Int → List Int → Prop
  | e :: es, d :: ds => 0 ≤ d ∧ d < e ∧ inBase es ds
  | [], [] => True
  | _, _ => False
theorem P_pos : ∀ {es : List Int}, (∀ e, e ∈ es → 1 ≤ e) → 1 ≤ P es
  | [], _ => Int.le_refl 1
  | e :: es, h => by
    have h1 := h e (.head _)
    have h2 := P_pos (es := es) fun x hx => h x (.tail _ hx)
    have := Int.mul_le_mul h1 h2 (by omega) (by omega)
    simpa [P] using this
theorem P_tail {e : Int} {es : List Int} (h : ∀ x, x ∈ e :: es → 1 ≤ x) : P es ≤ P (e :: es) := by
  have h1 := h e (.head _)
  have h2 := P_pos (es := es) fun x hx => h x (.tail _ hx)
  have := Int.mul_le_mul h1 (Int.le_refl (P es)) (by omega) (by omega)
  simpa [P] using this
theorem inBase_pos : ∀ {es ds : List Int}, inBase es ds → ∀ e, e ∈ es → 1 ≤ e
  | [], _, _, e, h => by cases h
  | e :: es, [], h, _, _ => by cases h
  | e :: es, d :: ds, ⟨h1, h2, h3⟩, x, hx => by
    cases hx with
    | head => omega
    | tail _ hx => exact inBase_pos h3 x hx
theorem H_range : ∀ {es ds : List Int}, inBase es ds → 0 ≤ H es ds ∧ H es ds < P es
  | [], [], _ => by simp [H, P]
  | [], _ :: _, h => by cases h
  | e :: es, [], h => by cases h
  | e :: es, d :: ds, ⟨h1, h2, h3⟩ => by
    obtain ⟨i1, i2⟩ := H_range h3
    have a1 : 0 ≤ e * H es ds := Int.mul_nonneg (by omega) i1
    have a2 : e * H es ds ≤ e * (P es - 1) := Int.mul_le_mul_of_nonneg_left (by omega) (by omega)
    rw [Int.mul_sub, Int.mul_one] at a2
    simp only [H, P]
    omega
theorem dig_ok : ∀ {es : List Int} {n : Int}, (∀ e, e ∈ es → 1 ≤ e) → 0 ≤ n → n < P es → inBase es (dig es n) ∧ H es (dig es n) = n
  | [], n, _, h1, h2 => by simp [P] at h2; simp [inBase, dig, H]; omega
  | e :: es, n, h, h1, h2 => by
    have he := h e (.head _)
    have g1 : 0 ≤ n / e := Int.ediv_nonneg h1 (by omega)
    have g2 : n / e < P es := Int.ediv_lt_of_lt_mul (by omega) (by simp only [P] at h2; rw [Int.mul_comm]; exact h2)
    obtain ⟨i1, i2⟩ := dig_ok (es := es) (fun x hx => h x (.tail _ hx)) g1 g2
    refine ⟨⟨Int.emod_nonneg _ (by omega), Int.emod_lt_of_pos _ (by omega), i1⟩, ?_⟩
    simp only [dig, H, i2]
    exact Int.emod_add_mul_ediv n e
theorem dig_len : ∀ (es : List Int) (n : Int), (dig es n).length = es.length
  | [], n => rfl
  | e :: es, n => by simp [dig, dig_len es]
theorem P_zero : ∀ {es : List Int}, (∃ e, e ∈ es ∧ e = 0) → P es = 0
  | [], h => by obtain ⟨e, h, _⟩ := h; cases h
  | e :: es, h => by
    obtain ⟨x, hx, rfl⟩ := h
    cases hx with
    | head => simp [P]
    | tail _ hx => rw [P, P_zero ⟨0, hx, rfl⟩]; simp
theorem min_mul {a b m : Int} (ha : 1 ≤ a) (hb : 1 ≤ b) (hm : 0 ≤ m) : min (min a m * b) m = min (a * b) m := by
  rcases Int.le_total a m with h | h
  · rw [Int.min_eq_left h]
  · rw [Int.min_eq_right h]
    have h1 : m * 1 ≤ m * b := Int.mul_le_mul_of_nonneg_left hb hm
    have h2 : m * b ≤ a * b := Int.mul_le_mul_of_nonneg_right h (by omega)
    omega
theorem capP_eq : ∀ {xs : List Int} {a : Int}, (∀ x, x ∈ xs → 1 ≤ x ∧ x ≤ 512) → 1 ≤ a → a ≤ 513 → xs.foldl (fun a x => mn (w (a * mn x 513)) 513) a = min (a * P xs) 513
  | [], a, _, h1, h2 => by simp [P]; omega
  | x :: xs, a, h, h1, h2 => by
    obtain ⟨g1, g2⟩ := h x (.head _)
    have m1 : mn x 513 = x := by unfold mn; rw [if_neg (by omega)]
    have b1 : 1 * 1 ≤ a * x := Int.mul_le_mul h1 g1 (by omega) (by omega)
    have b2 : a * x ≤ 513 * 512 := Int.mul_le_mul h2 g2 (by omega) (by omega)
    have m2 : mn (w (a * x)) 513 = min (a * x) 513 := by
      rw [w_id (by omega) (by omega)]; unfold mn; split <;> omega
    rw [List.foldl_cons, m1, m2, capP_eq (fun y hy => h y (.tail _ hy)) (by omega) (by omega)]
    have hp := P_pos (es := xs) fun y hy => (h y (.tail _ hy)).1
    rw [min_mul (by omega) hp (by omega), P, Int.mul_assoc]
structure Ok (p : List api_Bound) : Prop where
  len : p.length ≤ 7
  num : ∀ b, b ∈ p → num b = true
  big : ∀ b, b ∈ p → shapes_extent b ≤ 512
  pos : ∀ b, b ∈ p → 0 ≤ shapes_extent b
  sz : prodE (p.map shapes_extent) ≤ 512
theorem ext_nonneg (b : api_Bound) : 0 ≤ shapes_extent b := by unfold shapes_extent mx; split <;> omega
theorem bErr_ok {p : List api_Bound} (h : bErr p = 0) : Ok p := by
  unfold bErr at h
  split at h
  · cases h
  split at h
  · cases h
  split at h
  · cases h
  split at h
  · cases h
  rename_i h1 h2 h3 h4
  refine ⟨by omega, fun b hb => ?_, fun b hb => ?_, fun b _ => ext_nonneg b, by omega⟩
  · simp only [List.any_eq_true, not_exists, not_and, Bool.not_eq_true', Bool.not_eq_false] at h2
    exact h2 b hb
  · simp only [List.any_eq_true, not_exists, not_and, decide_eq_true_eq] at h3
    have := h3 b hb
    omega
theorem num_range {b : api_Bound} (h : num b = true) : -2147483647 ≤ b.Low ∧ b.Low ≤ 2147483647 ∧ -2147483647 ≤ b.High ∧ b.High ≤ 2147483647 := by
  simp [num, shapes_isNumber, shapes_inside] at h
  omega
theorem ext_num {b : api_Bound} (h : num b = true) : shapes_extent b = max 0 (b.High - b.Low + 1) := by
  have := num_range h
  unfold shapes_extent mx
  rw [w_id (n := b.High - b.Low) (by omega) (by omega), w_id (by omega) (by omega)]
  split <;> omega
theorem prodE_P {xs : List Int} (h : ∀ x, x ∈ xs → 0 ≤ x ∧ x ≤ 512) (hs : prodE xs ≤ 512) : prodE xs = P xs ∧ 0 ≤ P xs := by
  unfold prodE at hs ⊢
  by_cases h0 : xs.any (fun x => 0 == x) = true
  · rw [if_pos h0]
    have : P xs = 0 := P_zero (by
      simp only [List.any_eq_true, beq_iff_eq] at h0
      obtain ⟨x, h1, h2⟩ := h0
      exact ⟨x, h1, h2.symm⟩)
    omega
  · rw [if_neg h0] at hs ⊢
    have hx : ∀ x, x ∈ xs → 1 ≤ x ∧ x ≤ 512 := fun x hx => by
      obtain ⟨h1, h2⟩ := h x hx
      simp only [List.any_eq_true, not_exists, not_and, beq_iff_eq] at h0
      have := h0 x hx
      omega
    have := capP_eq (a := 1) hx (by omega) (by omega)
    unfold capP at hs ⊢
    have hp := P_pos fun x hq => (hx x hq).1
    omega
theorem Ok.size {p : List api_Bound} (h : Ok p) : prodE (p.map shapes_extent) = P (p.map shapes_extent) ∧ 0 ≤ P (p.map shapes_extent) ∧ P (p.map shapes_extent) ≤ 512 := by
  have := prodE_P (xs := p.map shapes_extent) (fun x hx => by
    obtain ⟨b, hb, rfl⟩ := List.mem_map.1 hx
    exact ⟨h.pos b hb, h.big b hb⟩) h.sz
  have hs := h.sz
  omega
def allIn : List api_Bound → List Int → Bool
  | b :: bs, x :: xs => shapes_inside x b.Low b.High && allIn bs xs
  | _, _ => true
def dsOf (bs : List api_Bound) (xs : List Int) : List Int := (xs.zip bs).map fun p => w (p.1 - p.2.Low)
def exs (bs : List api_Bound) : List Int := bs.map shapes_extent
theorem exs_cons {b : api_Bound} {bs : List api_Bound} : exs (b :: bs) = shapes_extent b :: exs bs := rfl
theorem dsOf_cons {b : api_Bound} {bs : List api_Bound} {x : Int} {xs : List Int} : dsOf (b :: bs) (x :: xs) = w (x - b.Low) :: dsOf bs xs := rfl
theorem inside_d {b : api_Bound} {x : Int} (hn : num b = true) (h : shapes_inside x b.Low b.High = true) : w (x - b.Low) = x - b.Low ∧ 0 ≤ x - b.Low ∧ x - b.Low < shapes_extent b := by
  have := num_range hn
  have he := ext_num hn
  simp [shapes_inside] at h
  refine ⟨w_id (by omega) (by omega), by omega, by omega⟩
theorem allIn_base : ∀ {bs : List api_Bound} {xs : List Int}, bs.length = xs.length → (∀ b, b ∈ bs → num b = true) → allIn bs xs = true → inBase (exs bs) (dsOf bs xs)
  | [], [], _, _, _ => trivial
  | b :: bs, x :: xs, hl, hn, h => by
    simp only [allIn, Bool.and_eq_true] at h
    obtain ⟨h1, h2, h3⟩ := inside_d (hn b (.head _)) h.1
    refine ⟨by show 0 ≤ w (x - b.Low); rw [h1]; exact h2, by show w (x - b.Low) < _; rw [h1]; exact h3, allIn_base (by simpa using hl) (fun c hc => hn c (.tail _ hc)) h.2⟩
  | [], _ :: _, hl, _, _ => by cases hl
  | _ :: _, [], hl, _, _ => by cases hl
def str : Int → List Int → List Int
  | _, [] => []
  | s, e :: es => s :: str (w (s * e)) es
theorem str_len : ∀ (es : List Int) (s : Int), (str s es).length = es.length
  | [], s => rfl
  | e :: es, s => by simp [str, str_len es]
theorem str_fold : ∀ (es : List Int) (s : Int) (acc : List Int), (es.foldl (fun (b : Int × List Int) e => (w (b.1 * e), b.2 ++ [b.1])) (s, acc)).2 = acc ++ str s es
  | [], s, acc => by simp [str]
  | e :: es, s, acc => by rw [List.foldl_cons, str_fold es]; simp [str]
theorem strides_eq {p : List Int} (h : p.length < 16777216) : shapes_strides p = some (str 1 p) := by
  unfold shapes_strides
  rw [loop_fold (step := shapes_strides.s1 p) p (fun i (b : Int × List Int) => (b.1, i, b.2)) (fun b => b.2) (fun b e => (w (b.1 * e), b.2 ++ [b.1])) (fun i b => b.2.length = i) (a := (1, [])) rfl ?_ ?_ rfl (by omega)]
  · simp only [Option.bind_some]; rw [str_fold]; rfl
  · intro i hi b hb
    refine ⟨?_, by simp [hb]⟩
    simp only [shapes_strides.s1, lt_len hi, if_true, at_lt hi, Option.bind_some]
    rw [app_one (by omega), wn (by omega)]; rfl
  · intro b _; simp only [shapes_strides.s1, not_lt_len, if_false]
def offF (_ : Nat) (a : Int) (t : Int × api_Bound × Int) : Sum Unit Int := if shapes_inside t.1 t.2.1.Low t.2.1.High = true then .inr (w (a + w (t.2.2 * w (t.1 - t.2.1.Low)))) else .inl ()
theorem scan_off : ∀ (bs : List api_Bound) (xs : List Int) (s a : Int) (i : Nat), bs.length = xs.length → (∀ b, b ∈ bs → num b = true) →
    (allIn bs xs = false → scanE offF i (xs.zip (bs.zip (str s (exs bs)))) a = .inl ()) ∧
    (allIn bs xs = true → 1 ≤ s → s * P (exs bs) ≤ 512 → 0 ≤ a → a + 512 * bs.length ≤ 5000 → scanE offF i (xs.zip (bs.zip (str s (exs bs)))) a = .inr (a + s * H (exs bs) (dsOf bs xs)))
  | [], [], s, a, i, _, _ => ⟨fun h => (by cases h), fun _ _ _ _ _ => by simp [scanE, exs, dsOf, H]⟩
  | [], _ :: _, _, _, _, hl, _ => by cases hl
  | _ :: _, [], _, _, _, hl, _ => by cases hl
  | b :: bs, x :: xs, s, a, i, hl, hn => by
    have ih := fun s a => scan_off bs xs s a (i + 1) (by simpa using hl) (fun c hc => hn c (.tail _ hc))
    simp only [exs_cons, str, List.zip_cons_cons, scanE]
    by_cases hi : shapes_inside x b.Low b.High = true
    · have hf : offF i a (x, b, s) = .inr (w (a + w (s * w (x - b.Low)))) := by unfold offF; rw [if_pos hi]
      rw [hf]
      refine ⟨fun h => (ih _ _).1 (by simpa [allIn, hi] using h), fun h h1 h2 h3 h4 => ?_⟩
      have ha : allIn bs xs = true := by simpa [allIn, hi] using h
      obtain ⟨d1, d2, d3⟩ := inside_d (hn b (.head _)) hi
      have hb := allIn_base (by simpa using hl) (fun c hc => hn c (.tail _ hc)) ha
      have hp : 1 ≤ P (exs bs) := P_pos (inBase_pos hb)
      have e0 : s * P (shapes_extent b :: exs bs) = s * shapes_extent b * P (exs bs) := by simp [P, Int.mul_assoc]
      have e1 : 1 * 1 ≤ s * shapes_extent b := Int.mul_le_mul h1 (by omega) (by omega) (by omega)
      have e2 : s * shapes_extent b * 1 ≤ s * shapes_extent b * P (exs bs) := Int.mul_le_mul_of_nonneg_left hp (by omega)
      have e3 : s * (x - b.Low) ≤ s * shapes_extent b := Int.mul_le_mul_of_nonneg_left (by omega) (by omega)
      have e4 : 0 ≤ s * (x - b.Low) := Int.mul_nonneg (by omega) d2
      rw [e0] at h2
      simp only [List.length_cons] at h4
      have w1 : w (s * shapes_extent b) = s * shapes_extent b := w_id (by omega) (by omega)
      have w2 : w (s * w (x - b.Low)) = s * (x - b.Low) := by rw [d1]; exact w_id (by omega) (by omega)
      have w3 : w (a + s * (x - b.Low)) = a + s * (x - b.Low) := w_id (by omega) (by omega)
      simp only [w1, w2, w3]
      have := (ih (s * shapes_extent b) (a + s * (x - b.Low))).2 ha (by omega) h2 (by omega) (by omega)
      rw [this, dsOf_cons, H, d1, Int.mul_add, ← Int.mul_assoc, Int.add_assoc]
    · have hf : offF i a (x, b, s) = .inl () := by unfold offF; rw [if_neg hi]
      rw [hf]
      exact ⟨fun _ => rfl, fun h => by simp [allIn, hi] at h⟩
def offE (bs : List api_Bound) (xs : List Int) : Int := if bErr bs ≠ 0 then bErr bs else if (xs.length : Int) ≠ (bs.length : Int) then 32 else if allIn bs xs = true then 0 else 33
def off (bs : List api_Bound) (xs : List Int) : Int := H (exs bs) (dsOf bs xs)
end Go.Sh
namespace Go.Sh
open Go.Lx
set_option linter.unusedVariables false
set_option linter.unusedSimpArgs false
theorem extents_eq' {p : List api_Bound} (h : p.length < 16777216) : shapes_extents p = some (exs p) := extents_eq h
theorem refExtents_eq' {p : List api_Bound} (h : p.length < 16777216) : ref15_Extents p = some (exs p) := refExtents_eq h
theorem foldr_place : ∀ {es ds : List Int}, inBase es ds → P es ≤ 512 → (∀ e, e ∈ es → e ≤ 512) → (es.zip ds).foldr (fun (t : Int × Int) b => w (w (b * t.1) + t.2)) 0 = H es ds
  | [], [], _, _, _ => rfl
  | [], _ :: _, h, _, _ => by cases h
  | _ :: _, [], h, _, _ => by cases h
  | e :: es, d :: ds, h, hp, hb => by
    have hpos := inBase_pos h
    have ht := P_tail hpos
    have hr := H_range h
    obtain ⟨h1, h2, h3⟩ := h
    have hq := H_range h3
    rw [List.zip_cons_cons, List.foldr_cons, foldr_place h3 (by omega) (fun x hx => hb x (.tail _ hx))]
    simp only [H] at hr ⊢
    rw [Int.mul_comm e] at hr
    have e0 : 0 ≤ H es ds * e := Int.mul_nonneg hq.1 (by omega)
    have e1 : w (H es ds * e) = H es ds * e := w_id (by omega) (by omega)
    rw [e1, w_id (by omega) (by omega), Int.mul_comm e]
    omega
theorem refPlace_eq {es ds : List Int} (h : inBase es ds) (hp : P es ≤ 512) (hb : ∀ e, e ∈ es → e ≤ 512) (hl : es.length = ds.length) (hn : es.length < 16777216) : ref15_Place es ds = some (H es ds) := by
  unfold ref15_Place
  have hlen : (es.zip ds).reverse.length = es.length := by simp; omega
  rw [loop_fold (step := ref15_Place.s1 es ds) (es.zip ds).reverse (fun i (b : Int) => (b, (es.length : Int) - 1 - i)) (fun b => b) (fun b (t : Int × Int) => w (w (b * t.1) + t.2)) (fun _ _ => True) (a := 0) (by rw [w_id (by omega) (by omega)]; simp) ?_ ?_ trivial (by omega)]
  · rw [List.foldl_reverse, foldr_place h hp hb]; rfl
  · intro i hi b _
    refine ⟨?_, trivial⟩
    rw [hlen] at hi
    have c : ((es.length : Int) - 1 - (i : Int)) = ((es.length - 1 - i : Nat) : Int) := by omega
    have k : es.length - 1 - i < es.length := by omega
    have k2 : es.length - 1 - i < ds.length := by omega
    simp only [ref15_Place.s1, c]
    rw [if_pos (by omega), at_lt k, at_lt k2]
    simp only [Option.bind_some]
    have hz : (es.zip ds).reverse[i]'(by omega) = (es[es.length - 1 - i], ds[es.length - 1 - i]) := by
      rw [List.getElem_reverse]
      simp only [List.getElem_zip, List.length_zip]
      have : min es.length ds.length - 1 - i = es.length - 1 - i := by omega
      simp only [this]
    rw [hz]
    have e2 : w (((es.length - 1 - i : Nat) : Int) - 1) = (es.length : Int) - 1 - ((i + 1 : Nat) : Int) := by rw [w_id (by omega) (by omega)]; omega
    rw [e2]
  · intro b _
    rw [hlen]
    simp only [ref15_Place.s1]
    rw [if_neg (by omega)]
theorem refOffset_eq {bs : List api_Bound} {xs : List Int} (h : offE bs xs = 0) : ref15_Offset bs xs = some (off bs xs) := by
  unfold offE at h
  split at h
  · rename_i hb; exact absurd h hb
  rename_i hb
  split at h
  · cases h
  rename_i hl
  split at h
  · rename_i ha
    have ok := bErr_ok (Classical.not_not.1 hb)
    have hl7 := ok.len
    have hll : bs.length = xs.length := by omega
    have hlen : (xs.zip bs).length = bs.length := by simp; omega
    unfold ref15_Offset
    rw [loop_map (step := ref15_Offset.s1 bs xs) (xs.zip bs) (fun p => w (p.1 - p.2.Low)) (fun i b => (i, b)) (fun b => b) rfl ?_ ?_ (by omega)]
    · simp only [Option.bind_some]
      rw [refExtents_eq' (by omega)]
      simp only [Option.bind_some]
      have hsz := ok.size
      show ((ref15_Place (exs bs) (dsOf bs xs)).bind fun x8 => some x8) = _
      rw [refPlace_eq (es := exs bs) (ds := dsOf bs xs) (allIn_base hll ok.num ha) hsz.2.2 (fun e he => by obtain ⟨b, hb, rfl⟩ := List.mem_map.1 he; exact ok.big b hb) (by simp [exs, dsOf]; omega) (by simp [exs]; omega)]
      rfl
    · intro i hi b hbl
      rw [hlen] at hi
      have h1 : i < xs.length := by omega
      simp only [ref15_Offset.s1, lt_len hi, if_true, at_lt hi, at_lt h1, Option.bind_some, List.getElem_zip]
      rw [app_one (by omega), wn (by omega)]; rfl
    · intro b; rw [hlen]; simp only [ref15_Offset.s1, not_lt_len, if_false]
  · cases h
theorem dig_fold : ∀ (es : List Int) (n : Int) (acc : List Int), (es.foldl (fun (b : Int × List Int) e => (b.1 / e, b.2 ++ [b.1 % e])) (n, acc)).2 = acc ++ dig es n
  | [], n, acc => by simp [dig]
  | e :: es, n, acc => by rw [List.foldl_cons, dig_fold es]; simp [dig]
theorem div_ok {n e : Int} (hn : 0 ≤ n) (hb : n ≤ 4611686018427387904) (he : 1 ≤ e) : rem n e = some (n % e) ∧ quo .i64 n e = some (n / e) ∧ 0 ≤ n / e ∧ n / e ≤ n := by
  have h0 : ¬ e = 0 := by omega
  have h1 : 0 ≤ n / e := Int.ediv_nonneg hn (by omega)
  have h2 : n / e ≤ n := Int.ediv_le_self e hn
  refine ⟨by unfold rem; rw [if_neg h0, Int.tmod_eq_emod_of_nonneg hn], ?_, h1, h2⟩
  unfold quo
  rw [if_neg h0, Int.tdiv_eq_ediv_of_nonneg hn]
  exact congrArg some (w_id (n := n / e) (by omega) (by omega))
theorem digits_eq {es : List Int} {n : Int} (h : ∀ e, e ∈ es → 1 ≤ e) (h0 : 0 ≤ n) (hb : n ≤ 4611686018427387904) (hl : es.length < 16777216) : shapes_digits es n = some (dig es n) := by
  unfold shapes_digits
  rw [loop_fold (step := shapes_digits.s1 es) es (fun i (b : Int × List Int) => (b.1, i, b.2)) (fun b => b.2) (fun b e => (b.1 / e, b.2 ++ [b.1 % e])) (fun i b => b.2.length = i ∧ 0 ≤ b.1 ∧ b.1 ≤ 4611686018427387904) (a := (n, [])) rfl ?_ ?_ ⟨rfl, h0, hb⟩ (by omega)]
  · simp only [Option.bind_some]; rw [dig_fold]; rfl
  · rintro i hi b ⟨k1, k2, k3⟩
    obtain ⟨d1, d2, d3, d4⟩ := div_ok k2 k3 (h es[i] (List.getElem_mem hi))
    refine ⟨?_, by simp [k1], d3, by simp only; omega⟩
    simp only [shapes_digits.s1, lt_len hi, if_true, at_lt hi, Option.bind_some, d1, d2]
    rw [app_one (by omega), wn (by omega)]; rfl
  · intro b _; simp only [shapes_digits.s1, not_lt_len, if_false]
theorem refIndexes_eq {es : List Int} {n : Int} (h : ∀ e, e ∈ es → 1 ≤ e) (h0 : 0 ≤ n) (hb : n ≤ 4611686018427387904) (hl : es.length < 16777216) : ref15_Indexes es n = some (dig es n) := by
  unfold ref15_Indexes
  rw [loop_fold (step := ref15_Indexes.s1 es) es (fun i (b : Int × List Int) => (b.1, i, b.2)) (fun b => b.2) (fun b e => (b.1 / e, b.2 ++ [b.1 % e])) (fun i b => b.2.length = i ∧ 0 ≤ b.1 ∧ b.1 ≤ 4611686018427387904) (a := (n, [])) rfl ?_ ?_ ⟨rfl, h0, hb⟩ (by omega)]
  · simp only [Option.bind_some]; rw [dig_fold]; rfl
  · rintro i hi b ⟨k1, k2, k3⟩
    obtain ⟨d1, d2, d3, d4⟩ := div_ok k2 k3 (h es[i] (List.getElem_mem hi))
    refine ⟨?_, by simp [k1], d3, by simp only; omega⟩
    simp only [ref15_Indexes.s1, lt_len hi, if_true, at_lt hi, Option.bind_some, d1, d2]
    rw [app_one (by omega)]
    simp only [Option.bind_some]
    rw [wn (by omega)]
  · intro b _; simp only [ref15_Indexes.s1, not_lt_len, if_false]
end Go.Sh
namespace Go.Sh
open Go.Lx
set_option linter.unusedVariables false
set_option linter.unusedSimpArgs false
def badEl (xs : List Int) : Sum Nat Unit := scanE (fun i b x => if shapes_isInteger x = true then .inr b else .inl i) 0 xs ()
def chk (a : api_Array) : Int × Int :=
  if bErr a.Bounds ≠ 0 then (0, bErr a.Bounds)
  else if (a.Elements.length : Int) ≠ prodE (exs a.Bounds) then (0, 10)
  else match badEl a.Elements with | .inl i => ((i : Int), 2) | .inr _ => (0, 0)
theorem isInteger_eq (x : Int) : ref15_IsInteger x = shapes_isInteger x := by unfold ref15_IsInteger shapes_isInteger; exact within_eq _ _ _
theorem checkArray_eq {a : api_Array} (h : a.Elements.length < 16777216) : shapes_CheckArray a = some (chk a) := by
  unfold shapes_CheckArray chk
  rw [boundsErr_eq]
  simp only [Option.bind_some]
  by_cases hb : bErr a.Bounds = 0
  · have hl7 := (bErr_ok hb).len
    simp only [hb, not_true, if_false, ne_eq]
    rw [size_eq (by omega)]
    simp only [Option.bind_some]
    by_cases hl : (a.Elements.length : Int) = prodE (exs a.Bounds)
    · have hl' : (a.Elements.length : Int) = prodE (a.Bounds.map shapes_extent) := hl
      simp only [hl', hl, not_true, if_false]
      unfold shapes_firstBad_int__shapes_CheckArray_c1
      rw [loop_scan (step := shapes_firstBad_int__shapes_CheckArray_c1.s1 a.Elements) a.Elements (fun i (_ : Unit) => i) (fun k : Nat => Sum.inr ((k : Int), 2)) (fun _ => Sum.inl ()) (fun i b x => if shapes_isInteger x = true then .inr b else .inl i) (fun _ _ => True) (a := ()) rfl ?_ ?_ trivial (by omega)]
      · unfold badEl
        cases scanE (fun i b x => if shapes_isInteger x = true then Sum.inr b else Sum.inl i) 0 a.Elements () <;> simp [hl, exs]
      · intro i hi b _
        refine ⟨?_, fun _ _ => trivial⟩
        simp only [shapes_firstBad_int__shapes_CheckArray_c1.s1, lt_len hi, if_true, at_lt hi, Option.bind_some, shapes_CheckArray_c1, broken1]
        by_cases hq : shapes_isInteger a.Elements[i] = true
        · simp only [hq, if_true, not_true, if_false]; rw [wn (by omega)]
        · simp only [hq, if_false, Bool.false_eq_true]; simp
      · intro b _; simp only [shapes_firstBad_int__shapes_CheckArray_c1.s1, not_lt_len, if_false]
    · have hl' : ¬ (a.Elements.length : Int) = prodE (a.Bounds.map shapes_extent) := hl
      simp [hl', hl, exs]
  · simp [hb]
theorem refCheck_eq {a : api_Array} (h : a.Elements.length < 16777216) : ref15_Check a = some (chk a) := by
  unfold ref15_Check chk
  rw [refBoundsErr_eq]
  simp only [Option.bind_some]
  by_cases hb : bErr a.Bounds = 0
  · have hl7 := (bErr_ok hb).len
    simp only [hb, not_true, if_false, ne_eq]
    rw [refExtents_eq' (by omega)]
    simp only [Option.bind_some]
    rw [refProduct_eq (by simp [exs]; omega)]
    simp only [Option.bind_some]
    by_cases hl : (a.Elements.length : Int) = prodE (exs a.Bounds)
    · simp only [hl, not_true, if_false]
      rw [loop_scan (step := ref15_Check.s1 a) a.Elements (fun i (_ : Unit) => i) (fun k : Nat => Sum.inr ((k : Int), 2)) (fun _ => Sum.inl ()) (fun i b x => if shapes_isInteger x = true then .inr b else .inl i) (fun _ _ => True) (a := ()) rfl ?_ ?_ trivial (by omega)]
      · unfold badEl
        cases scanE (fun i b x => if shapes_isInteger x = true then Sum.inr b else Sum.inl i) 0 a.Elements () <;> rfl
      · intro i hi b _
        refine ⟨?_, fun _ _ => trivial⟩
        simp only [ref15_Check.s1, lt_len hi, if_true, at_lt hi, Option.bind_some, isInteger_eq]
        by_cases hq : shapes_isInteger a.Elements[i] = true
        · simp only [hq, if_true, not_true, if_false]; rw [wn (by omega)]
        · simp only [hq, if_false, Bool.false_eq_true, not_false_eq_true, if_true]
      · intro b _; simp only [ref15_Check.s1, not_lt_len, if_false]
    · simp [hl]
  · simp [hb]
theorem refErr_eq {a : api_Array} (h : a.Elements.length < 16777216) : ref15_Err a = some (chk a).2 := by
  unfold ref15_Err; rw [refCheck_eq h]; rfl
theorem refCopy_eq {a : api_Array} (h1 : a.Bounds.length ≤ 16777216) (h : a.Elements.length < 16777216) : ref15_Copy a = some a := by
  unfold ref15_Copy; rw [copyBounds_eq h1, copyInts_eq (by omega)]; rfl
theorem arraysErr2 {a b : api_Array} (ha : a.Elements.length < 16777216) (hb : b.Elements.length < 16777216) : shapes_arraysErr [a, b] = some (if (chk a).2 = 0 then (chk b).2 else (chk a).2) := by
  unfold shapes_arraysErr
  rw [loop_find (step := shapes_arraysErr.s1 [a, b]) [a, b] (fun x => if (chk x).2 = 0 then none else some (chk x).2) (fun c => Sum.inr c) (Sum.inl ()) rfl ?_ ?_ (by simp)]
  · by_cases h1 : (chk a).2 = 0
    · by_cases h2 : (chk b).2 = 0
      · simp [h1, h2]
      · simp [h1, h2]
    · simp [h1]
  · intro i hi
    have hx : [a, b][i].Elements.length < 16777216 := by
      match i, hi with
      | 0, _ => exact ha
      | 1, _ => exact hb
    simp only [shapes_arraysErr.s1, lt_len hi, if_true, at_lt hi, Option.bind_some, checkArray_eq hx]
    by_cases e : (chk [a, b][i]).2 = 0
    · simp only [e, not_true, if_false, if_true]; rw [wn (by simp at hi; omega)]
    · simp only [e, not_false_eq_true, if_true, if_false]
  · simp only [shapes_arraysErr.s1, not_lt_len, if_false]
theorem equal_eq {a b : List Int} (h : a.length < 16777216) : slices_Equal_int a b = some (a == b) := by
  unfold slices_Equal_int
  by_cases hl : (a.length : Int) = (b.length : Int)
  · have hll : a.length = b.length := by omega
    simp only [hl, not_true, if_false]
    have hlen : (a.zip b).length = a.length := by simp; omega
    rw [loop_find (step := slices_Equal_int.s1 a b) (a.zip b) (fun p => if (!(p.1 == p.2)) = true then some false else none) (fun c => Sum.inr c) (Sum.inl ()) rfl ?_ ?_ (by omega), findSome_const]
    · have key : ∀ (a b : List Int), a.length = b.length → ((a.zip b).any fun p => !(p.1 == p.2)) = !(a == b) := by
        intro a
        induction a with
        | nil => intro b hb; cases b with | nil => rfl | cons => cases hb
        | cons x a ih =>
          intro b hb
          cases b with
          | nil => cases hb
          | cons y b =>
            simp only [List.zip_cons_cons, List.any_cons, ih b (by simpa using hb)]
            by_cases e : x = y
            · subst e; simp
            · have e1 : (x == y) = false := by simpa using e
              simp [e1, e]
      rw [key a b hll]
      cases a == b <;> rfl
    · intro i hi
      rw [hlen] at hi
      have h1 : i < b.length := by omega
      simp only [slices_Equal_int.s1, lt_len hi, if_true, at_lt hi, at_lt h1, Option.bind_some, List.getElem_zip]
      by_cases hq : a[i] = b[i]
      · simp only [hq, not_true, if_false, beq_self_eq_true, Bool.not_true, Bool.false_eq_true]; rw [wn (by omega)]
      · have : (a[i] == b[i]) = false := by simpa using hq
        simp only [hq, not_false_eq_true, if_true, this, Bool.not_false]
    · rw [hlen]; simp only [slices_Equal_int.s1, not_lt_len, if_false]
  · have : a ≠ b := fun q => hl (by rw [q])
    simp [hl, this]
theorem few_ok {a : api_Array} (h : law15_few a = true) : a.Bounds.length ≤ 9 ∧ a.Elements.length ≤ 80 := by
  unfold law15_few at h
  simp at h
  omega
end Go.Sh
namespace Go.Sh
open Go.Lx
set_option linter.unusedVariables false
set_option linter.unusedSimpArgs false
theorem broken3 (a b c : Bool) : shapes_broken [shapes_rule.mk a 3, shapes_rule.mk b 11, shapes_rule.mk c 2] = some (if a = true then (if b = true then (if c = true then 0 else 2) else 11) else 3) := by
  cases a <;> cases b <;> cases c <;> decide +kernel
def flds (s : api_Subscript) : Bool := (((s.Kind != 2) || (s.Low == 0)) && ((s.Kind == 1) || ((s.High == 0) && (s.Step == 0)))) && ((s.Kind == 2) || ((s.List.length : Int) == 0))
def nums (s : api_Subscript) : Bool := shapes_isNumber s.Low && shapes_isNumber s.High && shapes_isNumber s.Step
def sErr (s : api_Subscript) : Int := if ¬ shapes_inside s.Kind 0 2 = true then 15 else if flds s = false then 3 else if (s.Kind == 1 && s.Step == 0) = true then 11 else if nums s = true then 0 else 2
theorem subscriptErr_eq (s : api_Subscript) : shapes_subscriptErr s = some (sErr s) := by
  unfold shapes_subscriptErr sErr
  have hf : ((((s.Kind != 2) || (s.Low == 0)) && ((s.Kind == 1) || ((s.High == 0) && (s.Step == 0)))) && ((s.Kind == 2) || ((s.List.length : Int) == 0))) = flds s := rfl
  simp only [hf, broken3]
  by_cases hk : shapes_inside s.Kind 0 2 = true
  · simp only [hk, not_true, if_false]
    unfold nums
    cases flds s
    · simp only [Bool.false_eq_true, if_false, if_true, Option.bind_some]
      repeat' split
      all_goals rfl
    · by_cases h1 : s.Kind = 1
      · by_cases h2 : s.Step = 0
        · simp [h1, h2]
        · by_cases h3 : shapes_isNumber s.Low = true
          · by_cases h4 : shapes_isNumber s.High = true
            · by_cases h5 : shapes_isNumber s.Step = true <;> simp [h1, h2, h3, h4, h5]
            · simp [h1, h2, h3, h4]
          · simp [h1, h2, h3]
      · by_cases h3 : shapes_isNumber s.Low = true
        · by_cases h4 : shapes_isNumber s.High = true
          · by_cases h5 : shapes_isNumber s.Step = true <;> simp [h1, h3, h4, h5]
          · simp [h1, h3, h4]
        · simp [h1, h3]
  · simp only [hk, not_false_eq_true, if_true, Bool.false_eq_true]
theorem tdiv_range {a b : Int} (hb : 1 ≤ b) : -(a.natAbs : Int) ≤ a.tdiv b ∧ a.tdiv b ≤ a.natAbs := by
  rcases Int.le_total 0 a with h | h
  · rw [Int.tdiv_eq_ediv_of_nonneg h]
    have h1 : 0 ≤ a / b := Int.ediv_nonneg h (by omega)
    have h2 : a / b ≤ a := Int.ediv_le_self b h
    omega
  · have e : a.tdiv b = -((-a).tdiv b) := by rw [Int.neg_tdiv]; omega
    rw [e, Int.tdiv_eq_ediv_of_nonneg (by omega)]
    have h1 : 0 ≤ (-a) / b := Int.ediv_nonneg (by omega) (by omega)
    have h2 : (-a) / b ≤ -a := Int.ediv_le_self b (by omega)
    omega
theorem quo_eq {a b : Int} (ha : -1099511627776 ≤ a ∧ a ≤ 1099511627776) (hb : 1 ≤ b) : quo .i64 a b = some (a.tdiv b) := by
  have := tdiv_range (a := a) hb
  unfold quo
  rw [if_neg (by omega)]
  exact congrArg some (w_id (n := a.tdiv b) (by omega) (by omega))
theorem floor_eq {a b : Int} (ha : -1099511627776 ≤ a ∧ a ≤ 1099511627776) (hb : 1 ≤ b) : base_Floor a b = some (a / b) := by
  unfold base_Floor
  rw [quo_eq ha hb]
  have hr : rem a b = some (a.tmod b) := by unfold rem; rw [if_neg (by omega)]
  rw [hr]
  simp only [Option.bind_some]
  have t := tdiv_range (a := a) hb
  have e1 := Int.tdiv_eq_ediv (a := a) (b := b)
  have e2 := Int.tmod_eq_emod (a := a) (b := b)
  have m1 := Int.emod_nonneg a (b := b) (by omega)
  have m2 := Int.emod_lt_of_pos a (b := b) (by omega)
  have sg : b.sign = 1 := Int.sign_eq_one_of_pos (by omega)
  have nb : (b.natAbs : Int) = b := by omega
  unfold base_Bit
  by_cases hd : 0 ≤ a ∨ b ∣ a
  · rw [if_pos hd] at e1 e2
    have : ¬ a.tmod b < 0 := by omega
    simp only [this, decide_false, Bool.false_eq_true, if_false]
    rw [w_id (by omega) (by omega)]
    exact congrArg some (by omega)
  · rw [if_neg hd] at e1 e2
    have : a.tmod b < 0 := by omega
    simp only [this, decide_true, if_true]
    rw [w_id (by omega) (by omega)]
    exact congrArg some (by omega)
def cnt (s : api_Subscript) : Int := if s.Step < 0 then max 0 ((s.Low - s.High) / (-s.Step) + 1) else max 0 ((s.High - s.Low) / s.Step + 1)
theorem nums_range {s : api_Subscript} (h : nums s = true) : (-2147483647 ≤ s.Low ∧ s.Low ≤ 2147483647) ∧ (-2147483647 ≤ s.High ∧ s.High ≤ 2147483647) ∧ (-2147483647 ≤ s.Step ∧ s.Step ≤ 2147483647) := by
  simp [nums, shapes_isNumber, shapes_inside] at h
  omega
theorem mx_max {a : Int} : mx 0 a = max 0 a := by unfold mx; split <;> omega
theorem count_arith {d s : Int} (hs : 1 ≤ s) : max 0 ((d + s).tdiv s) = max 0 (d / s + 1) := by
  have e : (d + s) / s = d / s + 1 := Int.add_ediv_of_dvd_right (Int.dvd_refl s) |>.trans (by rw [Int.ediv_self (by omega)])
  rcases Int.le_total 0 (d + s) with h | h
  · rw [Int.tdiv_eq_ediv_of_nonneg h, e]
  · have e1 : (d + s).tdiv s = -((-(d + s)).tdiv s) := by rw [Int.neg_tdiv]; omega
    have e2 : 0 ≤ (-(d + s)).tdiv s := by rw [Int.tdiv_eq_ediv_of_nonneg (by omega)]; exact Int.ediv_nonneg (by omega) (by omega)
    have e3 : (d + s) / s ≤ 0 := by
      have := Int.ediv_le_ediv (a := d + s) (b := 0) (c := s) (by omega) h
      simpa using this
    omega
theorem count_eq {s : api_Subscript} (h : nums s = true) (hs : s.Step ≠ 0) : shapes_count s = some (cnt s) := by
  obtain ⟨r1, r2, r3⟩ := nums_range h
  unfold shapes_count cnt
  by_cases hp : s.Step > 0
  · rw [if_pos hp, if_neg (by omega)]
    rw [w_id (n := s.High - s.Low) (by omega) (by omega), w_id (by omega) (by omega), quo_eq (by omega) (by omega)]
    simp only [Option.bind_some]
    rw [mx_max, count_arith (by omega)]
  · rw [if_neg hp, if_pos (by omega)]
    rw [w_id (n := s.Low - s.High) (by omega) (by omega), w_id (by omega) (by omega), w_id (n := 0 - s.Step) (by omega) (by omega), quo_eq (by omega) (by omega)]
    simp only [Option.bind_some]
    have e : s.Low - s.High - s.Step = s.Low - s.High + -s.Step := by omega
    have e' : 0 - s.Step = -s.Step := by omega
    rw [mx_max, e, e', count_arith (by omega)]
theorem cnt_range {s : api_Subscript} (h : nums s = true) (hs : s.Step ≠ 0) : 0 ≤ cnt s := by unfold cnt; split <;> omega
def idxs (s : api_Subscript) : List Int := if s.Kind = 0 then [s.Low] else if s.Kind = 1 then (List.range (cnt s).toNat).map (fun i : Nat => w (s.Low + w ((i : Int) * s.Step))) else s.List
def sel (b : api_Bound) (s : api_Subscript) : List Int × Int :=
  if sErr s ≠ 0 then ([], sErr s)
  else if s.Kind = 1 ∧ cnt s > 512 then ([], 8)
  else if s.Kind = 2 ∧ (s.List.length : Int) > 512 then ([], 8)
  else if (idxs s).any (fun x => !shapes_inside x b.Low b.High) = true then ([], 33)
  else (idxs s, 0)
theorem indexes_j (b : api_Bound) {l : List Int} (h : l.length < 16777216) : shapes_indexes.j1 b l = some (if l.any (fun x => !shapes_inside x b.Low b.High) = true then ([], 33) else (l, 0)) := by
  unfold shapes_indexes.j1 slices_ContainsFunc_int__shapes_indexes_c1 slices_IndexFunc_int__shapes_indexes_c1
  obtain ⟨k, hk⟩ := loop_any (step := slices_IndexFunc_int__shapes_indexes_c1.s1 l b.Low b.High) l (fun x => !shapes_inside x b.Low b.High) (fun i => Sum.inr i) (Sum.inl ()) (s := 0) rfl (fun i hi => by
    simp only [slices_IndexFunc_int__shapes_indexes_c1.s1, lt_len hi, if_true, at_lt hi, Option.bind_some]
    have e1 : shapes_indexes_c1 l[i] b.Low b.High = !shapes_inside l[i] b.Low b.High := rfl
    rw [wn (by omega), e1]
    by_cases hq : (!shapes_inside l[i] b.Low b.High) = true
    · rw [if_pos hq, if_pos hq]
    · rw [if_neg hq, if_neg hq]) (by simp only [slices_IndexFunc_int__shapes_indexes_c1.s1, not_lt_len, if_false]) (by omega)
  rw [hk]
  by_cases e : l.any (fun x => !shapes_inside x b.Low b.High) = true
  · rw [if_pos e, if_pos e]; simp
  · rw [if_neg e, if_neg e]; rfl
theorem selected_j (b : api_Bound) {l : List Int} (h : l.length < 16777216) : ref15_Selected.j1 b l = some (if l.any (fun x => !shapes_inside x b.Low b.High) = true then ([], 33) else (l, 0)) := by
  unfold ref15_Selected.j1
  rw [loop_find (step := ref15_Selected.s2 b l) l (fun x => if (!shapes_inside x b.Low b.High) = true then some (([] : List Int), (33 : Int)) else none) (fun c => Sum.inr c) (Sum.inl ()) rfl ?_ ?_ (by omega), findSome_const]
  · by_cases e : l.any (fun x => !shapes_inside x b.Low b.High) = true
    · rw [if_pos e, if_pos e]; rfl
    · rw [if_neg e, if_neg e]; rfl
  · intro i hi
    simp only [ref15_Selected.s2, lt_len hi, if_true, at_lt hi, Option.bind_some, within_eq]
    by_cases hq : shapes_inside l[i] b.Low b.High = true
    · simp only [hq, not_true, if_false, Bool.not_true, Bool.false_eq_true]; rw [wn (by omega)]
    · simp only [hq, not_false_eq_true, if_true, Bool.not_false, Bool.false_eq_true]
  · simp only [ref15_Selected.s2, not_lt_len, if_false]
theorem range_loop {τ : Type} {step : Int × List Int → Option (Sum (Int × List Int) τ)} (n : Int) (g : Nat → Int) (fin : List Int → τ) (h0 : 0 ≤ n) (hn : n < 16777216)
    (h : ∀ i : Nat, (i : Int) < n → ∀ b : List Int, b.length = i → step (i, b) = some (.inl (((i + 1 : Nat) : Int), b ++ [g i]))) (hend : ∀ b, step (n, b) = some (.inr (fin b))) :
    loopO step (0, []) = some (fin ((List.range n.toNat).map g)) := by
  have hl : (List.range n.toNat).length = n.toNat := by simp
  have hc : ((List.range n.toNat).length : Int) = n := by rw [hl]; omega
  refine loop_map (step := step) (List.range n.toNat) g (fun i b => (i, b)) fin rfl ?_ ?_ (by omega)
  · intro i hi b hb
    have : (List.range n.toNat)[i] = i := by simp
    rw [this]
    exact h i (by omega) b hb
  · intro b; rw [hc]; exact hend b
theorem kind_cases {s : api_Subscript} (h : sErr s = 0) : (s.Kind = 0 ∨ s.Kind = 1 ∨ s.Kind = 2) ∧ flds s = true ∧ (s.Kind = 1 → s.Step ≠ 0) ∧ nums s = true := by
  unfold sErr at h
  split at h
  · cases h
  rename_i h1
  split at h
  · cases h
  rename_i h2
  split at h
  · cases h
  rename_i h3
  split at h
  · rename_i h4
    refine ⟨?_, by simpa using h2, ?_, h4⟩
    · simp [shapes_inside] at h1; omega
    · intro q1 q2; exact h3 (by simp [q1, q2])
  · cases h
theorem indexes_eq (b : api_Bound) (s : api_Subscript) (hl : s.List.length < 16777216) : shapes_indexes b s = some (sel b s) := by
  unfold shapes_indexes sel
  rw [subscriptErr_eq]
  simp only [Option.bind_some]
  by_cases he : sErr s = 0
  · obtain ⟨hk, hf, hs, hn⟩ := kind_cases he
    simp only [he, not_true, if_false, ne_eq]
    unfold idxs
    rcases hk with k | k | k
    · simp only [k, if_true]
      rw [indexes_j b (by simp)]
      simp
    · have hz := hs k
      simp only [k, if_true, show ¬ (1 : Int) = 0 by decide, if_false, show ¬ (1 : Int) = 2 by decide, false_and, true_and]
      rw [count_eq hn hz]
      simp only [Option.bind_some]
      by_cases hc : cnt s > 512
      · simp only [hc, if_true]
      · simp only [hc, if_false]
        rw [range_loop (step := shapes_indexes.s2 s (cnt s)) (cnt s) (fun i : Nat => w (s.Low + w ((i : Int) * s.Step))) (fun b => b) (cnt_range hn hz) (by omega) ?_ ?_]
        · simp only [Option.bind_some]
          rw [indexes_j b (by simp; omega)]
        · intro i hi b hb
          simp only [shapes_indexes.s2, hi, if_true]
          rw [app_one (by omega)]
          simp only [Option.bind_some]
          rw [wn (by omega)]
        · intro b; simp only [shapes_indexes.s2, Int.lt_irrefl, if_false]
    · simp only [k, show ¬ (2 : Int) = 0 by decide, if_false, show ¬ (2 : Int) = 1 by decide, false_and, true_and]
      by_cases hc : (s.List.length : Int) > 512
      · simp only [hc, if_true]
      · simp only [hc, if_false]
        unfold slices_Clone_int
        rw [app_nil (by omega)]
        simp only [Option.bind_some]
        rw [indexes_j b (by omega)]
  · simp [he]
theorem fld_ref (s : api_Subscript) : ((((s.Kind != 1) && ((s.High != 0) || (s.Step != 0))) || ((s.Kind == 2) && (s.Low != 0))) || ((s.Kind != 2) && (decide ((s.List.length : Int) > 0)))) = !flds s := by
  unfold flds
  have e : decide ((s.List.length : Int) > 0) = !((s.List.length : Int) == 0) := by
    by_cases h : (s.List.length : Int) = 0
    · simp [h]
    · have h1 : (s.List.length : Int) > 0 := by omega
      have h2 : ((s.List.length : Int) == 0) = false := by simpa using h
      rw [h2, decide_eq_true h1]; rfl
  rw [e]
  simp only [bne]
  generalize (s.Kind == 1) = a
  generalize (s.Kind == 2) = b
  generalize (s.High == 0) = c
  generalize (s.Step == 0) = d
  generalize (s.Low == 0) = f
  generalize ((s.List.length : Int) == 0) = g
  cases a <;> cases b <;> cases c <;> cases d <;> cases f <;> cases g <;> rfl
theorem selected_eq (b : api_Bound) (s : api_Subscript) (hl : s.List.length < 16777216) : ref15_Selected b s = some (if num b = true then sel b s else ([], 2)) := by
  unfold ref15_Selected
  rw [fld_ref]
  simp only [within_eq, ref15_isBound]
  have hb : ((!(shapes_inside b.Low (-2147483647) 2147483647)) || (!(shapes_inside b.High (-2147483647) 2147483647))) = !num b := by unfold num shapes_isNumber; simp
  have hs : (((!(shapes_inside s.Low (-2147483647) 2147483647)) || (!(shapes_inside s.High (-2147483647) 2147483647))) || (!(shapes_inside s.Step (-2147483647) 2147483647))) = !nums s := by unfold nums shapes_isNumber; simp
  rw [hb, hs]
  by_cases hn : num b = true
  · simp only [hn, Bool.not_true, Bool.false_eq_true, if_false, if_true]
    unfold sel
    by_cases he : sErr s = 0
    · obtain ⟨hk, hf, hst, hnn⟩ := kind_cases he
      have hin : shapes_inside s.Kind 0 2 = true := by simp [shapes_inside]; omega
      have hks : ((s.Kind == 1) && (s.Step == 0)) = false := by
        by_cases k : s.Kind = 1
        · simp [k, hst k]
        · simp [k]
      simp only [hin, not_true, if_false, hf, Bool.not_true, Bool.false_eq_true, hks, hnn, he, ne_eq]
      unfold idxs
      obtain ⟨r1, r2, r3⟩ := nums_range hnn
      rcases hk with k | k | k
      · simp only [k, if_true]
        rw [selected_j b (by simp)]
        simp
      · have hz := hst k
        simp only [k, if_true, show ¬ (1 : Int) = 0 by decide, if_false, show ¬ (1 : Int) = 2 by decide, false_and, true_and]
        have j3 : ref15_Selected.j3 b s (cnt s) = some (if cnt s > 512 then ([], 8) else if ((List.range (cnt s).toNat).map (fun i : Nat => w (s.Low + w ((i : Int) * s.Step)))).any (fun x => !shapes_inside x b.Low b.High) = true then ([], 33) else ((List.range (cnt s).toNat).map (fun i : Nat => w (s.Low + w ((i : Int) * s.Step))), 0)) := by
          unfold ref15_Selected.j3
          by_cases hc : cnt s > 512
          · simp only [hc, if_true]
          · simp only [hc, if_false]
            rw [range_loop (step := ref15_Selected.s4 s (cnt s)) (cnt s) (fun i : Nat => w (s.Low + w ((i : Int) * s.Step))) (fun b => b) (cnt_range hnn hz) (by omega) ?_ ?_]
            · simp only [Option.bind_some]
              rw [selected_j b (by simp; omega)]
            · intro i hi b hb
              simp only [ref15_Selected.s4, hi, if_true]
              rw [app_one (by omega)]
              simp only [Option.bind_some]
              rw [wn (by omega)]
            · intro b; simp only [ref15_Selected.s4, Int.lt_irrefl, if_false]
        have sz : base_Size s.Step = if s.Step < 0 then -s.Step else s.Step := by
          unfold base_Size
          split
          · rw [w_id (by omega) (by omega)]; omega
          · rfl
        have sz1 : 1 ≤ base_Size s.Step ∧ base_Size s.Step ≤ 2147483647 := by rw [sz]; split <;> omega
        rw [w_id (n := s.High - s.Low) (by omega) (by omega), w_id (n := s.Low - s.High) (by omega) (by omega), floor_eq (by omega) (by omega), floor_eq (by omega) (by omega)]
        simp only [Option.bind_some]
        have div_le : ∀ a : Int, -4294967296 ≤ a → a ≤ 4294967296 → -4294967297 ≤ a / base_Size s.Step ∧ a / base_Size s.Step ≤ 4294967296 := by
          intro a h1 h2
          refine ⟨?_, ?_⟩
          · have : (-4294967297) * base_Size s.Step ≤ a := by
              have := Int.mul_le_mul_of_nonneg_left (a := 1) (b := base_Size s.Step) (c := 4294967297) sz1.1 (by omega)
              omega
            exact (Int.le_ediv_iff_mul_le (by omega)).2 this
          · have : a / base_Size s.Step < 4294967297 := Int.ediv_lt_of_lt_mul (by omega) (by
              have := Int.mul_le_mul_of_nonneg_left (a := 1) (b := base_Size s.Step) (c := 4294967297) sz1.1 (by omega)
              omega)
            omega
        have d1 := div_le (s.High - s.Low) (by omega) (by omega)
        have d2 := div_le (s.Low - s.High) (by omega) (by omega)
        rw [w_id (n := (s.High - s.Low) / base_Size s.Step + 1) (by omega) (by omega), w_id (n := (s.Low - s.High) / base_Size s.Step + 1) (by omega) (by omega), mx_max, mx_max]
        by_cases hneg : s.Step < 0
        · rw [if_pos hneg]
          have : max 0 ((s.Low - s.High) / base_Size s.Step + 1) = cnt s := by unfold cnt; rw [if_pos hneg, sz, if_pos hneg]
          rw [this, j3]
        · rw [if_neg hneg]
          have : max 0 ((s.High - s.Low) / base_Size s.Step + 1) = cnt s := by unfold cnt; rw [if_neg hneg, sz, if_neg hneg]
          rw [this, j3]
      · simp only [k, show ¬ (2 : Int) = 0 by decide, if_false, show ¬ (2 : Int) = 1 by decide, false_and, true_and]
        by_cases hc : (s.List.length : Int) > 512
        · simp only [hc, if_true]
        · simp only [hc, if_false]
          rw [copyInts_eq (by omega)]
          simp only [Option.bind_some]
          rw [selected_j b (by omega)]
    · simp only [he, not_false_eq_true, if_true, ne_eq]
      unfold sErr at he ⊢
      by_cases h1 : shapes_inside s.Kind 0 2 = true
      · simp only [h1, not_true, if_false] at he ⊢
        cases hf : flds s
        · simp
        · simp only [hf, Bool.true_eq_false, if_false, Bool.not_true, Bool.false_eq_true] at he ⊢
          by_cases h2 : ((s.Kind == 1) && (s.Step == 0)) = true
          · simp only [h2, if_true]
          · simp only [h2, if_false, Bool.false_eq_true] at he ⊢
            by_cases h3 : nums s = true
            · simp [h3] at he
            · simp [h3]
      · simp only [h1, not_false_eq_true, if_true, Bool.false_eq_true]
  · simp [hn]
end Go.Sh
namespace Go.Sh
open Go.Lx
set_option linter.unusedVariables false
set_option linter.unusedSimpArgs false
abbrev Sec := List Int × List (List Int) × List Int
def secF (_ : Nat) (v : Sec) (t : api_Bound × api_Subscript) : Sum Int Sec :=
  if (sel t.1 t.2).2 ≠ 0 then .inl (sel t.1 t.2).2
  else .inr (if t.2.Kind ≠ 0 then v.1 ++ [((sel t.1 t.2).1.length : Int)] else v.1, v.2.1 ++ [(sel t.1 t.2).1], v.2.2 ++ [((sel t.1 t.2).1.length : Int)])
def secInv (i : Nat) (v : Sec) : Prop := v.1.length ≤ i ∧ v.2.1.length = i ∧ v.2.2.length = i
theorem secInv_step {i : Nat} {v v' : Sec} {t : api_Bound × api_Subscript} (h : secInv i v) (e : secF i v t = .inr v') : secInv (i + 1) v' := by
  obtain ⟨h1, h2, h3⟩ := h
  unfold secF at e
  split at e
  · cases e
  · cases e
    refine ⟨?_, by simp [h2], by simp [h3]⟩
    simp only
    split
    · simp; omega
    · omega
theorem sec_ok : ∀ {T : List (api_Bound × api_Subscript)} {i : Nat} {v v' : Sec}, scanE secF i T v = .inr v' →
    v'.2.1 = v.2.1 ++ T.map (fun t => (sel t.1 t.2).1) ∧ v'.2.2 = v.2.2 ++ T.map (fun t => ((sel t.1 t.2).1.length : Int)) ∧ ∀ t, t ∈ T → (sel t.1 t.2).2 = 0
  | [], i, v, v', h => by cases h; simp
  | t :: T, i, v, v', h => by
    simp only [scanE] at h
    cases hf : secF i v t with
    | inl e => rw [hf] at h; cases h
    | inr v2 =>
      rw [hf] at h
      obtain ⟨g1, g2, g3⟩ := sec_ok h
      unfold secF at hf
      split at hf
      · cases hf
      · rename_i hs
        cases hf
        refine ⟨by rw [g1]; simp, by rw [g2]; simp, ?_⟩
        intro u hu
        cases hu with
        | head => exact Classical.not_not.1 hs
        | tail _ hu => exact g3 u hu
def secScan (p : List api_Bound) (q : List api_Subscript) : Sum Int Sec := scanE secF 0 (p.zip q) ([], [], [])
def picks (lists : List (List Int)) (ds : List Int) : List Int := ds.mapIdx fun j d => (((lists[j]?).getD [])[d.toNat]?).getD 0
theorem picks_len (lists : List (List Int)) (ds : List Int) : (picks lists ds).length = ds.length := by simp [picks]
theorem picks_cons (l : List Int) (lists : List (List Int)) (d : Int) (ds : List Int) : picks (l :: lists) (d :: ds) = ((l[d.toNat]?).getD 0) :: picks lists ds := by
  simp [picks, List.mapIdx_cons]
theorem picks_in : ∀ {bs : List api_Bound} {lists : List (List Int)} {ds : List Int}, bs.length = lists.length → (∀ t, t ∈ bs.zip lists → ∀ x, x ∈ t.2 → shapes_inside x t.1.Low t.1.High = true) → inBase (lists.map fun l => (l.length : Int)) ds → allIn bs (picks lists ds) = true ∧ (picks lists ds).length = bs.length
  | [], [], [], _, _, _ => ⟨rfl, rfl⟩
  | [], [], _ :: _, _, _, h => by cases h
  | [], _ :: _, _, h, _, _ => by cases h
  | _ :: _, [], _, h, _, _ => by cases h
  | _ :: _, _ :: _, [], _, _, h => by cases h
  | b :: bs, l :: lists, d :: ds, hl, hin, h => by
    obtain ⟨h1, h2, h3⟩ := h
    obtain ⟨i1, i2⟩ := picks_in (bs := bs) (by simpa using hl) (fun t ht => hin t (by simp; exact .inr (by simpa using ht))) h3
    have hd : d.toNat < l.length := by have h2' : d < (l.length : Int) := h2; omega
    have hx : (l[d.toNat]?).getD 0 = l[d.toNat] := by simp [hd]
    have hi := hin (b, l) (by simp) l[d.toNat] (List.getElem_mem hd)
    rw [picks_cons, hx]
    refine ⟨?_, by simp [i2]⟩
    simp only [allIn, i1, Bool.and_true]
    exact hi
def offG (a : Int) (t : Int × api_Bound × Int) : Int := w (a + w (t.2.2 * w (t.1 - t.2.1.Low)))
theorem scan_fold : ∀ (bs : List api_Bound) (xs : List Int) (ss : List Int) (a : Int) (i : Nat), allIn bs xs = true → scanE offF i (xs.zip (bs.zip ss)) a = .inr ((xs.zip (bs.zip ss)).foldl offG a)
  | [], xs, ss, a, i, _ => by simp [scanE]
  | b :: bs, [], ss, a, i, _ => by simp [scanE]
  | b :: bs, x :: xs, [], a, i, _ => by simp [scanE]
  | b :: bs, x :: xs, s :: ss, a, i, h => by
    simp only [allIn, Bool.and_eq_true] at h
    have hf : offF i a (x, b, s) = .inr (offG a (x, b, s)) := by unfold offF; rw [if_pos h.1]; rfl
    simp only [List.zip_cons_cons, scanE, hf, List.foldl_cons]
    exact scan_fold bs xs ss _ _ h.2
theorem fold_off {bs : List api_Bound} {xs : List Int} (ok : Ok bs) (hl : bs.length = xs.length) (ha : allIn bs xs = true) : (xs.zip (bs.zip (str 1 (exs bs)))).foldl offG 0 = off bs xs := by
  have h1 := scan_fold bs xs (str 1 (exs bs)) 0 0 ha
  have hl7 := ok.len
  have sz := ok.size
  have h2 := (scan_off bs xs 1 0 0 hl ok.num).2 ha (by omega) (by have : P (exs bs) ≤ 512 := sz.2.2; omega) (by omega) (by omega)
  rw [h1] at h2
  have := Sum.inr.inj h2
  rw [this]
  unfold off
  omega
theorem has_eq {l : List Int} {v : Int} (h : l.length < 16777216) : base_Has l v = some (l.any fun x => x == v) := by
  unfold base_Has
  rw [loop_fold (step := base_Has.s1 l v) l (fun i (b : Bool) => (b, i)) (fun b => b) (fun b x => b || (x == v)) (fun _ _ => True) (a := false) rfl ?_ ?_ trivial (by omega)]
  · have key : ∀ (l : List Int) (b : Bool), l.foldl (fun b x => b || (x == v)) b = (b || l.any fun x => x == v) := by
      intro l
      induction l with
      | nil => intro b; simp
      | cons x l ih => intro b; rw [List.foldl_cons, ih, List.any_cons, Bool.or_assoc]
    rw [key]; simp
  · intro i hi b _
    refine ⟨?_, trivial⟩
    simp only [base_Has.s1, lt_len hi, if_true, at_lt hi, Option.bind_some]
    rw [wn (by omega)]
  · intro b _; simp only [base_Has.s1, not_lt_len, if_false]
theorem mget_mset (m : List (Int × Bool)) (k : Int) (v : Bool) (z : Int) : mget (mset m k v) z = if k = z then some v else mget m z := by
  induction m with
  | nil => simp [mset, mget]
  | cons p m ih =>
    obtain ⟨a, c⟩ := p
    simp only [mset]
    by_cases e : a = k
    · subst e
      by_cases q : a = z
      · simp [mget, q]
      · simp [mget, q]
    · rw [if_neg e]
      simp only [mget, ih]
      by_cases q : a = z
      · have : ¬ k = z := fun r => e (by rw [q, r])
        simp [q, this]
      · simp [q]
def many1 (o : Nat → Int) (v : Bool × List Int × List (Int × Bool)) (k : Nat) : Bool × List Int × List (Int × Bool) := (v.1 || (mget v.2.2 (o k)).getD false, v.2.1 ++ [o k], mset v.2.2 (o k) true)
def many2 (o : Nat → Int) (v : Bool × List Int) (k : Nat) : Bool × List Int := (v.1 || v.2.any (fun x => x == o k), v.2 ++ [o k])
theorem many_same (o : Nat → Int) : ∀ (ks : List Nat) (a : Bool) (l : List Int) (m : List (Int × Bool)), (∀ z, (mget m z).getD false = l.any (fun x => x == z)) →
    ((ks.foldl (many1 o) (a, l, m)).1, (ks.foldl (many1 o) (a, l, m)).2.1) = ks.foldl (many2 o) (a, l)
  | [], a, l, m, h => rfl
  | k :: ks, a, l, m, h => by
    rw [List.foldl_cons, List.foldl_cons]
    have e2 : many2 o (a, l) k = (a || (mget m (o k)).getD false, l ++ [o k]) := by unfold many2; rw [h]
    rw [e2]
    refine many_same o ks _ _ _ fun z => ?_
    rw [mget_mset, List.any_append]
    by_cases e : o k = z
    · simp [e]
    · simp [e, h]
def placeAt (p : List api_Bound) (v : Sec) (k : Nat) : Int := off p (picks v.2.1 (dig v.2.2 k))
def secEnd (p : List api_Bound) (v : Sec) : api_Section × Int :=
  if prodE v.2.2 > 512 then (⟨[], [], false⟩, 8)
  else (⟨v.1, ((List.range (prodE v.2.2).toNat).foldl (many2 (placeAt p v)) (false, [])).2, ((List.range (prodE v.2.2).toNat).foldl (many2 (placeAt p v)) (false, [])).1⟩, 0)
theorem many2_len (o : Nat → Int) : ∀ (ks : List Nat) (v : Bool × List Int), (ks.foldl (many2 o) v).2.length = v.2.length + ks.length
  | [], v => rfl
  | k :: ks, v => by rw [List.foldl_cons, many2_len o ks]; simp [many2]; omega
theorem sel_len {b : api_Bound} {s : api_Subscript} (h : (sel b s).2 = 0) : (sel b s).1.length ≤ 512 ∧ ∀ x, x ∈ (sel b s).1 → shapes_inside x b.Low b.High = true := by
  unfold sel at h ⊢
  by_cases he : sErr s = 0
  · simp only [he, ne_eq, not_true, if_false] at h ⊢
    by_cases h1 : s.Kind = 1 ∧ cnt s > 512
    · simp [h1] at h
    · simp only [h1, if_false] at h ⊢
      by_cases h2 : s.Kind = 2 ∧ (s.List.length : Int) > 512
      · simp [h2] at h
      · simp only [h2, if_false] at h ⊢
        by_cases h3 : (idxs s).any (fun x => !shapes_inside x b.Low b.High) = true
        · simp [h3] at h
        · simp only [h3, if_false, Bool.false_eq_true]
          refine ⟨?_, ?_⟩
          · obtain ⟨hk, _⟩ := kind_cases he
            unfold idxs
            rcases hk with k | k | k
            · simp [k]
            · simp [k] at h1 ⊢; omega
            · simp [k] at h2 ⊢; omega
          · intro x hx
            simp only [List.any_eq_true, not_exists, not_and, Bool.not_eq_true', Bool.not_eq_false] at h3
            exact h3 x hx
  · simp [he] at h
section
variable {p : List api_Bound} {q : List api_Subscript} {v : Sec}
structure SecOk (p : List api_Bound) (q : List api_Subscript) (v : Sec) : Prop where
  lists : v.2.1.length = p.length
  lens : v.2.2 = v.2.1.map fun l => (l.length : Int)
  small : ∀ l, l ∈ v.2.1 → l.length ≤ 512
  ins : ∀ t, t ∈ p.zip v.2.1 → ∀ x, x ∈ t.2 → shapes_inside x t.1.Low t.1.High = true
theorem secOk (hl : q.length = p.length) (h : secScan p q = .inr v) : SecOk p q v := by
  obtain ⟨h1, h2, h3⟩ := sec_ok h
  simp only [List.nil_append] at h1 h2
  refine ⟨by rw [h1]; simp; omega, by rw [h1, h2]; simp, ?_, ?_⟩
  · intro l hlm
    rw [h1] at hlm
    obtain ⟨t, ht, rfl⟩ := List.mem_map.1 hlm
    exact (sel_len (h3 t ht)).1
  · intro t ht x hx
    rw [h1] at ht
    have key : ∀ (p : List api_Bound) (q : List api_Subscript) (t : api_Bound × List Int), t ∈ p.zip ((p.zip q).map fun t => (sel t.1 t.2).1) → ∃ s, (t.1, s) ∈ p.zip q ∧ t.2 = (sel t.1 s).1 := by
      intro p
      induction p with
      | nil => intro q t ht; simp at ht
      | cons b p ih =>
        intro q t ht
        cases q with
        | nil => simp at ht
        | cons s q =>
          simp only [List.zip_cons_cons, List.map_cons, List.mem_cons] at ht
          rcases ht with rfl | ht
          · exact ⟨s, by simp, rfl⟩
          · obtain ⟨s', h1, h2⟩ := ih q t ht
            exact ⟨s', by simp [h1], h2⟩
    obtain ⟨s, g1, g2⟩ := key p q t ht
    rw [g2] at hx
    exact (sel_len (h3 _ g1)).2 x hx
theorem SecOk.base (h : SecOk p q v) (k : Nat) (hk : (k : Int) < prodE v.2.2) (hs : prodE v.2.2 ≤ 512) : (∀ e, e ∈ v.2.2 → 1 ≤ e) ∧ inBase v.2.2 (dig v.2.2 k) ∧ (k : Int) < P v.2.2 := by
  have hr : ∀ x, x ∈ v.2.2 → 0 ≤ x ∧ x ≤ 512 := by
    intro x hx
    rw [h.lens] at hx
    obtain ⟨l, hl, rfl⟩ := List.mem_map.1 hx
    have := h.small l hl
    omega
  obtain ⟨h1, h2⟩ := prodE_P hr hs
  have hpos : ∀ e, e ∈ v.2.2 → 1 ≤ e := by
    intro e he
    have h0 := hr e he
    rcases Int.lt_or_eq_of_le h0.1 with g | g
    · omega
    · have : P v.2.2 = 0 := P_zero ⟨e, he, g.symm⟩
      omega
  exact ⟨hpos, (dig_ok hpos (by omega) (by omega)).1, by omega⟩
theorem SecOk.place (h : SecOk p q v) (k : Nat) (hk : (k : Int) < prodE v.2.2) (hs : prodE v.2.2 ≤ 512) : allIn p (picks v.2.1 (dig v.2.2 k)) = true ∧ (picks v.2.1 (dig v.2.2 k)).length = p.length := by
  obtain ⟨_, h1, _⟩ := h.base k hk hs
  rw [h.lens] at h1 ⊢
  exact picks_in h.lists.symm h.ins h1
theorem inBase_get : ∀ {es ds : List Int}, inBase es ds → es.length = ds.length ∧ ∀ i (h1 : i < es.length) (h2 : i < ds.length), 0 ≤ ds[i] ∧ ds[i] < es[i]
  | [], [], _ => ⟨rfl, fun i h => by simp at h⟩
  | [], _ :: _, h => by cases h
  | _ :: _, [], h => by cases h
  | e :: es, d :: ds, ⟨h1, h2, h3⟩ => by
    obtain ⟨i1, i2⟩ := inBase_get h3
    refine ⟨by simp [i1], fun i g1 g2 => ?_⟩
    cases i with
    | zero => exact ⟨h1, h2⟩
    | succ i => simpa using i2 i (by simpa using g1) (by simpa using g2)
theorem SecOk.pick_at (h : SecOk p q v) (k : Nat) (hk : (k : Int) < prodE v.2.2) (hs : prodE v.2.2 ≤ 512) {i : Nat} (hi : i < p.length) :
    ∃ (h1 : i < (dig v.2.2 k).length) (h2 : i < v.2.1.length) (h3 : i < (picks v.2.1 (dig v.2.2 k)).length), at_ v.2.1[i] (dig v.2.2 k)[i] = some (picks v.2.1 (dig v.2.2 k))[i] := by
  obtain ⟨_, hb, _⟩ := h.base k hk hs
  obtain ⟨g1, g2⟩ := inBase_get hb
  have l1 : v.2.2.length = p.length := by rw [h.lens]; simp [h.lists]
  have hd : i < (dig v.2.2 k).length := by omega
  have hv : i < v.2.1.length := by rw [h.lists]; exact hi
  refine ⟨hd, hv, by rw [picks_len]; exact hd, ?_⟩
  obtain ⟨r1, r2⟩ := g2 i (by omega) hd
  have e : v.2.2[i]'(by omega) = (v.2.1[i].length : Int) := by
    have : v.2.2[i]? = some (v.2.1[i].length : Int) := by rw [h.lens]; simp [hv]
    rw [List.getElem?_eq_getElem (by omega)] at this
    exact Option.some.inj this
  rw [e] at r2
  have hn : (dig v.2.2 k)[i].toNat < v.2.1[i].length := by omega
  have hx : (picks v.2.1 (dig v.2.2 k))[i]'(by rw [picks_len]; exact hd) = v.2.1[i][(dig v.2.2 k)[i].toNat] := by
    simp [picks, hv, hn]
  rw [hx]
  unfold at_
  rw [if_pos r1]
  simp [hn]
theorem section_end (ok : Ok p) (h : SecOk p q v) (hs : prodE v.2.2 ≤ 512) (hp : 0 ≤ prodE v.2.2) :
    loopO (shapes_section.s2 p v (prodE v.2.2) (str 1 (exs p))) (0, false, [], []) = some ((List.range (prodE v.2.2).toNat).foldl (many2 (placeAt p v)) (false, [])) := by
  have hlen : (List.range (prodE v.2.2).toNat).length = (prodE v.2.2).toNat := by simp
  have hc : ((List.range (prodE v.2.2).toNat).length : Int) = prodE v.2.2 := by omega
  have hl7 := ok.len
  rw [loop_fold (step := shapes_section.s2 p v (prodE v.2.2) (str 1 (exs p))) (List.range (prodE v.2.2).toNat) (fun i (b : Bool × List Int × List (Int × Bool)) => (i, b)) (fun b => (b.1, b.2.1)) (many1 (placeAt p v)) (fun i b => b.2.1.length = i) (a := (false, [], [])) rfl ?_ ?_ rfl (by omega)]
  · rw [many_same]
    intro z; rfl
  · intro i hi b hb
    have hir : (List.range (prodE v.2.2).toNat)[i] = i := by simp
    have hil : (i : Int) < prodE v.2.2 := by omega
    refine ⟨?_, by simp [many1, hb]⟩
    obtain ⟨b1, b2, b3⟩ := h.base i hil hs
    obtain ⟨a1, a2⟩ := h.place i hil hs
    have l1 : v.2.2.length = p.length := by rw [h.lens]; simp [h.lists]
    simp only [shapes_section.s2, hil, if_true, hir]
    rw [digits_eq b1 (by omega) (by omega) (by omega)]
    simp only [Option.bind_some]
    have T : ((picks v.2.1 (dig v.2.2 i)).zip (p.zip (str 1 (exs p)))).length = p.length := by simp [str_len, exs, a2]
    have inner : loopO (shapes_section.s3 p v (str 1 (exs p)) (dig v.2.2 i)) (0, 0) = some (placeAt p v i) := by
      rw [loop_fold (step := shapes_section.s3 p v (str 1 (exs p)) (dig v.2.2 i)) ((picks v.2.1 (dig v.2.2 i)).zip (p.zip (str 1 (exs p)))) (fun i (b : Int) => (b, i)) (fun b => b) offG (fun _ _ => True) (a := 0) rfl ?_ ?_ trivial (by omega)]
      · rw [fold_off ok a2.symm a1]; rfl
      · intro j hj b _
        refine ⟨?_, trivial⟩
        rw [T] at hj
        obtain ⟨g1, g2, g3, g4⟩ := h.pick_at i hil hs hj
        have g5 : j < (str 1 (exs p)).length := by simp [str_len, exs]; exact hj
        simp only [shapes_section.s3, lt_len g1, if_true, at_lt g1, at_lt g5, at_lt g2, at_lt hj, Option.bind_some, g4, List.getElem_zip, offG]
        rw [wn (by omega)]
      · intro b _
        have e : ((dig v.2.2 i).length : Int) = (((picks v.2.1 (dig v.2.2 i)).zip (p.zip (str 1 (exs p)))).length : Int) := by rw [T, ← a2, picks_len]
        rw [← e]
        simp only [shapes_section.s3, not_lt_len, if_false]
    rw [inner]
    simp only [Option.bind_some]
    rw [app_one (by omega)]
    simp only [Option.bind_some]
    rw [wn (by omega)]
    rfl
  · intro b _
    rw [hc]
    simp only [shapes_section.s2, Int.lt_irrefl, if_false]
theorem refSection_end (hb : bErr p = 0) (ok : Ok p) (h : SecOk p q v) (hs : prodE v.2.2 ≤ 512) (hp : 0 ≤ prodE v.2.2) :
    loopO (ref15_Section.s2 p (v.2.1, v.2.2, v.1) (prodE v.2.2)) (0, false, []) = some ((List.range (prodE v.2.2).toNat).foldl (many2 (placeAt p v)) (false, [])) := by
  have hlen : (List.range (prodE v.2.2).toNat).length = (prodE v.2.2).toNat := by simp
  have hc : ((List.range (prodE v.2.2).toNat).length : Int) = prodE v.2.2 := by omega
  have hl7 := ok.len
  rw [loop_fold (step := ref15_Section.s2 p (v.2.1, v.2.2, v.1) (prodE v.2.2)) (List.range (prodE v.2.2).toNat) (fun i (b : Bool × List Int) => (i, b)) (fun b => b) (many2 (placeAt p v)) (fun i b => b.2.length = i) (a := (false, [])) rfl ?_ ?_ rfl (by omega)]
  · intro i hi b hbl
    have hir : (List.range (prodE v.2.2).toNat)[i] = i := by simp
    have hil : (i : Int) < prodE v.2.2 := by omega
    refine ⟨?_, by simp [many2, hbl]⟩
    obtain ⟨b1, b2, b3⟩ := h.base i hil hs
    obtain ⟨a1, a2⟩ := h.place i hil hs
    have l1 : v.2.2.length = p.length := by rw [h.lens]; simp [h.lists]
    have dl : (dig v.2.2 i).length = p.length := by rw [dig_len, l1]
    simp only [ref15_Section.s2, hil, if_true, hir]
    rw [refIndexes_eq b1 (by omega) (by omega) (by omega)]
    simp only [Option.bind_some]
    have inner : loopO (ref15_Section.s3 (v.2.1, v.2.2, v.1)) (0, dig v.2.2 i) = some (picks v.2.1 (dig v.2.2 i)) := by
      rw [loop_set (step := ref15_Section.s3 (v.2.1, v.2.2, v.1)) (dig v.2.2 i) (fun j d => (((v.2.1[j]?).getD [])[d.toNat]?).getD 0) (fun i b => (i, b)) (fun b => b) rfl ?_ ?_ (by omega)]
      · rfl
      · intro j hj b hbl2 hbj
        obtain ⟨g1, g2, g3, g4⟩ := h.pick_at i hil hs (i := j) (by omega)
        have hjb : j < b.length := by omega
        have hbv : b[j] = (dig v.2.2 i)[j] := by rw [List.getElem?_eq_getElem hjb] at hbj; exact Option.some.inj hbj
        simp only [ref15_Section.s3, lt_len hjb, if_true, at_lt g2, at_lt hjb, Option.bind_some, hbv, g4, Int.toNat_natCast]
        rw [wn (by omega)]
        simp [picks]
      · intro b hbl2; rw [← hbl2]; simp only [ref15_Section.s3, not_lt_len, if_false]
    rw [inner]
    simp only [Option.bind_some]
    have hoff : offE p (picks v.2.1 (dig v.2.2 i)) = 0 := by unfold offE; simp [hb, a2, a1]
    rw [refOffset_eq hoff]
    simp only [Option.bind_some]
    by_cases hm : b.1 = true
    · simp only [hm, if_true]
      rw [app_one (by omega)]
      simp only [Option.bind_some]
      rw [wn (by omega)]
      simp [many2, hm, placeAt]
    · simp only [hm, if_false, Bool.false_eq_true]
      rw [has_eq (by omega), app_one (by omega)]
      simp only [Option.bind_some]
      rw [wn (by omega)]
      simp [many2, hm, placeAt]
  · intro b _
    rw [hc]
    simp only [ref15_Section.s2, Int.lt_irrefl, if_false]
theorem SecOk.pos (h : SecOk p q v) : 0 ≤ prodE v.2.2 := by
  unfold prodE
  split
  · omega
  · rename_i h0
    have hr : ∀ x, x ∈ v.2.2 → 1 ≤ x ∧ x ≤ 512 := by
      intro x hx
      have hx' := hx
      rw [h.lens] at hx
      obtain ⟨l, hl, rfl⟩ := List.mem_map.1 hx
      have := h.small l hl
      simp only [List.any_eq_true, not_exists, not_and, beq_iff_eq] at h0
      have := h0 _ hx'
      omega
    have := capP_eq (a := 1) hr (by omega) (by omega)
    have hp := P_pos fun x hq => (hr x hq).1
    unfold capP
    omega
end
def secAll (p : List api_Bound) (q : List api_Subscript) : api_Section × Int :=
  if bErr p ≠ 0 then (⟨[], [], false⟩, bErr p)
  else if (q.length : Int) ≠ (p.length : Int) then (⟨[], [], false⟩, 32)
  else match secScan p q with
    | .inl e => (⟨[], [], false⟩, e)
    | .inr v => secEnd p v
theorem sectionOf_eq (p : List api_Bound) (q : List api_Subscript) (hq : ∀ s, s ∈ q → s.List.length < 16777216) : shapes_SectionOf p q = some (secAll p q) := by
  unfold shapes_SectionOf secAll
  rw [boundsErr_eq]
  simp only [Option.bind_some]
  by_cases hb : bErr p = 0
  · have ok := bErr_ok hb
    have hl7 := ok.len
    simp only [hb, not_true, if_false, ne_eq]
    unfold shapes_section
    by_cases hl : (q.length : Int) = (p.length : Int)
    · simp only [hl, not_true, if_false]
      have T : (p.zip q).length = q.length := by simp; omega
      have l1 : loopO (shapes_section.s1 p q) (0, [], [], []) = some (match secScan p q with | .inl e => Sum.inr (⟨[], [], false⟩, e) | .inr v => Sum.inl v) := by
        unfold secScan
        rw [loop_scan (step := shapes_section.s1 p q) (p.zip q) (fun i (b : Sec) => (i, b)) (fun e => Sum.inr (⟨[], [], false⟩, e)) (fun b => Sum.inl b) secF secInv (a := ([], [], [])) rfl ?_ ?_ ⟨Nat.le_refl _, rfl, rfl⟩ (by omega)]
        · cases scanE secF 0 (p.zip q) ([], [], []) <;> rfl
        · intro i hi b hI
          refine ⟨?_, fun b' e => secInv_step hI e⟩
          obtain ⟨i1, i2, i3⟩ := hI
          rw [T] at hi
          have h2 : i < p.length := by omega
          simp only [shapes_section.s1, lt_len hi, if_true, at_lt hi, at_lt h2, Option.bind_some, List.getElem_zip, secF]
          rw [indexes_eq _ _ (hq _ (List.getElem_mem hi))]
          simp only [Option.bind_some]
          by_cases he : (sel p[i] q[i]).2 = 0
          · simp only [he, not_true, if_false, ne_eq]
            rw [app_one (by omega), app_one (by omega)]
            simp only [Option.bind_some]
            by_cases hk : q[i].Kind = 0
            · simp only [hk, not_true, if_false]; rw [wn (by omega)]
            · simp only [hk, not_false_eq_true, if_true]
              rw [app_one (by omega)]
              simp only [Option.bind_some]
              rw [wn (by omega)]
          · simp only [he, not_false_eq_true, if_true, ne_eq]
        · intro b _; rw [T]; simp only [shapes_section.s1, not_lt_len, if_false]
      rw [l1]
      simp only [Option.bind_some]
      cases hv : secScan p q with
      | inl e => simp
      | inr v =>
        have so := secOk (by omega) hv
        have hp := so.pos
        have hvl : v.2.2.length = p.length := by rw [so.lens]; simp [so.lists]
        simp only [product_eq (show v.2.2.length < 16777216 by omega), Option.bind_some]
        unfold secEnd
        by_cases hs : prodE v.2.2 > 512
        · simp only [hs, if_true, Option.bind_some]
        · simp only [hs, if_false]
          rw [extents_eq' (by omega)]
          simp only [Option.bind_some]
          rw [strides_eq (by simp [exs]; omega)]
          simp only [Option.bind_some]
          rw [section_end ok so (by omega) hp]
          simp only [Option.bind_some]
    · simp [hl]
  · simp [hb]
theorem refSection_eq (p : List api_Bound) (q : List api_Subscript) (hq : ∀ s, s ∈ q → s.List.length < 16777216) : ref15_Section p q = some (secAll p q) := by
  unfold ref15_Section secAll
  rw [refBoundsErr_eq]
  simp only [Option.bind_some]
  by_cases hb : bErr p = 0
  · have ok := bErr_ok hb
    have hl7 := ok.len
    simp only [hb, not_true, if_false, ne_eq]
    by_cases hl : (q.length : Int) = (p.length : Int)
    · simp only [hl, not_true, if_false]
      have T : (p.zip q).length = q.length := by simp; omega
      have l1 : loopO (ref15_Section.s1 p q) (0, [], [], []) = some (match secScan p q with | .inl e => Sum.inr (⟨[], [], false⟩, e) | .inr v => Sum.inl (v.2.1, v.2.2, v.1)) := by
        unfold secScan
        rw [loop_scan (step := ref15_Section.s1 p q) (p.zip q) (fun i (b : Sec) => (i, b.2.1, b.2.2, b.1)) (fun e => Sum.inr (⟨[], [], false⟩, e)) (fun b => Sum.inl (b.2.1, b.2.2, b.1)) secF secInv (a := ([], [], [])) rfl ?_ ?_ ⟨Nat.le_refl _, rfl, rfl⟩ (by omega)]
        · cases scanE secF 0 (p.zip q) ([], [], []) <;> rfl
        · intro i hi b hI
          refine ⟨?_, fun b' e => secInv_step hI e⟩
          obtain ⟨i1, i2, i3⟩ := hI
          rw [T] at hi
          have h2 : i < p.length := by omega
          simp only [ref15_Section.s1, lt_len hi, if_true, at_lt hi, at_lt h2, Option.bind_some, List.getElem_zip, secF]
          rw [selected_eq _ _ (hq _ (List.getElem_mem hi)), if_pos (ok.num _ (List.getElem_mem h2))]
          simp only [Option.bind_some]
          by_cases he : (sel p[i] q[i]).2 = 0
          · simp only [he, not_true, if_false, ne_eq]
            rw [app_one (by omega), app_one (by omega)]
            simp only [Option.bind_some]
            by_cases hk : q[i].Kind = 0
            · simp only [hk, not_true, if_false]; rw [wn (by omega)]
            · simp only [hk, not_false_eq_true, if_true]
              rw [app_one (by omega)]
              simp only [Option.bind_some]
              rw [wn (by omega)]
          · simp only [he, not_false_eq_true, if_true, ne_eq]
        · intro b _; rw [T]; simp only [ref15_Section.s1, not_lt_len, if_false]
      rw [l1]
      simp only [Option.bind_some]
      cases hv : secScan p q with
      | inl e => simp
      | inr v =>
        have so := secOk (by omega) hv
        have hp := so.pos
        have hvl : v.2.2.length = p.length := by rw [so.lens]; simp [so.lists]
        simp only [refProduct_eq (show v.2.2.length < 16777216 by omega), Option.bind_some]
        unfold secEnd
        by_cases hs : prodE v.2.2 > 512
        · simp only [hs, if_true, Option.bind_some]
        · simp only [hs, if_false]
          rw [refSection_end hb ok so (by omega) hp]
          simp only [Option.bind_some]
    · simp [hl]
  · simp [hb]
theorem brief_eq {q : List api_Subscript} (h : law15_brief q = some true) : q.length ≤ 9 ∧ ∀ s, s ∈ q → s.List.length ≤ 20 := by
  unfold law15_brief at h
  by_cases h9 : (q.length : Int) > 9
  · simp [h9] at h
  · simp only [h9, if_false] at h
    rw [loop_find (step := law15_brief.s1 q) q (fun s => if (decide ((s.List.length : Int) > 20)) = true then some false else none) (fun c => Sum.inr c) (Sum.inl ()) rfl ?_ ?_ (by omega), findSome_const] at h
    · by_cases e : q.any (fun s => decide ((s.List.length : Int) > 20)) = true
      · simp only [e, if_true, Option.bind_some] at h; cases h
      · refine ⟨by omega, fun s hs => ?_⟩
        simp only [List.any_eq_true, not_exists, not_and, decide_eq_true_eq] at e
        have := e s hs
        omega
    · intro i hi
      simp only [law15_brief.s1, lt_len hi, if_true, at_lt hi, Option.bind_some]
      by_cases hc : (q[i].List.length : Int) > 20
      · simp only [hc, if_true, decide_true]
      · simp only [hc, if_false, decide_false, Bool.false_eq_true]; rw [wn (by omega)]
    · simp only [law15_brief.s1, not_lt_len, if_false]
theorem brief_some (q : List api_Subscript) : ∃ r, law15_brief q = some r := by
  unfold law15_brief
  by_cases h9 : (q.length : Int) > 9
  · simp [h9]
  · simp only [h9, if_false]
    rw [loop_find (step := law15_brief.s1 q) q (fun s => if (decide ((s.List.length : Int) > 20)) = true then some false else none) (fun c => Sum.inr c) (Sum.inl ()) rfl ?_ ?_ (by omega), findSome_const]
    · split <;> exact ⟨_, rfl⟩
    · intro i hi
      simp only [law15_brief.s1, lt_len hi, if_true, at_lt hi, Option.bind_some]
      by_cases hc : (q[i].List.length : Int) > 20
      · simp only [hc, if_true, decide_true]
      · simp only [hc, if_false, decide_false, Bool.false_eq_true]; rw [wn (by omega)]
    · simp only [law15_brief.s1, not_lt_len, if_false]
theorem copySubscripts_eq {q : List api_Subscript} (h : q.length < 16777216) (hq : ∀ s, s ∈ q → s.List.length < 16777216) : ref15_CopySubscripts q = some q := by
  unfold ref15_CopySubscripts
  rw [loop_map (step := ref15_CopySubscripts.s1 q) q (fun s => s) (fun i b => (i, b)) (fun b => b) rfl ?_ ?_ (by omega)]
  · simp
  · intro i hi b hb
    simp only [ref15_CopySubscripts.s1, lt_len hi, if_true, at_lt hi, Option.bind_some]
    have := hq _ (List.getElem_mem hi)
    rw [copyInts_eq (by omega)]
    simp only [Option.bind_some]
    rw [app_one (by omega), wn (by omega)]; rfl
  · intro b; simp only [ref15_CopySubscripts.s1, not_lt_len, if_false]
end Go.Sh
namespace Go.Sh
open Go.Lx
set_option linter.unusedVariables false
set_option linter.unusedSimpArgs false
structure Valid (a : api_Array) : Prop where
  b : bErr a.Bounds = 0
  len : (a.Elements.length : Int) = P (exs a.Bounds)
  int : ∀ x, x ∈ a.Elements → shapes_isInteger x = true
theorem badEl_iff : ∀ (xs : List Int) (i : Nat), (∀ x, x ∈ xs → shapes_isInteger x = true) ↔ scanE (fun i b x => if shapes_isInteger x = true then Sum.inr b else Sum.inl i) i xs () = .inr ()
  | [], i => by simp [scanE]
  | x :: xs, i => by
    simp only [scanE, List.mem_cons, forall_eq_or_imp]
    by_cases h : shapes_isInteger x = true
    · simp only [h, if_true, true_and]; exact badEl_iff xs (i + 1)
    · simp [h]
theorem chk_valid {a : api_Array} (h : (chk a).2 = 0) : Valid a := by
  unfold chk at h
  split at h
  · rename_i hb; exact absurd h hb
  rename_i hb
  split at h
  · cases h
  rename_i hl
  have hb' := Classical.not_not.1 hb
  have hl' := Classical.not_not.1 hl
  have ok := bErr_ok hb'
  refine ⟨hb', by have := ok.size; rw [hl']; exact this.1, ?_⟩
  cases hq : badEl a.Elements with
  | inl i => rw [hq] at h; cases h
  | inr u => exact (badEl_iff _ 0).2 hq
theorem valid_chk {a : api_Array} (h : Valid a) : chk a = (0, 0) := by
  unfold chk
  have ok := bErr_ok h.b
  have hl : (a.Elements.length : Int) = prodE (exs a.Bounds) := by rw [h.len]; exact ok.size.1.symm
  simp only [h.b, ne_eq, not_true, if_false, hl]
  have : badEl a.Elements = .inr () := (badEl_iff _ 0).1 h.int
  rw [this]
theorem many2_snd (o : Nat → Int) : ∀ (ks : List Nat) (v : Bool × List Int), (ks.foldl (many2 o) v).2 = v.2 ++ ks.map o
  | [], v => by simp
  | k :: ks, v => by rw [List.foldl_cons, many2_snd o ks]; simp [many2]
theorem many2_nodup (o : Nat → Int) : ∀ (ks : List Nat) (a : Bool) (l : List Int), (ks.foldl (many2 o) (a, l)).1 = false → a = false ∧ (l.Nodup → (l ++ ks.map o).Nodup)
  | [], a, l, h => ⟨h, fun hn => by simpa using hn⟩
  | k :: ks, a, l, h => by
    rw [List.foldl_cons] at h
    obtain ⟨h1, h2⟩ := many2_nodup o ks _ _ h
    simp only [Bool.or_eq_false_iff, List.any_eq_false, beq_iff_eq] at h1
    refine ⟨h1.1, fun hn => ?_⟩
    have : (l ++ [o k]).Nodup := by
      rw [List.nodup_append]
      refine ⟨hn, by simp, ?_⟩
      intro x hx y hy
      simp only [List.mem_singleton] at hy
      subst hy
      exact h1.2 x hx
    have := h2 this
    simpa using this
structure Sct (p : List api_Bound) (s : api_Section) : Prop where
  range : ∀ o, o ∈ s.Offsets → 0 ≤ o ∧ o < P (exs p)
  nodup : s.ManyOne = false → s.Offsets.Nodup
  len : (s.Offsets.length : Int) = P s.Extents
  ext : ∀ e, e ∈ s.Extents → 0 ≤ e ∧ e ≤ 512
  dims : s.Extents.length ≤ 7
  small : s.Offsets.length ≤ 512
theorem idx0_len {b : api_Bound} {s : api_Subscript} (h : (sel b s).2 = 0) (hk : s.Kind = 0) : (sel b s).1.length = 1 := by
  unfold sel at h ⊢
  by_cases he : sErr s = 0
  · simp only [he, ne_eq, not_true, if_false, hk, show ¬ (0 : Int) = 1 by decide, show ¬ (0 : Int) = 2 by decide, false_and] at h ⊢
    by_cases h3 : (idxs s).any (fun x => !shapes_inside x b.Low b.High) = true
    · simp [h3] at h
    · simp only [h3, if_false, Bool.false_eq_true]
      unfold idxs
      simp [hk]
  · simp [he] at h
theorem P_append (a b : List Int) : P (a ++ b) = P a * P b := by
  induction a with
  | nil => simp [P]
  | cons x a ih => simp [P, ih, Int.mul_assoc]
theorem sec_ext : ∀ {T : List (api_Bound × api_Subscript)} {i : Nat} {v v' : Sec}, scanE secF i T v = .inr v' → P v.1 = P v.2.2 → (∀ e, e ∈ v.1 → 0 ≤ e ∧ e ≤ 512) → P v'.1 = P v'.2.2 ∧ (∀ e, e ∈ v'.1 → 0 ≤ e ∧ e ≤ 512) ∧ v'.1.length ≤ v.1.length + T.length
  | [], i, v, v', h, h1, h2 => by cases h; exact ⟨h1, h2, by simp⟩
  | t :: T, i, v, v', h, h1, h2 => by
    simp only [scanE] at h
    cases hf : secF i v t with
    | inl e => rw [hf] at h; cases h
    | inr v2 =>
      rw [hf] at h
      unfold secF at hf
      split at hf
      · cases hf
      · rename_i hs
        have hs := Classical.not_not.1 hs
        cases hf
        have hsl := (sel_len hs).1
        by_cases hk : t.2.Kind = 0
        · simp only [hk, ne_eq, not_true, if_false] at h
          have e1 := idx0_len hs hk
          obtain ⟨g1, g2, g3⟩ := sec_ext h (by simp only [P_append, e1, P]; simp [h1]) h2
          exact ⟨g1, g2, by simp at g3 ⊢; omega⟩
        · simp only [hk, ne_eq, not_false_eq_true, if_true] at h
          obtain ⟨g1, g2, g3⟩ := sec_ext h (by simp only [P_append, h1]) (by
            intro e he
            simp only [List.mem_append, List.mem_singleton] at he
            rcases he with he | he
            · exact h2 e he
            · omega)
          exact ⟨g1, g2, by simp at g3 ⊢; omega⟩
theorem secAll_sct {p : List api_Bound} {q : List api_Subscript} (h : (secAll p q).2 = 0) : Sct p (secAll p q).1 := by
  unfold secAll at h ⊢
  by_cases hb : bErr p = 0
  · have ok := bErr_ok hb
    have hl7 := ok.len
    simp only [hb, ne_eq, not_true, if_false] at h ⊢
    by_cases hl : (q.length : Int) = (p.length : Int)
    · simp only [hl, not_true, if_false] at h ⊢
      cases hv : secScan p q with
      | inl e =>
        rw [hv] at h
        exfalso
        have key : ∀ (T : List (api_Bound × api_Subscript)) (i : Nat) (v : Sec) (e : Int), scanE secF i T v = .inl e → e ≠ 0 := by
          intro T
          induction T with
          | nil => intro i v e h; cases h
          | cons t T ih =>
            intro i v e h
            simp only [scanE] at h
            cases hf : secF i v t with
            | inl e' =>
              rw [hf] at h
              cases h
              unfold secF at hf
              split at hf
              · rename_i hs; cases hf; exact hs
              · cases hf
            | inr v2 => rw [hf] at h; exact ih _ _ _ h
        exact key _ _ _ _ hv h
      | inr v =>
        rw [hv] at h
        have so := secOk (by omega) hv
        obtain ⟨x1, x2, x3⟩ := sec_ext hv rfl (fun e he => by cases he)
        simp only at h ⊢
        unfold secEnd at h ⊢
        by_cases hs : prodE v.2.2 > 512
        · simp [hs] at h
        · simp only [hs, if_false] at h ⊢
          have hp := so.pos
          have hr : ∀ x, x ∈ v.2.2 → 0 ≤ x ∧ x ≤ 512 := by
            intro x hx
            rw [so.lens] at hx
            obtain ⟨l, hl, rfl⟩ := List.mem_map.1 hx
            have := so.small l hl
            omega
          obtain ⟨z1, z2⟩ := prodE_P hr (by omega)
          have T : (p.zip q).length ≤ 7 := by simp; omega
          refine ⟨?_, ?_, ?_, x2, by show v.1.length ≤ 7; simp at x3; omega, ?_⟩
          · intro o ho
            simp only [many2_snd, List.nil_append] at ho
            obtain ⟨k, hk, rfl⟩ := List.mem_map.1 ho
            have hk' : (k : Int) < prodE v.2.2 := by have := List.mem_range.1 hk; omega
            obtain ⟨a1, a2⟩ := so.place k hk' (by omega)
            exact H_range (allIn_base a2.symm ok.num a1)
          · intro hm
            have := (many2_nodup _ _ _ _ hm).2 (by simp)
            simp only [many2_snd, List.nil_append] at this ⊢
            exact this
          · simp only [many2_len, List.length_nil, List.length_range]
            omega
          · simp only [many2_len, List.length_nil, List.length_range]
            omega
    · simp [hl] at h
  · simp [hb] at h
theorem section_eq {p : List api_Bound} {q : List api_Subscript} (hb : bErr p = 0) (hq : ∀ s, s ∈ q → s.List.length < 16777216) : shapes_section p q = some (secAll p q) := by
  have h := sectionOf_eq p q hq
  unfold shapes_SectionOf at h
  rw [boundsErr_eq] at h
  simp only [Option.bind_some, hb, not_true, if_false] at h
  obtain ⟨x, h1, h2⟩ := Option.bind_eq_some_iff.1 h
  rw [h1, ← Option.some.inj h2]
def elAt (xs : List Int) (o : Int) : Int := (xs[o.toNat]?).getD 0
def ofExt (es : List Int) : List api_Bound := es.map fun e => api_Bound.mk 1 e
def takenR (a : api_Array) (q : List api_Subscript) : api_Array × Int :=
  if (chk a).2 ≠ 0 then (⟨[], []⟩, (chk a).2)
  else if (secAll a.Bounds q).2 ≠ 0 then (⟨[], []⟩, (secAll a.Bounds q).2)
  else (⟨ofExt (secAll a.Bounds q).1.Extents, (secAll a.Bounds q).1.Offsets.map (elAt a.Elements)⟩, 0)
theorem from_eq {es : List Int} (h : es.length < 16777216) : shapes_from es = some (ofExt es) := by
  unfold shapes_from
  rw [loop_map (step := shapes_from.s1 es) es (fun e => api_Bound.mk 1 e) (fun i b => (i, b)) (fun b => b) rfl ?_ ?_ (by omega)]
  · rfl
  · intro i hi b hb
    simp only [shapes_from.s1, lt_len hi, if_true, at_lt hi, Option.bind_some]
    rw [app_one (by omega), wn (by omega)]; rfl
  · intro b; simp only [shapes_from.s1, not_lt_len, if_false]
theorem refOf_eq {es xs : List Int} (h : es.length < 16777216) : ref15_Of es xs = some (api_Array.mk (ofExt es) xs) := by
  unfold ref15_Of
  rw [loop_map (step := ref15_Of.s1 es) es (fun e => api_Bound.mk 1 e) (fun i b => (i, b)) (fun b => b) rfl ?_ ?_ (by omega)]
  · rfl
  · intro i hi b hb
    simp only [ref15_Of.s1, lt_len hi, if_true, at_lt hi, Option.bind_some]
    rw [app_one (by omega), wn (by omega)]; rfl
  · intro b; simp only [ref15_Of.s1, not_lt_len, if_false]
theorem at_el {xs : List Int} {o : Int} (h0 : 0 ≤ o) (h1 : o < (xs.length : Int)) : at_ xs o = some (elAt xs o) := by
  unfold at_ elAt
  rw [if_pos h0]
  have : o.toNat < xs.length := by omega
  simp [this]
theorem arraysErr1 {a : api_Array} (ha : a.Elements.length < 16777216) : shapes_arraysErr [a] = some (chk a).2 := by
  unfold shapes_arraysErr
  rw [loop_find (step := shapes_arraysErr.s1 [a]) [a] (fun x => if (chk x).2 = 0 then none else some (chk x).2) (fun c => Sum.inr c) (Sum.inl ()) rfl ?_ ?_ (by simp)]
  · by_cases h1 : (chk a).2 = 0
    · simp [h1]
    · simp [h1]
  · intro i hi
    have hx : [a][i].Elements.length < 16777216 := by
      match i, hi with
      | 0, _ => exact ha
    simp only [shapes_arraysErr.s1, lt_len hi, if_true, at_lt hi, Option.bind_some, checkArray_eq hx]
    by_cases e : (chk [a][i]).2 = 0
    · simp only [e, not_true, if_false, if_true]; rw [wn (by simp at hi; omega)]
    · simp only [e, not_false_eq_true, if_true, if_false]
  · simp only [shapes_arraysErr.s1, not_lt_len, if_false]
theorem taken_eq {a : api_Array} {q : List api_Subscript} (ha : a.Elements.length < 16777216) (hq : ∀ s, s ∈ q → s.List.length < 16777216) : shapes_Taken a q = some (takenR a q) := by
  unfold shapes_Taken takenR
  rw [arraysErr1 ha]
  simp only [Option.bind_some]
  by_cases hc : (chk a).2 = 0
  · have va := chk_valid hc
    simp only [hc, not_true, if_false, ne_eq]
    rw [section_eq va.b hq]
    simp only [Option.bind_some]
    by_cases hs : (secAll a.Bounds q).2 = 0
    · have sc := secAll_sct hs
      have h7 := sc.dims
      have h512 := sc.small
      simp only [hs, not_true, if_false]
      unfold shapes_picked
      rw [from_eq (by omega)]
      simp only [Option.bind_some]
      rw [loop_map (step := shapes_picked.s1 a (secAll a.Bounds q).1.Offsets) (secAll a.Bounds q).1.Offsets (elAt a.Elements) (fun i b => (i, b)) (fun b => b) rfl ?_ ?_ (by omega)]
      · rfl
      · intro i hi b hb
        simp only [shapes_picked.s1, lt_len hi, if_true, at_lt hi, Option.bind_some]
        obtain ⟨r1, r2⟩ := sc.range _ (List.getElem_mem hi)
        rw [at_el r1 (by rw [va.len]; exact r2)]
        simp only [Option.bind_some]
        rw [app_one (by omega), wn (by omega)]; rfl
      · intro b; simp only [shapes_picked.s1, not_lt_len, if_false]
    · simp [hs]
  · simp [hc]
theorem refTaken_eq {a : api_Array} {q : List api_Subscript} (ha : a.Elements.length < 16777216) (hq : ∀ s, s ∈ q → s.List.length < 16777216) : ref15_Taken a q = some (takenR a q) := by
  unfold ref15_Taken takenR
  rw [refErr_eq ha]
  simp only [Option.bind_some]
  by_cases hc : (chk a).2 = 0
  · have va := chk_valid hc
    simp only [hc, not_true, if_false, ne_eq]
    rw [refSection_eq _ _ hq]
    simp only [Option.bind_some]
    by_cases hs : (secAll a.Bounds q).2 = 0
    · have sc := secAll_sct hs
      have h7 := sc.dims
      have h512 := sc.small
      simp only [hs, not_true, if_false]
      rw [loop_map (step := ref15_Taken.s1 a (secAll a.Bounds q)) (secAll a.Bounds q).1.Offsets (elAt a.Elements) (fun i b => (i, b)) (fun b => b) rfl ?_ ?_ (by omega)]
      · simp only [Option.bind_some]; rw [refOf_eq (by omega)]; rfl
      · intro i hi b hb
        simp only [ref15_Taken.s1, lt_len hi, if_true, at_lt hi, Option.bind_some]
        obtain ⟨r1, r2⟩ := sc.range _ (List.getElem_mem hi)
        rw [at_el r1 (by rw [va.len]; exact r2)]
        simp only [Option.bind_some]
        rw [app_one (by omega), wn (by omega)]; rfl
      · intro b; simp only [ref15_Taken.s1, not_lt_len, if_false]
    · simp [hs]
  · simp [hc]
def itemR (a : api_Array) (i : Nat) : Int := if a.Bounds.length = 0 then elAt a.Elements 0 else elAt a.Elements i
def putAll : List Int → List Int → (Nat → Int) → Nat → List Int
  | xs, [], f, i => xs
  | xs, o :: os, f, i => putAll (xs.set o.toNat (f i)) os f (i + 1)
theorem putAll_len : ∀ (os : List Int) (xs : List Int) (f : Nat → Int) (i : Nat), (putAll xs os f i).length = xs.length
  | [], xs, f, i => rfl
  | o :: os, xs, f, i => by rw [putAll, putAll_len os]; simp
theorem scan_put {f : Nat → Int} : ∀ (os : List Int) (xs : List Int) (i : Nat), scanE (ρ := Empty) (fun i (b : List Int) o => .inr (b.set o.toNat (f i))) i os xs = .inr (putAll xs os f i)
  | [], xs, i => rfl
  | o :: os, xs, i => by simp only [scanE, putAll]; exact scan_put os _ _
theorem putAll_old : ∀ (os : List Int) (xs : List Int) (f : Nat → Int) (i : Nat) (o : Int), (∀ x, x ∈ os → 0 ≤ x) → 0 ≤ o → ¬ o ∈ os → elAt (putAll xs os f i) o = elAt xs o
  | [], xs, f, i, o, _, _, _ => rfl
  | x :: os, xs, f, i, o, h, h0, hn => by
    simp only [List.mem_cons, not_or] at hn
    rw [putAll, putAll_old os _ f _ o (fun y hy => h y (.tail _ hy)) h0 hn.2]
    have hx := h x (.head _)
    unfold elAt
    rw [List.getElem?_set_ne (by omega)]
theorem putAll_new : ∀ (os : List Int) (xs : List Int) (f : Nat → Int) (i : Nat), os.Nodup → (∀ x, x ∈ os → 0 ≤ x ∧ x < (xs.length : Int)) → ∀ k (h : k < os.length), elAt (putAll xs os f i) os[k] = f (i + k)
  | [], xs, f, i, _, _, k, h => by simp at h
  | x :: os, xs, f, i, hn, hr, k, h => by
    rw [List.nodup_cons] at hn
    rw [putAll]
    cases k with
    | zero =>
      have hx := hr x (.head _)
      simp only [List.getElem_cons_zero]
      rw [putAll_old os _ f _ x (fun y hy => (hr y (.tail _ hy)).1) hx.1 hn.1]
      unfold elAt
      have : x.toNat < xs.length := by omega
      simp [this]
    | succ k =>
      simp only [List.getElem_cons_succ]
      rw [putAll_new os _ f (i + 1) hn.2 (fun y hy => by simp; exact hr y (.tail _ hy)) k (by simpa using h)]
      congr 1
      omega
theorem putAll_same : ∀ (os : List Int) (xs : List Int) (f : Nat → Int) (i : Nat), (∀ x, x ∈ os → 0 ≤ x ∧ x < (xs.length : Int)) → (∀ k (h : k < os.length), f (i + k) = elAt xs os[k]) → putAll xs os f i = xs
  | [], xs, f, i, _, _ => rfl
  | x :: os, xs, f, i, hr, hf => by
    have hx := hr x (.head _)
    have h0 : f i = elAt xs x := by
      have := hf 0 (by simp)
      simp only [Nat.add_zero, List.getElem_cons_zero] at this
      exact this
    have e : xs.set x.toNat (f i) = xs := by
      rw [h0]
      have hl : x.toNat < xs.length := by omega
      unfold elAt
      simp [hl]
    rw [putAll, e]
    exact putAll_same os xs f (i + 1) (fun y hy => hr y (.tail _ hy)) (fun k h => by
      have := hf (k + 1) (by simpa using h)
      simp only [List.getElem_cons_succ] at this
      rw [← this]
      congr 1
      omega)
theorem putAll_mem : ∀ (os : List Int) (xs : List Int) (f : Nat → Int) (i : Nat) (y : Int), y ∈ putAll xs os f i → y ∈ xs ∨ ∃ k, k < os.length ∧ y = f (i + k)
  | [], xs, f, i, y, h => .inl h
  | x :: os, xs, f, i, y, h => by
    rw [putAll] at h
    rcases putAll_mem os _ f _ y h with h1 | ⟨k, h1, h2⟩
    · rcases List.mem_or_eq_of_mem_set h1 with h3 | h3
      · exact .inl h3
      · exact .inr ⟨0, by simp, by simpa using h3⟩
    · exact .inr ⟨k + 1, by simpa using h1, by rw [h2]; congr 1; omega⟩
def fits (b : api_Array) (s : api_Section) : Bool := b.Bounds.length == 0 || exs b.Bounds == s.Extents
def storedR (a : api_Array) (q : List api_Subscript) (b : api_Array) : api_Array × Int :=
  if (chk a).2 ≠ 0 then (⟨[], []⟩, (chk a).2)
  else if (chk b).2 ≠ 0 then (⟨[], []⟩, (chk b).2)
  else if (secAll a.Bounds q).2 ≠ 0 then (⟨[], []⟩, (secAll a.Bounds q).2)
  else if fits b (secAll a.Bounds q).1 = false then (⟨[], []⟩, 10)
  else if (secAll a.Bounds q).1.ManyOne = true then (⟨[], []⟩, 23)
  else (⟨a.Bounds, putAll a.Elements (secAll a.Bounds q).1.Offsets (itemR b) 0⟩, 0)
theorem item_eq {b : api_Array} (vb : Valid b) {s : api_Section} {p : List api_Bound} (sc : Sct p s) (hf : fits b s = true) {i : Nat} (hi : i < s.Offsets.length) : shapes_item b i = some (itemR b i) ∧ ref15_At b i = some (itemR b i) := by
  unfold shapes_item ref15_At itemR shapes_isScalar
  by_cases h0 : b.Bounds.length = 0
  · have hl : b.Elements.length = 1 := by
      have := vb.len
      have e : b.Bounds = [] := List.length_eq_zero_iff.1 h0
      rw [e] at this
      simp [exs, P] at this
      omega
    have e1 : ((b.Bounds.length : Int) == 0) = true := by simp; exact List.length_eq_zero_iff.1 h0
    have e2 : (b.Bounds.length : Int) = 0 := by omega
    rw [if_pos e1, if_pos e2, if_pos h0, at_el (by omega) (by omega)]
    exact ⟨rfl, rfl⟩
  · have e2 : ¬ (b.Bounds.length : Int) = 0 := by omega
    have e1 : ¬ ((b.Bounds.length : Int) == 0) = true := by rw [beq_iff_eq]; exact e2
    have hx : exs b.Bounds = s.Extents := by
      unfold fits at hf
      have : (b.Bounds.length == 0) = false := by rw [beq_eq_false_iff_ne]; exact h0
      rw [this, Bool.false_or, beq_iff_eq] at hf
      exact hf
    have hl := vb.len
    rw [hx, ← sc.len] at hl
    rw [if_neg e1, if_neg e2, if_neg h0, at_el (by omega) (by omega)]
    exact ⟨rfl, rfl⟩
theorem broken2 (a b : Bool) : shapes_broken [shapes_rule.mk a 10, shapes_rule.mk b 23] = some (if a = true then (if b = true then 0 else 23) else 10) := by
  cases a <;> cases b <;> decide +kernel
theorem copied_eq {a : api_Array} (h1 : a.Bounds.length ≤ 16777216) (h2 : a.Elements.length ≤ 16777216) : shapes_copied a = some a := by
  unfold shapes_copied slices_Clone_api_Bound slices_Clone_int
  rw [app_nil h1, app_nil h2]; rfl
theorem put_loop {step : Int × List Int → Option (Sum (Int × List Int) (List Int))} {os xs : List Int} {f : Nat → Int} (hl : os.length < 1152921504606846976)
    (h : ∀ i (hi : i < os.length) (b : List Int), b.length = xs.length → step (i, b) = some (.inl (((i + 1 : Nat) : Int), b.set os[i].toNat (f i)))) (hend : ∀ b, step ((os.length : Int), b) = some (.inr b)) : loopO step (0, xs) = some (putAll xs os f 0) := by
  rw [loop_scan (ρ := Empty) os (fun i b => (i, b)) (fun e => e.elim) (fun b => b) (fun i b o => .inr (b.set o.toNat (f i))) (fun _ b => b.length = xs.length) rfl (fun i hi b hb => ⟨h i hi b hb, fun b' e => by cases e; simpa using hb⟩) (fun b _ => hend b) rfl hl, scan_put]
theorem stored_eq {a b : api_Array} {q : List api_Subscript} (ha : a.Elements.length < 16777216) (hb : b.Elements.length < 16777216) (hbb : b.Bounds.length < 16777216) (hq : ∀ s, s ∈ q → s.List.length < 16777216) : shapes_Stored a q b = some (storedR a q b) := by
  unfold shapes_Stored storedR
  rw [arraysErr2 ha hb]
  simp only [Option.bind_some]
  by_cases hc : (chk a).2 = 0
  · have va := chk_valid hc
    have h7 := (bErr_ok va.b).len
    by_cases hd : (chk b).2 = 0
    · have vb := chk_valid hd
      simp only [hc, hd, not_true, if_false, ne_eq, if_true]
      rw [section_eq va.b hq]
      simp only [Option.bind_some]
      by_cases hs : (secAll a.Bounds q).2 = 0
      · have sc := secAll_sct hs
        simp only [hs, not_true, if_false]
        have j : ∀ t, t = fits b (secAll a.Bounds q).1 → shapes_Stored.j1 a b (secAll a.Bounds q) t = some (if fits b (secAll a.Bounds q).1 = false then (⟨[], []⟩, 10) else if (secAll a.Bounds q).1.ManyOne = true then (⟨[], []⟩, 23) else (⟨a.Bounds, putAll a.Elements (secAll a.Bounds q).1.Offsets (itemR b) 0⟩, 0)) := by
          rintro t rfl
          unfold shapes_Stored.j1
          rw [broken2]
          simp only [Option.bind_some]
          cases hf : fits b (secAll a.Bounds q).1 with
          | false => simp
          | true =>
            cases hm : (secAll a.Bounds q).1.ManyOne with
            | true => simp
            | false =>
              simp only [Bool.not_false, if_true, not_true, if_false, Bool.true_eq_false, Bool.false_eq_true]
              rw [copied_eq (by omega) (by omega)]
              simp only [Option.bind_some]
              have h512 := sc.small
              rw [put_loop (step := shapes_Stored.s2 b (secAll a.Bounds q)) (os := (secAll a.Bounds q).1.Offsets) (f := itemR b) (by omega) ?_ ?_]
              · rfl
              · intro i hi x hx
                simp only [shapes_Stored.s2, lt_len hi, if_true, at_lt hi, Option.bind_some, (item_eq vb sc hf hi).1]
                obtain ⟨r1, r2⟩ := sc.range _ (List.getElem_mem hi)
                rw [at_el r1 (by rw [hx, va.len]; exact r2)]
                simp only [Option.bind_some]
                rw [wn (by omega)]
              · intro x; simp only [shapes_Stored.s2, not_lt_len, if_false]
        by_cases h0 : shapes_isScalar b = true
        · rw [if_pos h0]
          refine j true ?_
          unfold shapes_isScalar at h0
          unfold fits
          have : (b.Bounds.length == 0) = true := by simp at h0 ⊢; exact h0
          rw [this]; rfl
        · rw [if_neg h0, extents_eq' hbb]
          simp only [Option.bind_some]
          rw [equal_eq (by simp [exs]; omega)]
          simp only [Option.bind_some]
          refine j _ ?_
          unfold shapes_isScalar at h0
          unfold fits
          have : (b.Bounds.length == 0) = false := by simp at h0 ⊢; exact h0
          rw [this]; rfl
      · simp [hs]
    · simp [hc, hd]
  · simp [hc]
theorem refStored_eq {a b : api_Array} {q : List api_Subscript} (ha : a.Elements.length < 16777216) (hb : b.Elements.length < 16777216) (hbb : b.Bounds.length < 16777216) (hq : ∀ s, s ∈ q → s.List.length < 16777216) : ref15_Stored a q b = some (storedR a q b) := by
  unfold ref15_Stored storedR
  rw [refErr_eq ha, refErr_eq hb]
  simp only [Option.bind_some]
  by_cases hc : (chk a).2 = 0
  · have va := chk_valid hc
    have h7 := (bErr_ok va.b).len
    by_cases hd : (chk b).2 = 0
    · have vb := chk_valid hd
      simp only [hc, hd, not_true, if_false, ne_eq, if_true]
      rw [refSection_eq _ _ hq]
      simp only [Option.bind_some]
      by_cases hs : (secAll a.Bounds q).2 = 0
      · have sc := secAll_sct hs
        have h77 := sc.dims
        simp only [hs, not_true, if_false]
        have j : fits b (secAll a.Bounds q).1 = true → ref15_Stored.j1 a b (secAll a.Bounds q) () = some (if (secAll a.Bounds q).1.ManyOne = true then (⟨[], []⟩, 23) else (⟨a.Bounds, putAll a.Elements (secAll a.Bounds q).1.Offsets (itemR b) 0⟩, 0)) := by
          intro hf
          unfold ref15_Stored.j1
          cases hm : (secAll a.Bounds q).1.ManyOne with
          | true => simp
          | false =>
            simp only [Bool.false_eq_true, if_false]
            rw [refCopy_eq (by omega) (by omega)]
            simp only [Option.bind_some]
            have h512 := sc.small
            rw [put_loop (step := ref15_Stored.s2 b (secAll a.Bounds q)) (os := (secAll a.Bounds q).1.Offsets) (f := itemR b) (by omega) ?_ ?_]
            · rfl
            · intro i hi x hx
              simp only [ref15_Stored.s2, lt_len hi, if_true, at_lt hi, Option.bind_some, (item_eq vb sc hf hi).2]
              obtain ⟨r1, r2⟩ := sc.range _ (List.getElem_mem hi)
              rw [at_el r1 (by rw [hx, va.len]; exact r2)]
              simp only [Option.bind_some]
              rw [wn (by omega)]
            · intro x; simp only [ref15_Stored.s2, not_lt_len, if_false]
        by_cases h0 : (b.Bounds.length : Int) > 0
        · rw [if_pos h0, refExtents_eq' hbb]
          simp only [Option.bind_some]
          rw [ints_eq (by simp [exs]; omega) (by omega)]
          simp only [Option.bind_some]
          have hz : (b.Bounds.length == 0) = false := by rw [beq_eq_false_iff_ne]; omega
          have hff : fits b (secAll a.Bounds q).1 = (exs b.Bounds == (secAll a.Bounds q).1.Extents) := by unfold fits; rw [hz]; rfl
          cases he : (exs b.Bounds == (secAll a.Bounds q).1.Extents) with
          | true => rw [he] at hff; simp only [hff, not_true, if_false, Bool.true_eq_false]; exact j hff
          | false => rw [he] at hff; simp [hff]
        · rw [if_neg h0]
          have hff : fits b (secAll a.Bounds q).1 = true := by
            unfold fits
            have : (b.Bounds.length == 0) = true := by rw [beq_iff_eq]; omega
            rw [this]; rfl
          simp only [hff, Bool.true_eq_false, if_false]
          exact j hff
      · simp [hs]
    · simp [hc, hd]
  · simp [hc]
theorem same_self {a : api_Array} (h1 : a.Bounds.length < 16777216) (h2 : a.Elements.length < 16777216) : ref15_Same a a = some true := by
  unfold ref15_Same
  rw [ints_eq h2 h2]
  simp only [Option.bind_some, beq_self_eq_true, not_true, if_false]
  rw [loop_find (step := ref15_Same.s1 a a) a.Bounds (fun _ => (none : Option Bool)) (fun c => Sum.inr c) (Sum.inl ()) rfl ?_ ?_ (by omega)]
  · have : a.Bounds.findSome? (fun _ => (none : Option Bool)) = none := by simp
    rw [this]; rfl
  · intro i hi
    simp only [ref15_Same.s1, lt_len hi, if_true, at_lt hi, Option.bind_some, beq_self_eq_true, Bool.and_self, not_true, if_false]
    rw [wn (by omega)]
  · simp only [ref15_Same.s1, not_lt_len, if_false]
theorem is_self {a : api_Array} {e : Int} (h1 : a.Bounds.length < 16777216) (h2 : a.Elements.length < 16777216) : law15_is a e a e = some true := by
  unfold law15_is; rw [if_pos rfl, same_self h1 h2]; rfl
theorem ofExt_exs {es : List Int} (h : ∀ e, e ∈ es → 0 ≤ e ∧ e ≤ 512) : exs (ofExt es) = es := by
  unfold exs ofExt
  rw [List.map_map]
  conv => rhs; rw [← List.map_id es]
  refine List.map_congr_left fun e he => ?_
  have := h e he
  show shapes_extent (api_Bound.mk 1 e) = id e
  unfold shapes_extent mx
  simp only [id]
  rw [w_id (n := e - 1) (by omega) (by omega), w_id (by omega) (by omega)]
  split <;> omega
theorem ofExt_bErr {es : List Int} (h : ∀ e, e ∈ es → 0 ≤ e ∧ e ≤ 512) (h7 : es.length ≤ 7) (hp : P es ≤ 512) : bErr (ofExt es) = 0 := by
  have hx := ofExt_exs h
  unfold bErr
  rw [if_neg (by simp [ofExt]; omega)]
  have n1 : (ofExt es).any (fun b => !num b) = false := by
    rw [List.any_eq_false]
    intro b hb
    obtain ⟨e, he, rfl⟩ := List.mem_map.1 hb
    have := h e he
    simp [num, shapes_isNumber, shapes_inside]
    omega
  have n2 : (ofExt es).any (fun b => decide (shapes_extent b > 512)) = false := by
    rw [List.any_eq_false]
    intro b hb
    have hm : shapes_extent b ∈ exs (ofExt es) := List.mem_map_of_mem hb
    rw [hx] at hm
    have := h _ hm
    simp; omega
  rw [n1, n2]
  simp only [Bool.false_eq_true, if_false]
  have hx' : (ofExt es).map shapes_extent = es := hx
  rw [hx']
  have hpe : prodE es ≤ 512 := by
    by_cases h0 : es.any (fun x => 0 == x) = true
    · unfold prodE; rw [if_pos h0]; omega
    · unfold prodE
      rw [if_neg h0]
      have hr : ∀ x, x ∈ es → 1 ≤ x ∧ x ≤ 512 := by
        intro x hx
        simp only [List.any_eq_true, not_exists, not_and, beq_iff_eq] at h0
        have := h0 x hx
        have := h x hx
        omega
      have := capP_eq (a := 1) hr (by omega) (by omega)
      unfold capP
      omega
  rw [if_neg (by omega)]
theorem elAt_mem {xs : List Int} {o : Int} (h0 : 0 ≤ o) (h1 : o < (xs.length : Int)) : elAt xs o ∈ xs := by
  unfold elAt
  have : o.toNat < xs.length := by omega
  simp [this]
theorem taken_valid {a : api_Array} {q : List api_Subscript} (va : Valid a) (hs : (secAll a.Bounds q).2 = 0) : Valid ⟨ofExt (secAll a.Bounds q).1.Extents, (secAll a.Bounds q).1.Offsets.map (elAt a.Elements)⟩ := by
  have sc := secAll_sct hs
  have h512 := sc.small
  refine ⟨ofExt_bErr sc.ext sc.dims (by rw [← sc.len]; omega), ?_, ?_⟩
  · simp only [List.length_map]
    rw [ofExt_exs sc.ext, sc.len]
  · intro x hx
    obtain ⟨o, ho, rfl⟩ := List.mem_map.1 hx
    obtain ⟨r1, r2⟩ := sc.range o ho
    exact va.int _ (elAt_mem r1 (by rw [va.len]; exact r2))
theorem stored_valid {a b : api_Array} {s : api_Section} (va : Valid a) (vb : Valid b) (sc : Sct a.Bounds s) (hf : fits b s = true) : Valid ⟨a.Bounds, putAll a.Elements s.Offsets (itemR b) 0⟩ := by
  refine ⟨va.b, by simp only [putAll_len]; exact va.len, ?_⟩
  intro x hx
  rcases putAll_mem _ _ _ _ _ hx with h | ⟨k, h1, h2⟩
  · exact va.int x h
  · rw [Nat.zero_add] at h2
    obtain ⟨i1, _⟩ := item_eq vb sc hf h1
    subst h2
    have hm : ∀ o r, at_ b.Elements o = some r → shapes_isInteger r = true := by
      intro o r ho
      unfold at_ at ho
      split at ho
      · exact vb.int r (List.mem_of_getElem? ho)
      · cases ho
    unfold shapes_item at i1
    split at i1
    · obtain ⟨y, hy, hz⟩ := Option.bind_eq_some_iff.1 i1
      cases hz
      exact hm _ _ hy
    · obtain ⟨y, hy, hz⟩ := Option.bind_eq_some_iff.1 i1
      cases hz
      exact hm _ _ hy
theorem stores_j {a : api_Array} {q : List api_Subscript} (ha : a.Bounds.length ≤ 9 ∧ a.Elements.length ≤ 80) (hq9 : q.length ≤ 9) (hq : ∀ s, s ∈ q → s.List.length < 16777216) : law15_ShapesStores.j1 a q (takenR a q) (takenR a q) () = some true := by
  unfold law15_ShapesStores.j1
  by_cases ht : (takenR a q).2 = 0
  · simp only [ht, not_true, if_false]
    have hc : (chk a).2 = 0 := by
      unfold takenR at ht
      split at ht
      · rename_i h; exact absurd ht h
      · rename_i h; exact Classical.not_not.1 h
    have va := chk_valid hc
    have hs : (secAll a.Bounds q).2 = 0 := by
      unfold takenR at ht
      rw [if_neg (by simp [hc])] at ht
      split at ht
      · rename_i h; exact absurd ht h
      · rename_i h; exact Classical.not_not.1 h
    have sc := secAll_sct hs
    have h7 := sc.dims
    have h512 := sc.small
    have hT : takenR a q = (⟨ofExt (secAll a.Bounds q).1.Extents, (secAll a.Bounds q).1.Offsets.map (elAt a.Elements)⟩, 0) := by
      unfold takenR; simp [hc, hs]
    have vt := taken_valid va hs
    rw [hT]
    simp only
    rw [refCopy_eq (by omega) (by omega), copySubscripts_eq (by omega) hq, refCopy_eq (by simp [ofExt]; omega) (by simp; omega)]
    simp only [Option.bind_some]
    rw [stored_eq (by omega) (by simp; omega) (by simp [ofExt]; omega) hq]
    simp only [Option.bind_some]
    have hfit : fits ⟨ofExt (secAll a.Bounds q).1.Extents, (secAll a.Bounds q).1.Offsets.map (elAt a.Elements)⟩ (secAll a.Bounds q).1 = true := by
      unfold fits
      simp only [ofExt_exs sc.ext, beq_self_eq_true, Bool.or_true]
    unfold storedR
    simp only [hc, valid_chk vt, hs, ne_eq, not_true, if_false, hfit, Bool.true_eq_false]
    cases hm : (secAll a.Bounds q).1.ManyOne with
    | true => simp
    | false =>
      simp only [Bool.false_eq_true, if_false, show ¬ (0 : Int) = 23 by decide, if_true]
      have e : putAll a.Elements (secAll a.Bounds q).1.Offsets (itemR ⟨ofExt (secAll a.Bounds q).1.Extents, (secAll a.Bounds q).1.Offsets.map (elAt a.Elements)⟩) 0 = a.Elements := by
        refine putAll_same _ _ _ _ (fun x hx => by have := sc.range x hx; rw [va.len]; exact this) fun k hk => ?_
        rw [Nat.zero_add]
        unfold itemR
        by_cases h0 : (ofExt (secAll a.Bounds q).1.Extents).length = 0
        · rw [if_pos h0]
          have he : (secAll a.Bounds q).1.Extents = [] := by simpa [ofExt] using h0
          have hl := sc.len
          rw [he] at hl
          simp [P] at hl
          have hk0 : k = 0 := by omega
          subst hk0
          unfold elAt
          simp [hk]
        · rw [if_neg h0]
          unfold elAt
          simp [hk]
      rw [e]
      rw [same_self (a := ⟨a.Bounds, a.Elements⟩) (by simp only; omega) (by simp only; omega)]
      rfl
  · simp only [ht, not_false_eq_true, if_true]
theorem takenR_len (a : api_Array) (q : List api_Subscript) : (takenR a q).1.Bounds.length < 16777216 ∧ (takenR a q).1.Elements.length < 16777216 := by
  unfold takenR
  split
  · simp
  · split
    · simp
    · rename_i h1 h2
      have sc := secAll_sct (Classical.not_not.1 h2)
      have h7 := sc.dims
      have h512 := sc.small
      simp [ofExt]
      omega
theorem storedR_len (a b : api_Array) (q : List api_Subscript) (h1 : a.Bounds.length < 16777216) (h2 : a.Elements.length < 16777216) : (storedR a q b).1.Bounds.length < 16777216 ∧ (storedR a q b).1.Elements.length < 16777216 := by
  unfold storedR
  repeat' split
  all_goals first
    | (simp; done)
    | (simp only [putAll_len]; exact ⟨h1, h2⟩)
theorem ShapesStores_true (a : api_Array) (q : List api_Subscript) (b : api_Array) : law15_ShapesStores a q b = some true := by
  unfold law15_ShapesStores
  rw [awake_eq]
  simp only [Option.bind_some, not_true, if_false]
  by_cases hg : ((!(law15_few a)) || (!(law15_few b))) = true
  · rw [if_pos hg]
  · rw [if_neg hg]
    simp at hg
    have fa := few_ok hg.1
    have fb := few_ok hg.2
    obtain ⟨r, hr⟩ := brief_some q
    rw [hr]
    simp only [Option.bind_some]
    cases r with
    | false => simp
    | true =>
      obtain ⟨h9, hs⟩ := brief_eq hr
      have hq : ∀ s, s ∈ q → s.List.length < 16777216 := fun s h => by have := hs s h; omega
      simp only [not_true, if_false]
      rw [refCopy_eq (by omega) (by omega), refCopy_eq (by omega) (by omega), copySubscripts_eq (by omega) hq]
      simp only [Option.bind_some]
      rw [taken_eq (by omega) hq, stored_eq (by omega) (by omega) (by omega) hq, refTaken_eq (by omega) hq, refStored_eq (by omega) (by omega) (by omega) hq]
      simp only [Option.bind_some]
      obtain ⟨t1, t2⟩ := takenR_len a q
      obtain ⟨u1, u2⟩ := storedR_len a b q (by omega) (by omega)
      rw [is_self t1 t2, is_self u1 u2]
      simp only [Option.bind_some, not_true, if_false]
      have j := stores_j fa h9 hq
      by_cases hst : (storedR a q b).2 = 0
      · simp only [hst, if_true]
        have hca : (chk a).2 = 0 := by
          unfold storedR at hst
          split at hst
          · rename_i h; exact absurd hst h
          · rename_i h; exact Classical.not_not.1 h
        have hcb : (chk b).2 = 0 := by
          unfold storedR at hst
          rw [if_neg (by simp [hca])] at hst
          split at hst
          · rename_i h; exact absurd hst h
          · rename_i h; exact Classical.not_not.1 h
        have hsec : (secAll a.Bounds q).2 = 0 := by
          unfold storedR at hst
          rw [if_neg (by simp [hca]), if_neg (by simp [hcb])] at hst
          split at hst
          · rename_i h; exact absurd hst h
          · rename_i h; exact Classical.not_not.1 h
        have va := chk_valid hca
        have vb := chk_valid hcb
        have sc := secAll_sct hsec
        have h512 := sc.small
        cases hf : fits b (secAll a.Bounds q).1 with
        | false => unfold storedR at hst; simp [hca, hcb, hsec, hf] at hst
        | true =>
          cases hm : (secAll a.Bounds q).1.ManyOne with
          | true => unfold storedR at hst; simp [hca, hcb, hsec, hf, hm] at hst
          | false =>
            have hS : storedR a q b = (⟨a.Bounds, putAll a.Elements (secAll a.Bounds q).1.Offsets (itemR b) 0⟩, 0) := by
              unfold storedR; simp [hca, hcb, hsec, hf, hm]
            have vs := stored_valid va vb sc hf
            rw [hS]
            simp only
            rw [refCopy_eq (by simp only; omega) (by simp only [putAll_len]; omega)]
            simp only [Option.bind_some]
            rw [taken_eq (by simp only [putAll_len]; omega) hq]
            simp only [Option.bind_some]
            have hT : takenR ⟨a.Bounds, putAll a.Elements (secAll a.Bounds q).1.Offsets (itemR b) 0⟩ q = (⟨ofExt (secAll a.Bounds q).1.Extents, (secAll a.Bounds q).1.Offsets.map (elAt (putAll a.Elements (secAll a.Bounds q).1.Offsets (itemR b) 0))⟩, 0) := by
              unfold takenR; simp [valid_chk vs, hsec]
            have hT0 : takenR a q = (⟨ofExt (secAll a.Bounds q).1.Extents, (secAll a.Bounds q).1.Offsets.map (elAt a.Elements)⟩, 0) := by
              unfold takenR; simp [hca, hsec]
            rw [hT]
            have hlen : ((((0 : Int) != 0) || (((List.map (elAt (putAll a.Elements (secAll a.Bounds q).1.Offsets (itemR b) 0)) (secAll a.Bounds q).1.Offsets).length : Int) != ((takenR a q).1.Elements.length : Int)))) = false := by
              rw [hT0]; simp
            simp only [hlen, Bool.false_eq_true, if_false]
            rw [loop_find (step := law15_ShapesStores.s2 b (⟨ofExt (secAll a.Bounds q).1.Extents, (secAll a.Bounds q).1.Offsets.map (elAt (putAll a.Elements (secAll a.Bounds q).1.Offsets (itemR b) 0))⟩, 0)) (secAll a.Bounds q).1.Offsets (fun _ => (none : Option Bool)) (fun c => Sum.inr c) (Sum.inl ()) rfl ?_ ?_ (by omega)]
            · have : (secAll a.Bounds q).1.Offsets.findSome? (fun _ => (none : Option Bool)) = none := by simp
              rw [this]
              simp only [Option.bind_some]
              exact j
            · intro i hi
              have hi' : i < (List.map (elAt (putAll a.Elements (secAll a.Bounds q).1.Offsets (itemR b) 0)) (secAll a.Bounds q).1.Offsets).length := by simpa using hi
              simp only [law15_ShapesStores.s2, lt_len hi', if_true, at_lt hi', Option.bind_some, (item_eq vb sc hf hi).2, List.getElem_map]
              rw [putAll_new _ _ _ _ (sc.nodup hm) (fun x hx => by have := sc.range x hx; rw [va.len]; exact this) i hi, Nat.zero_add]
              simp only [not_true, if_false]
              rw [wn (by omega)]
            · simp only [law15_ShapesStores.s2, List.length_map, not_lt_len, if_false]
      · simp only [hst, if_false]
        exact j
end Go.Sh
