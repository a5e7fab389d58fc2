/- What the functions compute answers as the statement says. -/
import Derived.Test.YtiidkobbkanciaaGreatDependNestsSh
set_option linter.all false
namespace Go.Sh
open Go.Lx
set_option linter.unusedVariables false
set_option linter.unusedSimpArgs false
theorem awake_eq : law27_awake = some true := by decide +kernel
theorem lt_len {i n : Nat} (h : i < n) : ((i : Int) < (n : Int)) = True := eq_true (by omega)
theorem not_lt_len (n : Nat) : ((n : Int) < (n : Int)) = False := eq_false (by omega)
theorem copyInts_eq {p : List Int} (h : p.length ≤ 16777216) : base_CopyInts p = some p := by
  unfold base_CopyInts; rw [mkSl_len h]; simp [copied_all]
theorem findSome_const {α ρ : Type} {p : α → Bool} {c : ρ} : ∀ xs : List α, xs.findSome? (fun x => if p x = true then some c else none) = if xs.any p = true then some c else none
  | [] => rfl
  | x :: xs => by
    simp only [List.findSome?_cons, List.any_cons]
    by_cases e : p x = true
    · simp [e]
    · simp only [e, if_false, Bool.false_or]; exact findSome_const xs
theorem cmpOr2 (a b : Int) : cmp_Or_api_Errno [a, b] = some (if a = 0 then b else a) := by
  unfold cmp_Or_api_Errno
  rw [loop_find (step := cmp_Or_api_Errno.s1 [a, b]) [a, b] (fun x => if x = 0 then none else some x) (fun c => Sum.inr c) (Sum.inl ()) rfl ?_ ?_ (by simp)]
  · by_cases h1 : a = 0
    · by_cases h2 : b = 0
      · simp [h1, h2]
      · simp [h1, h2]
    · simp [h1]
  · intro i hi
    simp only [cmp_Or_api_Errno.s1, lt_len hi, if_true, at_lt hi, Option.bind_some]
    by_cases e : [a, b][i] = 0
    · simp only [e, not_true, if_false, if_true]; rw [wn (by simp at hi; omega)]
    · simp only [e, not_false_eq_true, if_true, if_false]
  · simp only [cmp_Or_api_Errno.s1, not_lt_len, if_false]
theorem before_eq : ∀ (n : Nat) (a b : List Int), a.length < n → n ≤ 16777217 → b.length < 16777216 → ∃ r, base_Before.N n a b = some r ∧ (r = true → a ≠ b)
  | 0, a, b, h, _, _ => absurd h (Nat.not_lt_zero _)
  | n + 1, a, b, h, hn, hb => by
    show ∃ r, base_Before.F (base_Before.N n) a b = some r ∧ _
    unfold base_Before.F
    match a, b with
    | [], b => exact ⟨_, rfl, fun h => by simp at h; intro q; subst q; simp at h⟩
    | x :: a, [] => exact ⟨_, rfl, fun h => by simp at h; omega⟩
    | x :: a, y :: b =>
      have e0 : ¬ ((((x :: a).length : Int) == 0) || (((y :: b).length : Int) == 0)) = true := by simp; omega
      have c1 : cut (x :: a) 1 ((x :: a).length : Int) = some a := by unfold cut; rw [if_pos (by simp; omega)]; simp
      have c2 : cut (y :: b) 1 ((y :: b).length : Int) = some b := by unfold cut; rw [if_pos (by simp; omega)]; simp
      have a1 : at_ (x :: a) 0 = some x := rfl
      have a2 : at_ (y :: b) 0 = some y := rfl
      rw [if_neg e0]
      simp only [a1, a2, Option.bind_some]
      by_cases h1 : x < y
      · exact ⟨true, by simp [h1], fun _ q => by simp at q; omega⟩
      · by_cases h2 : x = y
        · obtain ⟨r, h3, h4⟩ := before_eq n a b (by simp at h; omega) (by omega) (by simp at hb; omega)
          refine ⟨r, ?_, fun hr q => h4 hr (by simp at q; exact q.2)⟩
          subst h2
          rw [if_neg h1, if_pos rfl, c1, c2]
          simp only [Option.bind_some, h3]
        · exact ⟨false, by simp [h1, h2], fun q => by cases q⟩
theorem before_tri : ∀ (n m : Nat) (a b : List Int), base_Before.N n a b = some false → base_Before.N m b a = some false → a.length = b.length → a = b
  | 0, m, a, b, h, _, _ => by cases h
  | n + 1, 0, a, b, _, h, _ => by cases h
  | n + 1, m + 1, a, b, h, k, hl => by
    change base_Before.F (base_Before.N n) a b = some false at h
    change base_Before.F (base_Before.N m) b a = some false at k
    unfold base_Before.F at h k
    match a, b, hl with
    | [], [], _ => rfl
    | x :: a, y :: b, hl =>
      have e0 : ¬ ((((x :: a).length : Int) == 0) || (((y :: b).length : Int) == 0)) = true := by simp; omega
      have e1 : ¬ ((((y :: b).length : Int) == 0) || (((x :: a).length : Int) == 0)) = true := by simp; omega
      have c1 : cut (x :: a) 1 ((x :: a).length : Int) = some a := by unfold cut; rw [if_pos (by simp; omega)]; simp
      have c2 : cut (y :: b) 1 ((y :: b).length : Int) = some b := by unfold cut; rw [if_pos (by simp; omega)]; simp
      have a1 : at_ (x :: a) 0 = some x := rfl
      have a2 : at_ (y :: b) 0 = some y := rfl
      rw [if_neg e0] at h
      rw [if_neg e1] at k
      simp only [a1, a2, Option.bind_some, c1, c2] at h k
      by_cases h1 : x < y
      · simp [h1] at h
      · by_cases h2 : y < x
        · simp [h2] at k
        · have h3 : x = y := by omega
          subst h3
          simp only [h1, if_false, if_true] at h k
          obtain ⟨r, hr, h⟩ := Option.bind_eq_some_iff.1 h
          obtain ⟨r', hr', k⟩ := Option.bind_eq_some_iff.1 k
          cases h
          cases k
          rw [before_tri n m a b hr hr' (by simpa using hl)]
theorem ints_eq {a b : List Int} (ha : a.length < 16777216) (hb : b.length < 16777216) : base_Ints a b = some (a == b) := by
  unfold base_Ints
  have hF : (16777217 : Nat) ≤ FUEL := by unfold FUEL; omega
  have step : ∀ (n : Nat) (a b : List Int) (r : Bool), base_Before.N n a b = some r → base_Before.N (n + 1) a b = some r := by
    intro n
    induction n with
    | zero => intro a b r h; cases h
    | succ n ih =>
      intro a b r h
      change base_Before.F (base_Before.N n) a b = some r at h
      show base_Before.F (base_Before.N (n + 1)) a b = some r
      unfold base_Before.F at h ⊢
      split
      · rename_i hc; rw [if_pos hc] at h; exact h
      · rename_i hc
        rw [if_neg hc] at h
        obtain ⟨x4, h4, h⟩ := Option.bind_eq_some_iff.1 h
        obtain ⟨x5, h5, h⟩ := Option.bind_eq_some_iff.1 h
        rw [h4, h5]
        simp only [Option.bind_some]
        split
        · rename_i hd; rw [if_pos hd] at h; exact h
        · rename_i hd
          rw [if_neg hd] at h
          rw [h4, h5] at h
          simp only [Option.bind_some] at h ⊢
          split
          · rename_i he
            rw [if_pos he] at h
            obtain ⟨x6, h6, h⟩ := Option.bind_eq_some_iff.1 h
            obtain ⟨x7, h7, h⟩ := Option.bind_eq_some_iff.1 h
            obtain ⟨x8, h8, h⟩ := Option.bind_eq_some_iff.1 h
            rw [h6, h7]
            simp only [Option.bind_some]
            rw [ih _ _ _ h8]
            exact h
          · rename_i he; rw [if_neg he] at h; exact h
  have up : ∀ (n m : Nat) (a b : List Int) (r : Bool), n ≤ m → base_Before.N n a b = some r → base_Before.N m a b = some r := by
    intro n m a b r hnm h
    induction hnm with
    | refl => exact h
    | step _ ih => exact step _ _ _ _ ih
  have get : ∀ a b : List Int, a.length < 16777216 → b.length < 16777216 → ∃ r, base_Before a b = some r ∧ (r = true → a ≠ b) := by
    intro a b ha hb
    obtain ⟨r, h1, h2⟩ := before_eq 16777217 a b (by omega) (Nat.le_refl _) hb
    exact ⟨r, up _ _ _ _ _ hF h1, h2⟩
  by_cases hl : (a.length : Int) = (b.length : Int)
  · rw [if_pos hl]
    obtain ⟨r, h1, h2⟩ := get a b ha hb
    obtain ⟨r', h3, h4⟩ := get b a hb ha
    rw [h1, h3]
    simp only [Option.bind_some]
    cases r with
    | true => simp; exact h2 rfl
    | false =>
      cases r' with
      | true => simp; exact fun q => h4 rfl q.symm
      | false => simp; exact before_tri _ _ _ _ h1 h3 (by omega)
  · rw [if_neg hl]
    have : a ≠ b := fun q => hl (by rw [q])
    simp [this]
theorem within_eq (a b c : Int) : base_Within a b c = depend_inside a b c := by
  unfold base_Within depend_inside
  simp only [Bool.not_or, ← decide_not]
  congr 1 <;> exact decide_eq_decide.2 (by omega)
theorem brokenG : ∀ (l : List depend_rule), l.length < 100 → depend_broken l = some (match l.findSome? (fun r => if r.holds = true then none else some r.code) with | some c => c | none => 0) := by
  intro l hl
  unfold depend_broken
  rw [loop_find (step := depend_broken.s1 l) l (fun r => if r.holds = true then none else some r.code) (fun c => Sum.inr c) (Sum.inl ()) rfl ?_ ?_ (by omega)]
  · cases l.findSome? (fun r => if r.holds = true then none else some r.code) <;> rfl
  · intro i hi
    simp only [depend_broken.s1, lt_len hi, if_true, at_lt hi, Option.bind_some]
    by_cases h : l[i].holds = true
    · simp only [h, not_true, if_false, if_true]; rw [wn (by omega)]
    · simp only [h, not_false_eq_true, if_true, if_false, Bool.false_eq_true]
  · simp only [depend_broken.s1, not_lt_len, if_false]
theorem broken1 (b : Bool) (c : Int) : depend_broken [depend_rule.mk b c] = some (if b = true then 0 else c) := by
  rw [brokenG _ (by simp)]; cases b <;> rfl
theorem broken2 (a b : Bool) (c d : Int) : depend_broken [depend_rule.mk a c, depend_rule.mk b d] = some (if a = true then (if b = true then 0 else d) else c) := by
  rw [brokenG _ (by simp)]; cases a <;> cases b <;> rfl
def oddC (l : List Int) : Bool := l.any fun c => !depend_inside c (-8) 8
def fErr (x : api_Affine) (k : Int) : Int := if (x.Coefs.length : Int) = k then (if oddC x.Coefs = true then 2 else if depend_inside x.Const (-64) 64 = true then 0 else 2) else 10
theorem oddC_eq {p : List Int} (h : p.length < 16777216) : slices_ContainsFunc_int__depend_formErr_c1 p = some (oddC p) := by
  unfold slices_ContainsFunc_int__depend_formErr_c1 slices_IndexFunc_int__depend_formErr_c1
  obtain ⟨k, hk⟩ := loop_any (step := slices_IndexFunc_int__depend_formErr_c1.s1 p) p (fun c => !depend_inside c (-8) 8) (fun i => Sum.inr i) (Sum.inl ()) (s := 0) rfl (fun i hi => by
    simp only [slices_IndexFunc_int__depend_formErr_c1.s1, lt_len hi, if_true, at_lt hi, Option.bind_some, depend_formErr_c1]
    by_cases e : (!depend_inside p[i] (-8) 8) = true
    · simp only [e, if_true]
    · simp only [e, if_false, Bool.false_eq_true]; rw [wn (by omega)]) (by simp only [slices_IndexFunc_int__depend_formErr_c1.s1, not_lt_len, if_false]) (by omega)
  rw [hk]
  unfold oddC
  by_cases e : p.any (fun c => !depend_inside c (-8) 8) = true
  · simp only [e, if_true, Option.bind_some]
    have : (k : Int) ≥ 0 := by omega
    simp [this]
  · simp only [e, if_false, Option.bind_some, Bool.false_eq_true]
    simp at e ⊢
theorem formErr_eq {x : api_Affine} (h : x.Coefs.length < 16777216) (k : Int) : depend_formErr x k = some (fErr x k) := by
  unfold depend_formErr fErr
  rw [oddC_eq h]
  simp only [Option.bind_some]
  by_cases e : oddC x.Coefs = true
  · simp only [e, not_true, if_false, if_true]
    rw [broken2]
    by_cases h2 : (x.Coefs.length : Int) = k <;> simp [h2]
  · simp only [e, not_false_eq_true, if_true, if_false, Bool.false_eq_true]
    rw [broken2]
    by_cases h2 : (x.Coefs.length : Int) = k <;> simp [h2]
theorem affineErr_eq {x : api_Affine} (h : x.Coefs.length < 16777216) (k : Int) : ref27_AffineErr x k = some (fErr x k) := by
  unfold ref27_AffineErr fErr
  by_cases h2 : (x.Coefs.length : Int) = k
  · simp only [h2, not_true, if_false, if_true]
    rw [loop_find (step := ref27_AffineErr.s1 x k) x.Coefs (fun z => if (!depend_inside z (-8) 8) = true then some () else none) (fun _ => .inr 2) (.inl ()) rfl ?_ ?_ (by omega), findSome_const]
    · unfold oddC
      by_cases e : x.Coefs.any (fun c => !depend_inside c (-8) 8) = true
      · simp only [e, if_true, Option.bind_some]
      · simp only [e, if_false, Option.bind_some, Bool.false_eq_true, within_eq]
        by_cases e2 : depend_inside x.Const (-64) 64 = true <;> simp [e2]
    · intro i hi
      have hk : ((i : Int) < k) = True := eq_true (by omega)
      simp only [ref27_AffineErr.s1, hk, if_true, at_lt hi, Option.bind_some, within_eq]
      by_cases e : depend_inside x.Coefs[i] (-8) 8 = true
      · simp only [e, not_true, if_false, Bool.not_true, Bool.false_eq_true]; rw [wn (by omega)]
      · have : depend_inside x.Coefs[i] (-8) 8 = false := by simpa using e
        simp [this]
    · have hk : ((x.Coefs.length : Int) < k) = False := eq_false (by omega)
      simp only [ref27_AffineErr.s1, hk, if_false]
  · simp only [h2, not_false_eq_true, if_true, if_false]
theorem fErr_ok {x : api_Affine} {k : Int} (h : fErr x k = 0) : (x.Coefs.length : Int) = k ∧ (∀ c, c ∈ x.Coefs → -8 ≤ c ∧ c ≤ 8) ∧ -64 ≤ x.Const ∧ x.Const ≤ 64 := by
  unfold fErr at h
  split at h
  · rename_i h1
    split at h
    · cases h
    · rename_i h2
      split at h
      · rename_i h3
        refine ⟨h1, ?_, by simpa [depend_inside] using h3⟩
        intro c hc
        have : oddC x.Coefs = false := by simpa using h2
        have := List.any_eq_false.1 this c hc
        simp only [Bool.not_eq_true', Bool.not_eq_false] at this
        simpa [depend_inside] using this
      · cases h
  · cases h
def vl (x : api_Affine) (pt : List Int) : Int := (x.Coefs.zip pt).foldl (fun b t => w (b + w (t.1 * t.2))) x.Const
theorem value_eq {x : api_Affine} {pt : List Int} (h : x.Coefs.length ≤ pt.length) (hp : pt.length < 16777216) : depend_value x pt = some (vl x pt) := by
  unfold depend_value vl
  have hz : (x.Coefs.zip pt).length = x.Coefs.length := by simp; omega
  rw [loop_fold (step := depend_value.s1 x pt) (x.Coefs.zip pt) (fun i (b : Int) => (b, i)) (fun b => b) (fun b t => w (b + w (t.1 * t.2))) (fun _ _ => True) (a := x.Const) rfl ?_ ?_ trivial (by omega)]
  · rfl
  · intro i hi b _
    refine ⟨?_, trivial⟩
    rw [hz] at hi
    have h2 : i < pt.length := by omega
    simp only [depend_value.s1, lt_len hi, if_true, at_lt hi, at_lt h2, Option.bind_some, List.getElem_zip]
    rw [wn (by omega)]
  · intro b _; rw [hz]; simp only [depend_value.s1, not_lt_len, if_false]
theorem refValue_eq {x : api_Affine} {pt : List Int} (h : x.Coefs.length ≤ pt.length) (hp : pt.length < 16777216) : ref27_Value x pt = some (vl x pt) := by
  unfold ref27_Value vl
  have hz : (x.Coefs.zip pt).length = x.Coefs.length := by simp; omega
  rw [loop_fold (step := ref27_Value.s1 x pt) (x.Coefs.zip pt) (fun i (b : Int) => (b, i)) (fun b => b) (fun b t => w (b + w (t.1 * t.2))) (fun _ _ => True) (a := x.Const) rfl ?_ ?_ trivial (by omega)]
  · rfl
  · intro i hi b _
    refine ⟨?_, trivial⟩
    rw [hz] at hi
    have h2 : i < pt.length := by omega
    simp only [ref27_Value.s1, lt_len hi, if_true, at_lt hi, at_lt h2, Option.bind_some, List.getElem_zip]
    rw [wn (by omega)]
  · intro b _; rw [hz]; simp only [ref27_Value.s1, not_lt_len, if_false]
theorem vl_bound {x : api_Affine} {k : Int} (h : fErr x k = 0) {pt : List Int} {M : Int} (hM : 0 ≤ M) (hM2 : M ≤ 1000000000) (hp : ∀ z, z ∈ pt → -M ≤ z ∧ z ≤ M) (hl : pt.length ≤ 100) : -(64 + 8 * M * pt.length) ≤ vl x pt ∧ vl x pt ≤ 64 + 8 * M * pt.length := by
  obtain ⟨_, hc, h1, h2⟩ := fErr_ok h
  have key : ∀ (cs pt : List Int) (b : Int), (∀ c, c ∈ cs → -8 ≤ c ∧ c ≤ 8) → (∀ z, z ∈ pt → -M ≤ z ∧ z ≤ M) → -1000000000000 ≤ b - 8 * M * pt.length → b + 8 * M * pt.length ≤ 1000000000000 →
      b - 8 * M * pt.length ≤ (cs.zip pt).foldl (fun b t => w (b + w (t.1 * t.2))) b ∧ (cs.zip pt).foldl (fun b t => w (b + w (t.1 * t.2))) b ≤ b + 8 * M * pt.length := by
    intro cs
    induction cs with
    | nil =>
      intro pt b _ _ h1 h2
      have : 0 ≤ 8 * M * (pt.length : Int) := Int.mul_nonneg (by omega) (by omega)
      simp; omega
    | cons c cs ih =>
      intro pt b hc hp h1 h2
      cases pt with
      | nil => simp
      | cons z pt =>
        have hcc := hc c (.head _)
        have hz := hp z (.head _)
        rw [List.length_cons, Int.natCast_add, Int.mul_add] at h1 h2 ⊢
        simp only [Int.natCast_one, Int.mul_one] at h1 h2 ⊢
        have hn : 0 ≤ 8 * M * (pt.length : Int) := Int.mul_nonneg (by omega) (by omega)
        have e1 : c * z ≤ 8 * M ∧ -(8 * M) ≤ c * z := by
          have p1 : 0 ≤ (8 - c) * (M - z) := Int.mul_nonneg (by omega) (by omega)
          have p2 : 0 ≤ (8 + c) * (M + z) := Int.mul_nonneg (by omega) (by omega)
          have p3 : 0 ≤ (8 - c) * (M + z) := Int.mul_nonneg (by omega) (by omega)
          have p4 : 0 ≤ (8 + c) * (M - z) := Int.mul_nonneg (by omega) (by omega)
          simp only [Int.sub_mul, Int.add_mul, Int.mul_sub, Int.mul_add] at p1 p2 p3 p4
          omega
        have hs : w (b + w ((c, z).fst * (c, z).snd)) = b + c * z := by
          show w (b + w (c * z)) = b + c * z
          rw [w_id (n := c * z) (by omega) (by omega), w_id (by omega) (by omega)]
        rw [List.zip_cons_cons, List.foldl_cons, hs]
        have := ih pt (b + c * z) (fun y hy => hc y (.tail _ hy)) (fun y hy => hp y (.tail _ hy)) (by omega) (by omega)
        omega
  have hb : 8 * M * (pt.length : Int) ≤ 8 * M * 100 := Int.mul_le_mul_of_nonneg_left (by omega) (by omega)
  have hn : 0 ≤ 8 * M * (pt.length : Int) := Int.mul_nonneg (by omega) (by omega)
  have := key x.Coefs pt x.Const hc hp (by omega) (by omega)
  unfold vl
  omega
end Go.Sh
namespace Go.Sh
open Go.Lx
set_option linter.unusedVariables false
set_option linter.unusedSimpArgs false
def lo (x : api_Affine) (l : List api_Hull) : Int := (x.Coefs.zip l).foldl (fun b t => w (b + mn (w (t.1 * t.2.Low)) (w (t.1 * t.2.High)))) x.Const
def hi (x : api_Affine) (l : List api_Hull) : Int := (x.Coefs.zip l).foldl (fun b t => w (b + mx (w (t.1 * t.2.Low)) (w (t.1 * t.2.High)))) x.Const
theorem least_eq {x : api_Affine} {l : List api_Hull} (h : x.Coefs.length ≤ l.length) (hp : l.length < 16777216) : depend_least x l = some (lo x l) := by
  unfold depend_least lo
  have hz : (x.Coefs.zip l).length = x.Coefs.length := by simp; omega
  rw [loop_fold (step := depend_least.s1 x l) (x.Coefs.zip l) (fun i (b : Int) => (b, i)) (fun b => b) (fun b t => w (b + mn (w (t.1 * t.2.Low)) (w (t.1 * t.2.High)))) (fun _ _ => True) (a := x.Const) rfl ?_ ?_ trivial (by omega)]
  · rfl
  · intro i hi b _
    refine ⟨?_, trivial⟩
    rw [hz] at hi
    have h2 : i < l.length := by omega
    simp only [depend_least.s1, lt_len hi, if_true, at_lt hi, at_lt h2, Option.bind_some, List.getElem_zip]
    rw [wn (by omega)]
  · intro b _; rw [hz]; simp only [depend_least.s1, not_lt_len, if_false]
theorem greatest_eq {x : api_Affine} {l : List api_Hull} (h : x.Coefs.length ≤ l.length) (hp : l.length < 16777216) : depend_greatest x l = some (hi x l) := by
  unfold depend_greatest hi
  have hz : (x.Coefs.zip l).length = x.Coefs.length := by simp; omega
  rw [loop_fold (step := depend_greatest.s1 x l) (x.Coefs.zip l) (fun i (b : Int) => (b, i)) (fun b => b) (fun b t => w (b + mx (w (t.1 * t.2.Low)) (w (t.1 * t.2.High)))) (fun _ _ => True) (a := x.Const) rfl ?_ ?_ trivial (by omega)]
  · rfl
  · intro i hi b _
    refine ⟨?_, trivial⟩
    rw [hz] at hi
    have h2 : i < l.length := by omega
    simp only [depend_greatest.s1, lt_len hi, if_true, at_lt hi, at_lt h2, Option.bind_some, List.getElem_zip]
    rw [wn (by omega)]
  · intro b _; rw [hz]; simp only [depend_greatest.s1, not_lt_len, if_false]
theorem between_eq {x : api_Affine} {l : List api_Hull} (h : x.Coefs.length ≤ l.length) (hp : l.length < 16777216) : ref27_between x l = some ⟨lo x l, hi x l⟩ := by
  unfold ref27_between
  have hz : (x.Coefs.zip l).length = x.Coefs.length := by simp; omega
  rw [loop_fold (step := ref27_between.s1 x l) (x.Coefs.zip l) (fun i (b : Int × Int) => (i, b.1, b.2)) (fun b => (b.1, b.2)) (fun b t => (w (b.1 + mn (w (t.1 * t.2.Low)) (w (t.1 * t.2.High))), w (b.2 + mx (w (t.1 * t.2.Low)) (w (t.1 * t.2.High))))) (fun _ _ => True) (a := (x.Const, x.Const)) rfl ?_ ?_ trivial (by omega)]
  · have key : ∀ (T : List (Int × api_Hull)) (a b : Int), T.foldl (fun (b : Int × Int) t => (w (b.1 + mn (w (t.1 * t.2.Low)) (w (t.1 * t.2.High))), w (b.2 + mx (w (t.1 * t.2.Low)) (w (t.1 * t.2.High))))) (a, b) =
        (T.foldl (fun b t => w (b + mn (w (t.1 * t.2.Low)) (w (t.1 * t.2.High)))) a, T.foldl (fun b t => w (b + mx (w (t.1 * t.2.Low)) (w (t.1 * t.2.High)))) b) := by
      intro T
      induction T with
      | nil => intros; rfl
      | cons t T ih => intro a b; simp only [List.foldl_cons]; exact ih _ _
    rw [key]
    rfl
  · intro i hi b _
    refine ⟨?_, trivial⟩
    rw [hz] at hi
    have h2 : i < l.length := by omega
    simp only [ref27_between.s1, lt_len hi, if_true, at_lt hi, at_lt h2, Option.bind_some, List.getElem_zip]
    rw [wn (by omega)]
  · intro b _; rw [hz]; simp only [ref27_between.s1, not_lt_len, if_false]
def hls (p : List api_Loop) : List api_Hull := p.foldl (fun out l => out ++ [⟨lo l.Low out, hi l.High out⟩]) []
structure VN (p : List api_Loop) : Prop where
  len : p.length ≤ 3
  f : ∀ k (h : k < p.length), fErr p[k].Low k = 0 ∧ fErr p[k].High k = 0
theorem VN.lens {p : List api_Loop} (h : VN p) {k : Nat} (hk : k < p.length) : p[k].Low.Coefs.length = k ∧ p[k].High.Coefs.length = k := by
  obtain ⟨h1, h2⟩ := h.f k hk
  have := (fErr_ok h1).1
  have := (fErr_ok h2).1
  omega
theorem hulls_eq {p : List api_Loop} (h : VN p) : depend_hulls p = some (hls p) := by
  have hl := h.len
  unfold depend_hulls hls
  rw [loop_fold (step := depend_hulls.s1 p) p (fun i (b : List api_Hull) => (i, b)) (fun b => b) (fun out l => out ++ [⟨lo l.Low out, hi l.High out⟩]) (fun i b => b.length = i) (a := []) rfl ?_ ?_ rfl (by omega)]
  · rfl
  · intro i hi' b hb
    obtain ⟨h1, h2⟩ := h.lens hi'
    refine ⟨?_, by simp [hb]⟩
    simp only [depend_hulls.s1, lt_len hi', if_true, at_lt hi', Option.bind_some]
    change (depend_least p[i].Low b).bind _ = _
    rw [least_eq (by omega) (by omega)]
    simp only [Option.bind_some]
    change (depend_greatest p[i].High b).bind _ = _
    rw [greatest_eq (by omega) (by omega)]
    simp only [Option.bind_some]
    rw [app_one (by omega), wn (by omega)]
    rfl
  · intro b _; simp only [depend_hulls.s1, not_lt_len, if_false]
theorem refHulls_eq {p : List api_Loop} (h : VN p) : ref27_Hulls p = some (hls p) := by
  have hl := h.len
  unfold ref27_Hulls hls
  rw [loop_fold (step := ref27_Hulls.s1 p) p (fun i (b : List api_Hull) => (i, b)) (fun b => b) (fun out l => out ++ [⟨lo l.Low out, hi l.High out⟩]) (fun i b => b.length = i) (a := []) rfl ?_ ?_ rfl (by omega)]
  · rfl
  · intro i hi' b hb
    obtain ⟨h1, h2⟩ := h.lens hi'
    refine ⟨?_, by simp [hb]⟩
    simp only [ref27_Hulls.s1, lt_len hi', if_true, at_lt hi', Option.bind_some]
    change (ref27_between p[i].Low b).bind _ = _
    rw [between_eq (by omega) (by omega)]
    simp only [Option.bind_some]
    change (ref27_between p[i].High b).bind _ = _
    rw [between_eq (by omega) (by omega)]
    simp only [Option.bind_some]
    rw [app_one (by omega), wn (by omega)]
    rfl
  · intro b _; simp only [ref27_Hulls.s1, not_lt_len, if_false]
theorem hls_len (p : List api_Loop) : (hls p).length = p.length := by
  have : ∀ (p : List api_Loop) (b : List api_Hull), (p.foldl (fun out l => out ++ [⟨lo l.Low out, hi l.High out⟩]) b).length = b.length + p.length := by
    intro p
    induction p with
    | nil => intro b; simp
    | cons l p ih => intro b; rw [List.foldl_cons, ih]; simp; omega
  simpa [hls] using this p []
def ups (a b : Int) : List Int := (List.range (b - a + 1).toNat).map fun i : Nat => a + i
def pts : List api_Loop → List Int → List (List Int)
  | [], pt => [pt]
  | l :: ls, pt => (ups (vl l.Low pt) (vl l.High pt)).flatMap fun x => pts ls (pt ++ [x])
theorem loop_ups {β ρ τ : Type} {step : Int × β → Option (Sum (Int × β) τ)} (a b : Int) (f : β → Int → Sum ρ β) (brk : ρ → τ) (fin : β → τ) (Inv : Nat → β → Prop) {z : β} (ha : -100000000 ≤ a ∧ a ≤ 100000000) (hb : b ≤ 100000000)
    (h : ∀ (i : Nat) (x : Int) c, (hi : i < (ups a b).length) → (ups a b)[i] = x → a ≤ x → x ≤ b → Inv i c → step (x, c) = some (match f c x with | .inl r => .inr (brk r) | .inr c' => .inl (x + 1, c')) ∧ (∀ c', f c x = .inr c' → Inv (i + 1) c'))
    (hend : ∀ x c, ¬ x ≤ b → -100000000 ≤ x → x ≤ 100000001 → Inv (ups a b).length c → step (x, c) = some (.inr (fin c))) (hI : Inv 0 z) :
    loopO step (a, z) = some (match scanE (fun _ => f) 0 (ups a b) z with | .inl r => brk r | .inr c => fin c) := by
  have hl : (ups a b).length = (b - a + 1).toNat := by simp [ups]
  refine loop_scan (step := step) (ups a b) (fun i c => (a + i, c)) brk fin (fun _ => f) Inv (by simp) ?_ ?_ hI (by omega)
  · intro i hi c hc
    have e : (ups a b)[i] = a + i := by simp [ups]
    have hi' : i < (b - a + 1).toNat := by omega
    obtain ⟨h1, h2⟩ := h i (a + i) c hi e (by omega) (by omega) hc
    rw [e]
    refine ⟨?_, h2⟩
    rw [h1]
    cases f c (a + i) with
    | inl r => rfl
    | inr c' =>
      have : a + (i : Int) + 1 = a + ((i + 1 : Nat) : Int) := by omega
      simp only [this]
  · intro c hc
    exact hend _ _ (by omega) (by omega) (by omega) hc
def M (k : Nat) : Int := 64 * 25 ^ k
theorem M_pos (k : Nat) : 0 ≤ M k := Int.mul_nonneg (by omega) (Int.pow_nonneg (by omega))
def Pt (pt : List Int) : Prop := ∀ z, z ∈ pt → -(M pt.length) ≤ z ∧ z ≤ M pt.length
theorem M3 {k : Nat} (h : k ≤ 3) : M k ≤ 1000000 := by
  match k, h with
  | 0, _ => decide
  | 1, _ => decide
  | 2, _ => decide
  | 3, _ => decide
theorem vl_M {x : api_Affine} {pt : List Int} (h : fErr x pt.length = 0) (hp : Pt pt) (hk : pt.length ≤ 2) : -(M (pt.length + 1)) ≤ vl x pt ∧ vl x pt ≤ M (pt.length + 1) := by
  have h1 := vl_bound h (M_pos pt.length) (by have := M3 (k := pt.length) (by omega); omega) hp (by omega)
  have : 64 + 8 * M pt.length * (pt.length : Int) ≤ M (pt.length + 1) := by
    generalize pt.length = k at hk
    match k, hk with
    | 0, _ => decide
    | 1, _ => decide
    | 2, _ => decide
  omega
theorem Pt.snoc {pt : List Int} (hp : Pt pt) {x : Int} (h1 : -(M (pt.length + 1)) ≤ x) (h2 : x ≤ M (pt.length + 1)) : Pt (pt ++ [x]) := by
  intro z hz
  rw [List.length_append, List.length_singleton]
  rcases List.mem_append.1 hz with hz | hz
  · have := hp z hz
    have e : M (pt.length + 1) = 25 * M pt.length := by unfold M; rw [Int.pow_succ]; omega
    have := M_pos pt.length
    omega
  · simp at hz; subst hz; exact ⟨h1, h2⟩
theorem clip_eq {p : List Int} : slices_Clip_int p = some p := by
  unfold slices_Clip_int cut
  rw [if_pos (by omega)]
  simp
theorem clone_eq {p : List Int} (h : p.length ≤ 16777216) : slices_Clone_int p = some p := by
  unfold slices_Clone_int
  rw [app_nil h]
  rfl
section
variable {p : List api_Loop}
theorem scan_count (g : Int → Nat) : ∀ (xs : List Int) (i : Nat) (c : Int), c ≤ 200 → scanE (ρ := Unit) (fun _ c x => if c + (g x : Int) > 200 then .inl () else .inr (c + (g x : Int))) i xs c = if c + ((xs.map g).sum : Nat) > 200 then .inl () else .inr (c + ((xs.map g).sum : Nat))
  | [], i, c, h => by simp [scanE]; omega
  | x :: xs, i, c, h => by
    simp only [scanE, List.map_cons, List.sum_cons]
    by_cases h1 : c + (g x : Int) > 200
    · simp only [h1, if_true]
      rw [if_pos (by omega)]
    · simp only [h1, if_false]
      rw [scan_count g xs (i + 1) _ (by omega)]
      have e : c + (g x : Int) + ((xs.map g).sum : Nat) = c + ((g x + (xs.map g).sum : Nat) : Int) := by omega
      rw [e]
theorem len_flat {α : Type} (g : Int → List α) (xs : List Int) : (xs.flatMap g).length = (xs.map fun x => (g x).length).sum := by
  rw [List.length_flatMap]
theorem walk_count (h : VN p) : ∀ (r : Nat) (n : Nat) (pt : List Int) (c : Int), pt.length + r = p.length → r < n → Pt pt → 0 ≤ c → c ≤ 200 →
    depend_walk__depend_CheckNest_c3.N n p pt c = some (if c + ((pts (p.drop pt.length) pt).length : Int) > 200 then (true, 201) else (false, c + ((pts (p.drop pt.length) pt).length : Int)))
  | r, 0, pt, c, _, hn, _, _, _ => by omega
  | 0, n + 1, pt, c, hr, _, hp, h0, h1 => by
    show depend_walk__depend_CheckNest_c3.F _ p pt c = _
    unfold depend_walk__depend_CheckNest_c3.F
    rw [if_pos (by omega), List.drop_of_length_le (by omega)]
    have e : w (c + 1) = c + 1 := w_id (by omega) (by omega)
    simp only [depend_CheckNest_c3, e, pts, List.length_singleton]
    by_cases h2 : c + 1 > 200
    · have : c = 200 := by omega
      subst this
      rfl
    · have : ¬ c + ((1 : Nat) : Int) > 200 := by omega
      simp only [h2, this, decide_false, if_false]
      rfl
  | r + 1, n + 1, pt, c, hr, hn, hp, h0, h1 => by
    have hk : pt.length < p.length := by omega
    have hl := h.len
    obtain ⟨l1, l2⟩ := h.lens hk
    obtain ⟨f1, f2⟩ := h.f _ hk
    obtain ⟨a1, a2⟩ := vl_M f1 hp (by omega)
    obtain ⟨b1, b2⟩ := vl_M f2 hp (by omega)
    have m3 := M3 (k := pt.length + 1) (by omega)
    have ep : (pts (p.drop pt.length) pt).length = ((ups (vl p[pt.length].Low pt) (vl p[pt.length].High pt)).map fun x => (pts (p.drop (pt.length + 1)) (pt ++ [x])).length).sum := by
      rw [List.drop_eq_getElem_cons hk]
      simp only [pts]
      rw [len_flat]
    rw [ep]
    show depend_walk__depend_CheckNest_c3.F _ p pt c = _
    unfold depend_walk__depend_CheckNest_c3.F
    rw [if_neg (by omega), at_lt hk]
    simp only [Option.bind_some]
    change (depend_value p[pt.length].Low pt).bind _ = _
    rw [value_eq (by omega) (by omega)]
    simp only [Option.bind_some]
    rw [loop_ups (ρ := Unit) (step := depend_walk__depend_CheckNest_c3.s1 p pt (depend_walk__depend_CheckNest_c3.N n)) (vl p[pt.length].Low pt) (vl p[pt.length].High pt)
      (fun c x => if c + (((fun x => (pts (p.drop (pt.length + 1)) (pt ++ [x])).length) x : Nat) : Int) > 200 then .inl () else .inr (c + (((fun x => (pts (p.drop (pt.length + 1)) (pt ++ [x])).length) x : Nat) : Int)))
      (fun _ => .inr (true, 201)) (fun c => .inl c) (fun _ c => 0 ≤ c ∧ c ≤ 200) (by omega) (by omega) ?_ ?_ ⟨h0, h1⟩]
    · rw [scan_count _ _ _ _ h1]
      by_cases h2 : c + ((((ups (vl p[pt.length].Low pt) (vl p[pt.length].High pt)).map fun x => (pts (p.drop (pt.length + 1)) (pt ++ [x])).length).sum : Nat) : Int) > 200
      · simp only [h2, if_true, Option.bind_some]
      · simp only [h2, if_false, Option.bind_some]
    · intro i x c' hi he hx1 hx2 hc
      have ih := walk_count h r n (pt ++ [x]) c' (by simp; omega) (by omega) (hp.snoc (by omega) (by omega)) hc.1 hc.2
      rw [List.length_append, List.length_singleton] at ih
      constructor
      · simp only [depend_walk__depend_CheckNest_c3.s1]
        rw [at_lt hk]
        simp only [Option.bind_some]
        change (depend_value p[pt.length].High pt).bind _ = _
        rw [value_eq (by omega) (by omega)]
        simp only [Option.bind_some, hx2, if_true, clip_eq]
        rw [app_one (by omega)]
        simp only [Option.bind_some]
        rw [ih]
        by_cases h2 : c' + ((pts (p.drop (pt.length + 1)) (pt ++ [x])).length : Int) > 200
        · simp only [h2, if_true, Option.bind_some]
        · simp only [h2, if_false, Option.bind_some, Bool.false_eq_true]
          rw [w_id (by omega) (by omega)]
      · intro c'' hc''
        split at hc''
        · cases hc''
        · cases hc''; omega
    · intro x c' hx h2 h3 _
      simp only [depend_walk__depend_CheckNest_c3.s1]
      rw [at_lt hk]
      simp only [Option.bind_some]
      change (depend_value p[pt.length].High pt).bind _ = _
      rw [value_eq (by omega) (by omega)]
      simp only [Option.bind_some, hx, if_false]
theorem scan_all {α : Type} (g : Int → List α) : ∀ (xs : List Int) (i : Nat) (c : List α), scanE (ρ := Empty) (fun _ c x => .inr (c ++ g x)) i xs c = .inr (c ++ xs.flatMap g)
  | [], i, c => by simp [scanE]
  | x :: xs, i, c => by
    simp only [scanE]
    rw [scan_all g xs]
    simp
theorem flat_take {α : Type} (g : Int → List α) (xs : List Int) {i : Nat} (hi : i < xs.length) : ((xs.take i).flatMap g).length + (g xs[i]).length ≤ (xs.flatMap g).length ∧ (xs.take (i + 1)).flatMap g = (xs.take i).flatMap g ++ g xs[i] := by
  have e : xs.take (i + 1) = xs.take i ++ [xs[i]] := by rw [List.take_succ]; simp [hi]
  have h2 : (xs.take (i + 1)).flatMap g = (xs.take i).flatMap g ++ g xs[i] := by rw [e, List.flatMap_append, List.flatMap_cons, List.flatMap_nil, List.append_nil]
  refine ⟨?_, h2⟩
  have h3 : xs.flatMap g = (xs.take (i + 1)).flatMap g ++ (xs.drop (i + 1)).flatMap g := by
    rw [← List.flatMap_append, List.take_append_drop]
  rw [h3, h2]
  simp
theorem walk_pts (h : VN p) : ∀ (r : Nat) (n : Nat) (pt : List Int) (b : List (List Int)), pt.length + r = p.length → r < n → Pt pt → b.length + (pts (p.drop pt.length) pt).length ≤ 16777216 →
    depend_walk__depend_points_c1.N n p pt b = some (false, b ++ pts (p.drop pt.length) pt)
  | r, 0, pt, c, _, hn, _, _ => by omega
  | 0, n + 1, pt, b, hr, _, hp, hb => by
    have hl := h.len
    rw [List.drop_of_length_le (by omega)] at hb ⊢
    show depend_walk__depend_points_c1.F _ p pt b = _
    unfold depend_walk__depend_points_c1.F depend_points_c1
    simp only [pts, List.length_singleton] at hb ⊢
    rw [if_pos (by omega), clone_eq (by omega)]
    simp only [Option.bind_some]
    rw [app_one (by omega)]
    rfl
  | r + 1, n + 1, pt, b, hr, hn, hp, hb => by
    have hk : pt.length < p.length := by omega
    have hl := h.len
    obtain ⟨l1, l2⟩ := h.lens hk
    obtain ⟨f1, f2⟩ := h.f _ hk
    obtain ⟨a1, a2⟩ := vl_M f1 hp (by omega)
    obtain ⟨b1, b2⟩ := vl_M f2 hp (by omega)
    have m3 := M3 (k := pt.length + 1) (by omega)
    rw [List.drop_eq_getElem_cons hk] at hb ⊢
    simp only [pts] at hb ⊢
    show depend_walk__depend_points_c1.F _ p pt b = _
    unfold depend_walk__depend_points_c1.F
    rw [if_neg (by omega), at_lt hk]
    simp only [Option.bind_some]
    change (depend_value p[pt.length].Low pt).bind _ = _
    rw [value_eq (by omega) (by omega)]
    simp only [Option.bind_some]
    rw [loop_ups (ρ := Empty) (step := depend_walk__depend_points_c1.s1 p pt (depend_walk__depend_points_c1.N n)) (vl p[pt.length].Low pt) (vl p[pt.length].High pt)
      (fun c x => .inr (c ++ (fun x => pts (p.drop (pt.length + 1)) (pt ++ [x])) x))
      (fun e => e.elim) (fun c => .inl c) (fun i c => c = b ++ ((ups (vl p[pt.length].Low pt) (vl p[pt.length].High pt)).take i).flatMap fun x => pts (p.drop (pt.length + 1)) (pt ++ [x])) (by omega) (by omega) ?_ ?_ (by simp)]
    · rw [scan_all]
      rfl
    · intro i x c' hi he hx1 hx2 hc
      obtain ⟨t1, t2⟩ := flat_take (fun x => pts (p.drop (pt.length + 1)) (pt ++ [x])) _ hi
      rw [he] at t1 t2
      have ih := walk_pts h r n (pt ++ [x]) c' (by simp; omega) (by omega) (hp.snoc (by omega) (by omega)) (by
        rw [List.length_append, List.length_singleton, hc, List.length_append]; omega)
      rw [List.length_append, List.length_singleton] at ih
      constructor
      · simp only [depend_walk__depend_points_c1.s1]
        rw [at_lt hk]
        simp only [Option.bind_some]
        change (depend_value p[pt.length].High pt).bind _ = _
        rw [value_eq (by omega) (by omega)]
        simp only [Option.bind_some, hx2, if_true, clip_eq]
        rw [app_one (by omega)]
        simp only [Option.bind_some]
        rw [ih]
        simp only [Option.bind_some, Bool.false_eq_true, if_false]
        rw [w_id (by omega) (by omega)]
      · intro c'' hc''
        cases hc''
        rw [t2, hc, List.append_assoc]
    · intro x c' hx h2 h3 _
      simp only [depend_walk__depend_points_c1.s1]
      rw [at_lt hk]
      simp only [Option.bind_some]
      change (depend_value p[pt.length].High pt).bind _ = _
      rw [value_eq (by omega) (by omega)]
      simp only [Option.bind_some, hx, if_false]
theorem FUEL5 : (5 : Nat) ≤ FUEL := by unfold FUEL; omega
theorem pt_nil : Pt [] := by intro z hz; cases hz
theorem count_eq (h : VN p) : depend_walk__depend_CheckNest_c3 p [] 0 = some (if ((pts p []).length : Int) > 200 then (true, 201) else (false, ((pts p []).length : Int))) := by
  have hl := h.len
  have := walk_count h p.length FUEL [] 0 (by simp) (by have := FUEL5; omega) pt_nil (by omega) (by omega)
  show depend_walk__depend_CheckNest_c3.N FUEL p [] 0 = _
  simpa using this
theorem points_eq (h : VN p) (hc : (pts p []).length ≤ 16777216) : depend_points p = some (pts p []) := by
  have hl := h.len
  unfold depend_points
  have := walk_pts h p.length FUEL [] [] (by simp) (by have := FUEL5; omega) pt_nil (by simpa using hc)
  have e : depend_walk__depend_points_c1 p [] [] = some (false, pts p []) := by
    show depend_walk__depend_points_c1.N FUEL p [] [] = _
    simpa using this
  rw [e]
  rfl
theorem scan_cap {α : Type} (g : Int → List α) : ∀ (xs : List Int) (i : Nat) (c : List α), (match scanE (ρ := List α) (fun _ c x => if c.length ≤ 200 then .inr ((c ++ g x).take 201) else .inl c) i xs c with | .inl r => r | .inr c => c) = if c.length ≤ 200 then (c ++ xs.flatMap g).take 201 else c
  | [], i, c => by
    simp only [scanE, List.flatMap_nil, List.append_nil]
    split
    · rw [List.take_of_length_le (by omega)]
    · rfl
  | x :: xs, i, c => by
    simp only [scanE]
    by_cases h1 : c.length ≤ 200
    · simp only [h1, if_true]
      rw [scan_cap g xs (i + 1)]
      simp only [List.flatMap_cons, ← List.append_assoc]
      by_cases h2 : (c ++ g x).length ≤ 200
      · rw [List.take_of_length_le (by omega), if_pos h2]
      · have h3 : ¬ ((c ++ g x).take 201).length ≤ 200 := by rw [List.length_take]; omega
        rw [if_neg h3]
        exact (List.take_append_of_le_length (l₁ := c ++ g x) (by omega)).symm
    · simp only [h1, if_false]
theorem ref_pts (h : VN p) : ∀ (r : Nat) (n : Nat) (pt : List Int) (b : List (List Int)), pt.length + r = p.length → r < n → Pt pt → b.length ≤ 200 →
    ref27_points_i2.N n p pt b = some ((b ++ pts (p.drop pt.length) pt).take 201)
  | r, 0, pt, c, _, hn, _, _ => by omega
  | 0, n + 1, pt, b, hr, _, hp, hb => by
    have hl := h.len
    rw [List.drop_of_length_le (by omega)]
    show ref27_points_i2.F _ p pt b = _
    unfold ref27_points_i2.F
    simp only [pts]
    rw [if_pos (by omega), copyInts_eq (by omega)]
    simp only [Option.bind_some]
    rw [app_one (by omega), List.take_of_length_le (by simp; omega)]
    rfl
  | r + 1, n + 1, pt, b, hr, hn, hp, hb => by
    have hk : pt.length < p.length := by omega
    have hl := h.len
    obtain ⟨l1, l2⟩ := h.lens hk
    obtain ⟨f1, f2⟩ := h.f _ hk
    obtain ⟨a1, a2⟩ := vl_M f1 hp (by omega)
    obtain ⟨b1, b2⟩ := vl_M f2 hp (by omega)
    have m3 := M3 (k := pt.length + 1) (by omega)
    rw [List.drop_eq_getElem_cons hk]
    simp only [pts]
    show ref27_points_i2.F _ p pt b = _
    unfold ref27_points_i2.F
    rw [if_neg (by omega), at_lt hk]
    simp only [Option.bind_some]
    change (ref27_Value p[pt.length].High pt).bind _ = _
    rw [refValue_eq (by omega) (by omega)]
    simp only [Option.bind_some]
    change (ref27_Value p[pt.length].Low pt).bind _ = _
    rw [refValue_eq (by omega) (by omega)]
    simp only [Option.bind_some]
    rw [loop_ups (ρ := List (List Int)) (step := ref27_points_i2.s1 p pt (ref27_points_i2.N n) (vl p[pt.length].High pt)) (vl p[pt.length].Low pt) (vl p[pt.length].High pt)
      (fun c x => if c.length ≤ 200 then .inr ((c ++ (fun x => pts (p.drop (pt.length + 1)) (pt ++ [x])) x).take 201) else .inl c)
      (fun c => c) (fun c => c) (fun i c => c.length ≤ 201) (by omega) (by omega) ?_ ?_ (by omega)]
    · have := scan_cap (fun x => pts (p.drop (pt.length + 1)) (pt ++ [x])) (ups (vl p[pt.length].Low pt) (vl p[pt.length].High pt)) 0 b
      rw [if_pos hb] at this
      simp only [Option.bind_some]
      rw [← this]
      generalize scanE _ _ _ _ = q
      cases q <;> rfl
    · intro i x c' hi he hx1 hx2 hc
      constructor
      · simp only [ref27_points_i2.s1]
        by_cases h2 : c'.length ≤ 200
        · have ih := ref_pts h r n (pt ++ [x]) c' (by simp; omega) (by omega) (hp.snoc (by omega) (by omega)) h2
          rw [List.length_append, List.length_singleton] at ih
          have e : ((decide (x ≤ vl p[pt.length].High pt)) && (decide ((c'.length : Int) ≤ 200))) = true := by
            simp only [Bool.and_eq_true, decide_eq_true_eq]; omega
          rw [if_pos e, copyInts_eq (by omega)]
          simp only [Option.bind_some]
          rw [app_one (by omega)]
          simp only [Option.bind_some]
          rw [ih]
          simp only [Option.bind_some, h2, if_true]
          rw [w_id (by omega) (by omega)]
        · have e : ((decide (x ≤ vl p[pt.length].High pt)) && (decide ((c'.length : Int) ≤ 200))) = false := by
            have : ¬ (c'.length : Int) ≤ 200 := by omega
            simp [this]
          simp only [e, h2, if_false, Bool.false_eq_true]
      · intro c'' hc''
        split at hc''
        · cases hc''; rw [List.length_take]; omega
        · cases hc''
    · intro x c' hx h2 h3 _
      have e : ((decide (x ≤ vl p[pt.length].High pt)) && (decide ((c'.length : Int) ≤ 200))) = false := by simp [hx]
      simp only [ref27_points_i2.s1, e, if_false, Bool.false_eq_true]
theorem refPoints_eq (h : VN p) (h0 : 0 < p.length) : ref27_Points p = some ((pts p []).take 201) := by
  have hl := h.len
  unfold ref27_Points
  have hk : ([] : List Int).length < p.length := by simpa using h0
  obtain ⟨l1, l2⟩ := h.lens h0
  obtain ⟨f1, f2⟩ := h.f _ h0
  obtain ⟨a1, a2⟩ := vl_M (pt := []) f1 pt_nil (by simp)
  obtain ⟨b1, b2⟩ := vl_M (pt := []) f2 pt_nil (by simp)
  have m3 := M3 (k := 1) (by omega)
  have e : ref27_points p [] = some ((pts p []).take 201) := by
    cases hp : p with
    | nil => rw [hp] at h0; simp at h0
    | cons l ls =>
      have hpl : p[0] = l := by simp [hp]
      rw [← hp]
      have ep : pts p [] = (ups (vl p[0].Low []) (vl p[0].High [])).flatMap fun x => pts (p.drop 1) [x] := by
        simp only [hp, List.getElem_cons_zero, List.drop_succ_cons, List.drop_zero, pts, List.nil_append]
      rw [ep]
      unfold ref27_points
      rw [if_neg (by simp; omega)]
      have a0 : at_ p (([] : List Int).length : Int) = some p[0] := at_lt (i := 0) h0
      rw [a0]
      simp only [Option.bind_some]
      change (ref27_Value p[0].High []).bind _ = _
      rw [refValue_eq (by omega) (by simp)]
      simp only [Option.bind_some]
      change (ref27_Value p[0].Low []).bind _ = _
      rw [refValue_eq (by omega) (by simp)]
      simp only [Option.bind_some]
      simp only [List.length_nil, Nat.zero_add] at a1 a2 b1 b2
      rw [loop_ups (ρ := List (List Int)) (step := ref27_points.s1 p [] (vl p[0].High [])) (vl p[0].Low []) (vl p[0].High [])
        (fun c x => if c.length ≤ 200 then .inr ((c ++ (fun x => pts (p.drop 1) [x]) x).take 201) else .inl c)
        (fun c => c) (fun c => c) (fun i c => c.length ≤ 201) (by omega) (by omega) ?_ ?_ (by simp)]
      · have := scan_cap (fun x => pts (p.drop 1) [x]) (ups (vl p[0].Low []) (vl p[0].High [])) 0 []
        rw [if_pos (by simp), List.nil_append] at this
        simp only [Option.bind_some]
        rw [← this]
        generalize scanE _ _ _ _ = q
        cases q <;> rfl
      · intro i x c' hi he hx1 hx2 hc
        constructor
        · simp only [ref27_points.s1]
          by_cases h2 : c'.length ≤ 200
          · have ih := ref_pts h (p.length - 1) FUEL [x] c' (by simp; omega) (by have := FUEL5; omega) (by
              have := pt_nil.snoc (x := x) (by simp only [List.length_nil, Nat.zero_add]; omega) (by simp only [List.length_nil, Nat.zero_add]; omega)
              simpa using this) h2
            have ih' : ref27_points_i2 p [x] c' = some ((c' ++ pts (p.drop 1) [x]).take 201) := by
              show ref27_points_i2.N FUEL p [x] c' = _
              simpa using ih
            have e : ((decide (x ≤ vl p[0].High [])) && (decide ((c'.length : Int) ≤ 200))) = true := by
              simp only [Bool.and_eq_true, decide_eq_true_eq]; omega
            rw [if_pos e, copyInts_eq (by simp)]
            simp only [Option.bind_some]
            rw [app_one (by simp)]
            simp only [Option.bind_some, List.nil_append]
            rw [ih']
            simp only [Option.bind_some, h2, if_true]
            rw [w_id (by omega) (by omega)]
          · have e : ((decide (x ≤ vl p[0].High [])) && (decide ((c'.length : Int) ≤ 200))) = false := by
              have : ¬ (c'.length : Int) ≤ 200 := by omega
              simp [this]
            simp only [e, h2, if_false, Bool.false_eq_true]
        · intro c'' hc''
          split at hc''
          · cases hc''; rw [List.length_take]; omega
          · cases hc''
      · intro x c' hx h2 h3 _
        have e : ((decide (x ≤ vl p[0].High [])) && (decide ((c'.length : Int) ≤ 200))) = false := by simp [hx]
        simp only [ref27_points.s1, e, if_false, Bool.false_eq_true]
  rw [e]
  rfl
end
end Go.Sh
namespace Go.Sh
open Go.Lx
set_option linter.unusedVariables false
set_option linter.unusedSimpArgs false
def shortE (x : api_Affine) : Option Bool := if law27_shortForm x = true then none else some false
def shortA (a : api_Access) : Option Bool := if (a.Subscripts.length : Int) > 9 then some false else a.Subscripts.findSome? shortE
structure Few (p : List api_Loop) (l : List api_Access) : Prop where
  n : p.length ≤ 5
  m : l.length ≤ 10
  f : ∀ x, x ∈ p → x.Low.Coefs.length ≤ 10 ∧ x.High.Coefs.length ≤ 10
  a : ∀ x, x ∈ l → x.Subscripts.length ≤ 9 ∧ ∀ y, y ∈ x.Subscripts → y.Coefs.length ≤ 10
theorem short_le {x : api_Affine} (h : law27_shortForm x = true) : x.Coefs.length ≤ 10 := by
  have : (x.Coefs.length : Int) ≤ 10 := of_decide_eq_true h
  omega
theorem few_some (p : List api_Loop) (l : List api_Access) : ∃ r, law27_few p l = some r ∧ (r = true → Few p l) := by
  unfold law27_few
  by_cases h0 : ((decide ((p.length : Int) > 5)) || (decide ((l.length : Int) > 10))) = true
  · exact ⟨false, by rw [if_pos h0], fun h => by cases h⟩
  rw [if_neg h0]
  simp only [Bool.or_eq_true, decide_eq_true_eq, not_or] at h0
  rw [loop_find (step := law27_few.s1 p) p (fun x => if (law27_shortForm x.Low && law27_shortForm x.High) = true then none else some false) (fun r => .inr r) (.inl ()) rfl ?_ ?_ (by omega)]
  · cases h1 : p.findSome? (fun x => if (law27_shortForm x.Low && law27_shortForm x.High) = true then none else some false) with
    | some r =>
      refine ⟨r, rfl, fun hr => ?_⟩
      obtain ⟨x, _, hx⟩ := List.exists_of_findSome?_eq_some h1
      split at hx
      · cases hx
      · cases hx; cases hr
    | none =>
      simp only [Option.bind_some]
      rw [loop_find (step := law27_few.s2 l) l shortA (fun r => .inr r) (.inl ()) rfl ?_ ?_ (by omega)]
      · cases h2 : l.findSome? shortA with
        | some r =>
          refine ⟨r, rfl, fun hr => ?_⟩
          subst hr
          obtain ⟨a, _, ha⟩ := List.exists_of_findSome?_eq_some h2
          unfold shortA at ha
          split at ha
          · cases ha
          · obtain ⟨x, _, hx⟩ := List.exists_of_findSome?_eq_some ha
            unfold shortE at hx
            split at hx <;> cases hx
        | none =>
          refine ⟨true, rfl, fun _ => ⟨by omega, by omega, fun x hx => ?_, fun x hx => ?_⟩⟩
          · have := List.findSome?_eq_none_iff.1 h1 x hx
            split at this
            · rename_i hh
              simp only [Bool.and_eq_true] at hh
              exact ⟨short_le hh.1, short_le hh.2⟩
            · cases this
          · have := List.findSome?_eq_none_iff.1 h2 x hx
            unfold shortA at this
            split at this
            · cases this
            · refine ⟨by omega, fun y hy => ?_⟩
              have := List.findSome?_eq_none_iff.1 this y hy
              unfold shortE at this
              split at this
              · exact short_le (by assumption)
              · cases this
      · intro i hi
        simp only [law27_few.s2, lt_len hi, if_true, at_lt hi, Option.bind_some, shortA]
        by_cases h9 : (l[i].Subscripts.length : Int) > 9
        · simp only [h9, if_true]
        · simp only [h9, if_false]
          rw [loop_find (step := law27_few.s3 l i) l[i].Subscripts shortE (fun r => .inr r) (.inl ()) rfl ?_ ?_ (by omega)]
          · cases l[i].Subscripts.findSome? shortE with
            | some r => rfl
            | none => simp only [Option.bind_some]; rw [wn (by omega)]
          · intro k hk
            simp only [law27_few.s3, at_lt hi, Option.bind_some, lt_len hk, if_true, at_lt hk, shortE]
            by_cases hs : law27_shortForm l[i].Subscripts[k] = true
            · simp only [hs, not_true, if_false, if_true]; rw [wn (by omega)]
            · simp only [hs, not_false_eq_true, if_true, if_false, Bool.false_eq_true]
          · simp only [law27_few.s3, at_lt hi, Option.bind_some, not_lt_len, if_false]
      · simp only [law27_few.s2, not_lt_len, if_false]
  · intro i hi
    simp only [law27_few.s1, lt_len hi, if_true, at_lt hi, Option.bind_some]
    by_cases hs : law27_shortForm p[i].Low = true
    · by_cases ht : law27_shortForm p[i].High = true
      · simp only [hs, ht, not_true, if_false, if_true, Bool.and_self]; rw [wn (by omega)]
      · simp only [hs, ht, not_true, if_false, if_true, not_false_eq_true, Bool.and_false, Bool.false_eq_true]
    · simp only [hs, not_false_eq_true, if_true, if_false, Bool.false_and, Bool.false_eq_true]
  · simp only [law27_few.s1, not_lt_len, if_false]
theorem copyForm_eq {x : api_Affine} (h : x.Coefs.length ≤ 16777216) : law27_CopyForm x = some x := by
  unfold law27_CopyForm
  rw [copyInts_eq h]
  rfl
theorem copyNest_eq {p : List api_Loop} (hn : p.length < 16777216) (h : ∀ x, x ∈ p → x.Low.Coefs.length ≤ 16777216 ∧ x.High.Coefs.length ≤ 16777216) : law27_CopyNest p = some p := by
  unfold law27_CopyNest
  rw [loop_map (step := law27_CopyNest.s1 p) p id (fun i b => (i, b)) (fun b => b) rfl ?_ ?_ (by omega)]
  · simp
  · intro i hi b hb
    obtain ⟨h1, h2⟩ := h _ (List.getElem_mem hi)
    simp only [law27_CopyNest.s1, lt_len hi, if_true, at_lt hi, Option.bind_some]
    change (law27_CopyForm p[i].Low).bind _ = _
    rw [copyForm_eq h1]
    simp only [Option.bind_some]
    change (law27_CopyForm p[i].High).bind _ = _
    rw [copyForm_eq h2]
    simp only [Option.bind_some]
    rw [app_one (by omega), wn (by omega)]; rfl
  · intro b; simp only [law27_CopyNest.s1, not_lt_len, if_false]
def lpErr (l : api_Loop) (k : Int) : Int := if fErr l.Low k = 0 then fErr l.High k else fErr l.Low k
def fbF (i : Nat) (b : Unit) (l : api_Loop) : Sum (Int × Int) Unit := if lpErr l i = 0 then .inr b else .inl ((i : Int), lpErr l i)
def fbL (p : List api_Loop) : Sum (Int × Int) Unit := scanE fbF 0 p ()
theorem scan_fb : ∀ (p : List api_Loop) (i : Nat), scanE fbF i p () = .inr () → ∀ k (h : k < p.length), lpErr p[k] ((i + k : Nat) : Int) = 0
  | [], i, _, k, h => by simp at h
  | l :: p, i, h, k, hk => by
    simp only [scanE, fbF] at h
    by_cases e : lpErr l i = 0
    · simp only [e, if_true] at h
      cases k with
      | zero => exact e
      | succ k =>
        have := scan_fb p (i + 1) h k (by simpa using hk)
        rw [show i + 1 + k = i + (k + 1) by omega] at this
        exact this
    · simp only [e, if_false] at h
      cases h
theorem fb_ne : ∀ (p : List api_Loop) (i : Nat) (r : Int × Int), scanE fbF i p () = .inl r → r.2 ≠ 0
  | [], i, r, h => by cases h
  | l :: p, i, r, h => by
    simp only [scanE, fbF] at h
    by_cases e : lpErr l i = 0
    · simp only [e, if_true] at h
      exact fb_ne p (i + 1) r h
    · simp only [e, if_false] at h
      cases h
      exact e
theorem fb_VN {p : List api_Loop} (h : fbL p = .inr ()) (hl : p.length ≤ 3) : VN p := by
  refine ⟨hl, fun k hk => ?_⟩
  have := scan_fb p 0 h k hk
  rw [Nat.zero_add] at this
  unfold lpErr at this
  split at this
  · exact ⟨by assumption, this⟩
  · rename_i h1; exact absurd this h1
def badH (h : api_Hull) : Bool := (!(depend_inside h.Low (-1000) 1000)) || (!(depend_inside h.High (-1000) 1000))
def cnR (p : List api_Loop) : Int × Int :=
  if (p.length : Int) = 0 then (0, 17) else if (p.length : Int) > 3 then (0, 8) else match fbL p with
  | .inl r => r
  | .inr _ => if (hls p).any badH = true then (0, 8) else if ((pts p []).length : Int) > 200 then (0, 8) else (0, 0)
theorem firstBad_eq {p : List api_Loop} (hn : p.length < 16777216) (h : ∀ x, x ∈ p → x.Low.Coefs.length < 16777216 ∧ x.High.Coefs.length < 16777216) : depend_firstBad_api_Loop__depend_CheckNest_c1 p = some (match fbL p with | .inl r => r | .inr _ => (0, 0)) := by
  unfold depend_firstBad_api_Loop__depend_CheckNest_c1 fbL
  rw [loop_scan (step := depend_firstBad_api_Loop__depend_CheckNest_c1.s1 p) p (fun i (_ : Unit) => i) (fun r => .inr r) (fun _ => .inl ()) fbF (fun _ _ => True) (a := ()) rfl ?_ ?_ trivial (by omega)]
  · cases scanE fbF 0 p () <;> rfl
  · intro i hi b _
    refine ⟨?_, fun _ _ => trivial⟩
    obtain ⟨h1, h2⟩ := h _ (List.getElem_mem hi)
    simp only [depend_firstBad_api_Loop__depend_CheckNest_c1.s1, lt_len hi, if_true, at_lt hi, Option.bind_some, depend_CheckNest_c1]
    change (((depend_formErr p[i].Low i).bind fun x1 => (depend_formErr p[i].High i).bind _).bind _) = _
    rw [formErr_eq h1, formErr_eq h2]
    simp only [Option.bind_some, cmpOr2]
    unfold fbF lpErr
    by_cases e1 : fErr p[i].Low i = 0
    · simp only [e1, if_true]
      by_cases e2 : fErr p[i].High i = 0
      · simp only [e2, not_true, if_false, if_true]; rw [wn (by omega)]
      · simp only [e2, not_false_eq_true, if_true, if_false]
    · simp only [e1, not_false_eq_true, if_true, if_false]
  · intro b _; simp only [depend_firstBad_api_Loop__depend_CheckNest_c1.s1, not_lt_len, if_false]
theorem badH_eq {p : List api_Hull} (h : p.length < 16777216) : slices_ContainsFunc_api_Hull__depend_CheckNest_c2 p = some (p.any badH) := by
  unfold slices_ContainsFunc_api_Hull__depend_CheckNest_c2 slices_IndexFunc_api_Hull__depend_CheckNest_c2
  obtain ⟨k, hk⟩ := loop_any (step := slices_IndexFunc_api_Hull__depend_CheckNest_c2.s1 p) p badH (fun i => Sum.inr i) (Sum.inl ()) (s := 0) rfl (fun i hi => by
    simp only [slices_IndexFunc_api_Hull__depend_CheckNest_c2.s1, lt_len hi, if_true, at_lt hi, Option.bind_some, depend_CheckNest_c2]
    by_cases e : badH p[i] = true
    · have e' := e
      unfold badH at e'
      simp only [e, e', if_true]
    · have e' := e
      unfold badH at e'
      simp only [e, e', if_false, Bool.false_eq_true]; rw [wn (by omega)]) (by simp only [slices_IndexFunc_api_Hull__depend_CheckNest_c2.s1, not_lt_len, if_false]) (by omega)
  rw [hk]
  by_cases e : p.any badH = true
  · simp only [e, if_true, Option.bind_some]
    have : (k : Int) ≥ 0 := by omega
    simp [this]
  · simp only [e, if_false, Option.bind_some, Bool.false_eq_true]
    simp at e ⊢
theorem checkNest_eq {p : List api_Loop} (hn : p.length < 16777216) (h : ∀ x, x ∈ p → x.Low.Coefs.length < 16777216 ∧ x.High.Coefs.length < 16777216) : depend_CheckNest p = some (cnR p) := by
  unfold depend_CheckNest cnR
  rw [broken2]
  simp only [Option.bind_some]
  by_cases h0 : (p.length : Int) = 0
  · have : ¬ (p.length : Int) > 0 := by omega
    simp only [h0, this, decide_false, if_true, if_false, Bool.false_eq_true]; rfl
  have h1 : (p.length : Int) > 0 := by omega
  simp only [h0, h1, decide_true, if_true, if_false]
  by_cases h3 : (p.length : Int) > 3
  · have : ¬ (p.length : Int) ≤ 3 := by omega
    simp only [h3, this, decide_false, if_true, if_false, Bool.false_eq_true]; rfl
  have h3' : (p.length : Int) ≤ 3 := by omega
  simp only [h3, h3', decide_true, if_true, if_false, not_true]
  rw [firstBad_eq hn h]
  cases hf : fbL p with
  | inl r =>
    have := fb_ne p 0 r hf
    simp only [Option.bind_some, this, not_false_eq_true, if_true]
  | inr u =>
    have vn := fb_VN hf (by omega)
    simp only [Option.bind_some, not_true, if_false]
    rw [hulls_eq vn]
    simp only [Option.bind_some]
    rw [badH_eq (by rw [hls_len]; omega)]
    simp only [Option.bind_some]
    by_cases hb : (hls p).any badH = true
    · simp only [hb, if_true]
    simp only [hb, if_false, Bool.false_eq_true]
    rw [count_eq vn]
    by_cases hc : ((pts p []).length : Int) > 200
    · simp only [hc, if_true, Option.bind_some]
      rw [broken1]
      rfl
    · simp only [hc, if_false, Option.bind_some]
      rw [broken1]
      rfl
theorem refCheckNest_eq {p : List api_Loop} (hn : p.length < 16777216) (h : ∀ x, x ∈ p → x.Low.Coefs.length < 16777216 ∧ x.High.Coefs.length < 16777216) : ref27_CheckNest p = some (cnR p) := by
  unfold ref27_CheckNest cnR
  by_cases h0 : (p.length : Int) = 0
  · simp only [h0, if_true]
  simp only [h0, if_false]
  by_cases h3 : (p.length : Int) > 3
  · simp only [h3, if_true]
  simp only [h3, if_false]
  rw [loop_scan (step := ref27_CheckNest.s1 p) p (fun i (_ : Unit) => i) (fun r => .inr r) (fun _ => .inl ()) fbF (fun _ _ => True) (a := ()) rfl ?_ ?_ trivial (by omega)]
  · have hfb : scanE fbF 0 p () = fbL p := rfl
    rw [hfb]
    cases hf : fbL p with
    | inl r => simp only [Option.bind_some]
    | inr u =>
      have vn := fb_VN hf (by omega)
      simp only [Option.bind_some]
      rw [refHulls_eq vn]
      simp only [Option.bind_some]
      have hlen := hls_len p
      rw [loop_find (step := ref27_CheckNest.s2 (hls p)) (hls p) (fun z => if badH z = true then some () else none) (fun _ => .inr (0, 8)) (.inl ()) rfl ?_ ?_ (by omega), findSome_const]
      · by_cases hb : (hls p).any badH = true
        · simp only [hb, if_true, Option.bind_some]
        simp only [hb, if_false, Bool.false_eq_true, Option.bind_some]
        rw [refPoints_eq vn (by omega)]
        simp only [Option.bind_some]
        by_cases hc : ((pts p []).length : Int) > 200
        · rw [if_pos hc, if_pos (by rw [List.length_take]; omega)]
        · rw [if_neg hc, if_neg (by rw [List.length_take]; omega)]
      · intro i hi
        simp only [ref27_CheckNest.s2, lt_len hi, if_true, at_lt hi, Option.bind_some, within_eq, badH]
        by_cases e1 : depend_inside (hls p)[i].Low (-1000) 1000 = true
        · by_cases e2 : depend_inside (hls p)[i].High (-1000) 1000 = true
          · simp only [e1, e2, not_true, if_false, Bool.not_true, Bool.or_self, Bool.false_eq_true]; rw [wn (by omega)]
          · have e2' : depend_inside (hls p)[i].High (-1000) 1000 = false := by simpa using e2
            simp [e1, e2']
        · have e1' : depend_inside (hls p)[i].Low (-1000) 1000 = false := by simpa using e1
          simp [e1']
      · simp only [ref27_CheckNest.s2, not_lt_len, if_false]
  · intro i hi b _
    refine ⟨?_, fun _ _ => trivial⟩
    obtain ⟨h1, h2⟩ := h _ (List.getElem_mem hi)
    simp only [ref27_CheckNest.s1, lt_len hi, if_true, at_lt hi, Option.bind_some]
    change ((ref27_AffineErr p[i].Low i).bind fun x6 => if ¬ x6 = 0 then _ else (ref27_AffineErr p[i].High i).bind _) = _
    rw [affineErr_eq h1, affineErr_eq h2]
    simp only [Option.bind_some]
    unfold fbF lpErr
    by_cases e1 : fErr p[i].Low i = 0
    · simp only [e1, if_true, not_true, if_false]
      by_cases e2 : fErr p[i].High i = 0
      · simp only [e2, not_true, if_false, if_true]; rw [wn (by omega)]
      · simp only [e2, not_false_eq_true, if_true, if_false]
    · simp only [e1, not_false_eq_true, if_true, if_false]
  · intro b _; simp only [ref27_CheckNest.s1, not_lt_len, if_false]
theorem cnR_ok {p : List api_Loop} (h : (cnR p).2 = 0) : VN p ∧ 0 < p.length ∧ (pts p []).length ≤ 200 := by
  unfold cnR at h
  split at h
  · cases h
  split at h
  · cases h
  split at h
  · rename_i r hf
    exact absurd h (fb_ne p 0 r hf)
  · rename_i u hf
    refine ⟨fb_VN hf (by omega), by omega, ?_⟩
    split at h
    · cases h
    split at h
    · cases h
    · omega
theorem lists_eq {p q : List (List Int)} (hp : p.length < 16777216) (hq : q.length < 16777216) (h1 : ∀ x, x ∈ p → x.length < 16777216) (h2 : ∀ x, x ∈ q → x.length < 16777216) : base_Lists p q = some (p == q) := by
  unfold base_Lists
  by_cases hl : (p.length : Int) = (q.length : Int)
  · have hz : (p.zip q).length = p.length := by simp; omega
    rw [loop_fold (step := base_Lists.s1 p q) (p.zip q) (fun i (b : Bool) => (b, i)) (fun b => b) (fun b t => b && (t.1 == t.2)) (fun _ _ => True) (a := true) (by simp [hl]) ?_ ?_ trivial (by omega)]
    · simp only [Option.bind_some]
      congr 1
      have key : ∀ (p q : List (List Int)) (b : Bool), p.length = q.length → (p.zip q).foldl (fun b t => b && (t.1 == t.2)) b = (b && (p == q)) := by
        intro p
        induction p with
        | nil => intro q b h; cases q with | nil => simp | cons _ _ => simp at h
        | cons x p ih =>
          intro q b h
          cases q with
          | nil => simp at h
          | cons y q =>
            rw [List.zip_cons_cons, List.foldl_cons, ih q _ (by simpa using h)]
            simp only [List.cons_beq_cons, Bool.and_assoc]
      rw [key p q true (by omega)]
      simp
    · intro i hi b _
      refine ⟨?_, trivial⟩
      rw [hz] at hi
      have hi2 : i < q.length := by omega
      simp only [base_Lists.s1, lt_len hi, if_true]
      cases b with
      | true =>
        simp only [if_true, at_lt hi, at_lt hi2, Option.bind_some, List.getElem_zip, Bool.true_and]
        rw [ints_eq (h1 _ (List.getElem_mem hi)) (h2 _ (List.getElem_mem hi2)), wn (by omega)]
        rfl
      | false =>
        simp only [Bool.false_eq_true, if_false, Bool.false_and]
        rw [wn (by omega)]
    · intro b _; rw [hz]; simp only [base_Lists.s1, not_lt_len, if_false]
  · have hne : (p == q) = false := by
      rw [Bool.eq_false_iff]
      intro h
      have := beq_iff_eq.1 h
      exact hl (by rw [this])
    have hb : ((p.length : Int) == (q.length : Int)) = false := by simpa using hl
    rw [hb, hne]
    rw [loop_fold (step := base_Lists.s1 p q) p (fun i (b : Bool) => (b, i)) (fun b => b) (fun b t => b) (fun _ b => b = false) (a := false) rfl ?_ ?_ rfl (by omega)]
    · simp only [Option.bind_some]
      congr 1
      induction p with
      | nil => rfl
      | cons _ p ih => clear ih; have : ∀ (l : List (List Int)), l.foldl (fun (b : Bool) (_ : List Int) => b) false = false := by intro l; induction l with | nil => rfl | cons _ l ih => exact ih
                       exact this _
    · intro i hi b hb
      subst hb
      refine ⟨?_, rfl⟩
      simp only [base_Lists.s1, lt_len hi, if_true, Bool.false_eq_true, if_false]
      rw [wn (by omega)]
    · intro b _; simp only [base_Lists.s1, not_lt_len, if_false]
theorem lists_self {p : List (List Int)} (hp : p.length < 16777216) (h1 : ∀ x, x ∈ p → x.length < 16777216) : base_Lists p p = some true := by
  rw [lists_eq hp hp h1 h1]; simp
theorem hulls_self {p : List api_Hull} (h : p.length < 16777216) : ref27_SameHulls p p = some true := by
  unfold ref27_SameHulls
  rw [if_neg (by simp)]
  rw [loop_find (step := ref27_SameHulls.s1 p p) p (fun _ => (none : Option Bool)) (fun c => Sum.inr c) (Sum.inl ()) rfl ?_ ?_ (by omega)]
  · have : p.findSome? (fun _ => (none : Option Bool)) = none := by simp
    rw [this]; rfl
  · intro i hi
    simp only [ref27_SameHulls.s1, lt_len hi, if_true, at_lt hi, Option.bind_some, beq_self_eq_true, Bool.and_self, not_true, if_false]
    rw [wn (by omega)]
  · simp only [ref27_SameHulls.s1, not_lt_len, if_false]
theorem pts_len : ∀ (ls : List api_Loop) (pt x : List Int), x ∈ pts ls pt → x.length = pt.length + ls.length
  | [], pt, x, h => by simp [pts] at h; subst h; simp
  | l :: ls, pt, x, h => by
    simp only [pts] at h
    obtain ⟨z, _, hx⟩ := List.mem_flatMap.1 h
    have := pts_len ls _ x hx
    rw [this]
    simp
    omega
theorem nestErr_eq {p : List api_Loop} (hn : p.length < 16777216) (h : ∀ x, x ∈ p → x.Low.Coefs.length < 16777216 ∧ x.High.Coefs.length < 16777216) : depend_nestErr p = some (cnR p).2 := by
  unfold depend_nestErr
  rw [checkNest_eq hn h]
  rfl
theorem DependNests_true (p : List api_Loop) : law27_DependNests p = some true := by
  unfold law27_DependNests
  rw [awake_eq]
  simp only [Option.bind_some, not_true, if_false]
  obtain ⟨r, hr, hf⟩ := few_some p []
  rw [hr]
  simp only [Option.bind_some]
  by_cases ht : r = true
  case neg => simp only [ht, not_false_eq_true, if_true, Bool.false_eq_true]
  have F := hf ht
  have hn := F.n
  have c1 : ∀ x, x ∈ p → x.Low.Coefs.length < 16777216 ∧ x.High.Coefs.length < 16777216 := fun x hx => by have := F.f x hx; omega
  simp only [ht, not_true, if_false]
  rw [copyNest_eq (by omega) (fun x hx => by have := c1 x hx; omega)]
  simp only [Option.bind_some]
  unfold depend_HullsOf depend_PointsOf
  rw [checkNest_eq (by omega) c1, refCheckNest_eq (by omega) c1, nestErr_eq (by omega) c1]
  simp only [Option.bind_some]
  by_cases hc : (cnR p).2 = 0
  · obtain ⟨vn, h0, h2⟩ := cnR_ok hc
    simp only [hc, not_true, if_false]
    rw [hulls_eq vn, points_eq vn (by omega)]
    simp only [Option.bind_some, bne_self_eq_false, Bool.or_self, Bool.false_eq_true, if_false, if_true]
    rw [refHulls_eq vn]
    simp only [Option.bind_some]
    rw [hulls_self (by rw [hls_len]; omega)]
    simp only [Option.bind_some, beq_self_eq_true, Bool.and_self, if_true]
    rw [refPoints_eq vn h0, List.take_of_length_le (by omega)]
    simp only [Option.bind_some]
    rw [lists_self (by omega) (fun x hx => by have := pts_len _ _ _ hx; simp at this; omega)]
    rfl
  · simp only [hc, not_false_eq_true, if_true, Option.bind_some, bne_self_eq_false, Bool.or_self, Bool.false_eq_true, if_false]
    simp only [beq_self_eq_true, Bool.true_and]
    rfl
end Go.Sh
