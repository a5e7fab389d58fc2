/- What the functions compute answers as the statement says. -/
import Derived.Test.YtiidkobbkanciaaGreatDependFindsSh
set_option linter.all false
namespace Go.Sh
open Go.Lx
set_option linter.unusedVariables false
set_option linter.unusedSimpArgs false
theorem awake_eq : law27_awake = some true := by decide +kernel
theorem lt_len {i n : Nat} (h : i < n) : ((i : Int) < (n : Int)) = True := eq_true (by omega)
theorem not_lt_len (n : Nat) : ((n : Int) < (n : Int)) = False := eq_false (by omega)
theorem copyInts_eq {p : List Int} (h : p.length ≤ 16777216) : base_CopyInts p = some p := by
 unfold base_CopyInts; rw [mkSl_len h]; simp [copied_all]
theorem findSome_const {α ρ : Type} {p : α → Bool} {c : ρ} : ∀ xs : List α, xs.findSome? (fun x => if p x = true then some c else none) = if xs.any p = true then some c else none
 | [] => rfl
 | x :: xs => by
  simp only [List.findSome?_cons, List.any_cons];by_cases e : p x = true
  ·simp [e]
  ·simp only [e, if_false, Bool.false_or]; exact findSome_const xs
theorem cmpOr2 (a b : Int) : cmp_Or_api_Errno [a, b] = some (if a = 0 then b else a) := by
 unfold cmp_Or_api_Errno;rw [loop_find (step := cmp_Or_api_Errno.s1 [a, b]) [a, b] (fun x => if x = 0 then none else some x) (fun c => Sum.inr c) (Sum.inl ()) rfl ?_ ?_ (by simp)]
 ·by_cases h1 : a = 0
  ·by_cases h2 : b = 0
   ·simp [h1, h2]
   ·simp [h1, h2]
  ·simp [h1]
 ·intro i hi;simp only [cmp_Or_api_Errno.s1, lt_len hi, if_true, at_lt hi, Option.bind_some];by_cases e : [a, b][i] = 0
  ·simp only [e, not_true, if_false, if_true]; rw [wn (by simp at hi; omega)]
  ·simp only [e, not_false_eq_true, if_true, if_false]
 ·simp only [cmp_Or_api_Errno.s1, not_lt_len, if_false]
theorem before_eq : ∀ (n : Nat) (a b : List Int), a.length < n → n ≤ 16777217 → b.length < 16777216 → ∃ r, base_Before.N n a b = some r ∧ (r = true → a ≠ b)
 | 0, a, b, h, _, _ => absurd h (Nat.not_lt_zero _)
 | n + 1, a, b, h, hn, hb => by
  show ∃ r, base_Before.F (base_Before.N n) a b = some r ∧ _
  unfold base_Before.F
  match a, b with
  | [], b => exact ⟨_, rfl, fun h => by simp at h; intro q; subst q; simp at h⟩
  | x :: a, [] => exact ⟨_, rfl, fun h => by simp at h; omega⟩
  | x :: a, y :: b =>
   have e0 : ¬ ((((x :: a).length : Int) == 0) || (((y :: b).length : Int) == 0)) = true := by simp; omega
   have c1 : cut (x :: a) 1 ((x :: a).length : Int) = some a := by unfold cut; rw [if_pos (by simp; omega)]; simp
   have c2 : cut (y :: b) 1 ((y :: b).length : Int) = some b := by unfold cut; rw [if_pos (by simp; omega)]; simp
   have a1 : at_ (x :: a) 0 = some x := rfl;have a2 : at_ (y :: b) 0 = some y := rfl;rw [if_neg e0];simp only [a1, a2, Option.bind_some];by_cases h1 : x < y
   ·exact ⟨true, by simp [h1], fun _ q => by simp at q; omega⟩
   ·by_cases h2 : x = y
    ·obtain ⟨r, h3, h4⟩ := before_eq n a b (by simp at h; omega) (by omega) (by simp at hb; omega);refine ⟨r, ?_, fun hr q => h4 hr (by simp at q; exact q.2)⟩;subst h2;rw [if_neg h1, if_pos rfl, c1, c2];simp only [Option.bind_some, h3]
    ·exact ⟨false, by simp [h1, h2], fun q => by cases q⟩
theorem before_tri : ∀ (n m : Nat) (a b : List Int), base_Before.N n a b = some false → base_Before.N m b a = some false → a.length = b.length → a = b
 | 0, m, a, b, h, _, _ => by cases h
 | n + 1, 0, a, b, _, h, _ => by cases h
 | n + 1, m + 1, a, b, h, k, hl => by
  change base_Before.F (base_Before.N n) a b = some false at h;change base_Before.F (base_Before.N m) b a = some false at k;unfold base_Before.F at h k
  match a, b, hl with
  | [], [], _ => rfl
  | x :: a, y :: b, hl =>
   have e0 : ¬ ((((x :: a).length : Int) == 0) || (((y :: b).length : Int) == 0)) = true := by simp; omega
   have e1 : ¬ ((((y :: b).length : Int) == 0) || (((x :: a).length : Int) == 0)) = true := by simp; omega
   have c1 : cut (x :: a) 1 ((x :: a).length : Int) = some a := by unfold cut; rw [if_pos (by simp; omega)]; simp
   have c2 : cut (y :: b) 1 ((y :: b).length : Int) = some b := by unfold cut; rw [if_pos (by simp; omega)]; simp
   have a1 : at_ (x :: a) 0 = some x := rfl;have a2 : at_ (y :: b) 0 = some y := rfl;rw [if_neg e0] at h;rw [if_neg e1] at k;simp only [a1, a2, Option.bind_some, c1, c2] at h k;by_cases h1 : x < y
   ·simp [h1] at h
   ·by_cases h2 : y < x
    ·simp [h2] at k
    ·have h3 : x = y := by omega
     subst h3;simp only [h1, if_false, if_true] at h k;obtain ⟨r, hr, h⟩ := Option.bind_eq_some_iff.1 h;obtain ⟨r', hr', k⟩ := Option.bind_eq_some_iff.1 k;cases h;cases k;rw [before_tri n m a b hr hr' (by simpa using hl)]
theorem ints_eq {a b : List Int} (ha : a.length < 16777216) (hb : b.length < 16777216) : base_Ints a b = some (a == b) := by
 unfold base_Ints;have hF : (16777217 : Nat) ≤ FUEL := by unfold FUEL; omega
 have step : ∀ (n : Nat) (a b : List Int) (r : Bool), base_Before.N n a b = some r → base_Before.N (n + 1) a b = some r := by
  intro n
  induction n with
  | zero => intro a b r h; cases h
  | succ n ih =>
   intro a b r h;change base_Before.F (base_Before.N n) a b = some r at h
   show base_Before.F (base_Before.N (n + 1)) a b = some r
   unfold base_Before.F at h ⊢;split
   ·rename_i hc; rw [if_pos hc] at h; exact h
   ·rename_i hc
    rw [if_neg hc] at h;obtain ⟨x4, h4, h⟩ := Option.bind_eq_some_iff.1 h;obtain ⟨x5, h5, h⟩ := Option.bind_eq_some_iff.1 h;rw [h4, h5];simp only [Option.bind_some];split
    ·rename_i hd; rw [if_pos hd] at h; exact h
    ·rename_i hd
     rw [if_neg hd] at h;rw [h4, h5] at h;simp only [Option.bind_some] at h ⊢;split
     ·rename_i he
      rw [if_pos he] at h;obtain ⟨x6, h6, h⟩ := Option.bind_eq_some_iff.1 h;obtain ⟨x7, h7, h⟩ := Option.bind_eq_some_iff.1 h;obtain ⟨x8, h8, h⟩ := Option.bind_eq_some_iff.1 h;rw [h6, h7];simp only [Option.bind_some];rw [ih _ _ _ h8];exact h
     ·rename_i he; rw [if_neg he] at h; exact h
 have up : ∀ (n m : Nat) (a b : List Int) (r : Bool), n ≤ m → base_Before.N n a b = some r → base_Before.N m a b = some r := by
  intro n m a b r hnm h
  induction hnm with
  | refl => exact h
  | step _ ih => exact step _ _ _ _ ih
 have get : ∀ a b : List Int, a.length < 16777216 → b.length < 16777216 → ∃ r, base_Before a b = some r ∧ (r = true → a ≠ b) := by
  intro a b ha hb;obtain ⟨r, h1, h2⟩ := before_eq 16777217 a b (by omega) (Nat.le_refl _) hb;exact ⟨r, up _ _ _ _ _ hF h1, h2⟩
 by_cases hl : (a.length : Int) = (b.length : Int)
 ·rw [if_pos hl];obtain ⟨r, h1, h2⟩ := get a b ha hb;obtain ⟨r', h3, h4⟩ := get b a hb ha;rw [h1, h3];simp only [Option.bind_some];cases r with
  | true => simp; exact h2 rfl
  | false =>
   cases r' with
   | true => simp; exact fun q => h4 rfl q.symm
   | false => simp; exact before_tri _ _ _ _ h1 h3 (by omega)
 ·rw [if_neg hl];have : a ≠ b := fun q => hl (by rw [q])
  simp [this]
theorem within_eq (a b c : Int) : base_Within a b c = depend_inside a b c := by
 unfold base_Within depend_inside;simp only [Bool.not_or, ← decide_not]
 congr 1 <;> exact decide_eq_decide.2 (by omega)
theorem brokenG : ∀ (l : List depend_rule), l.length < 100 → depend_broken l = some (match l.findSome? (fun r => if r.holds = true then none else some r.code) with | some c => c | none => 0) := by
 intro l hl;unfold depend_broken;rw [loop_find (step := depend_broken.s1 l) l (fun r => if r.holds = true then none else some r.code) (fun c => Sum.inr c) (Sum.inl ()) rfl ?_ ?_ (by omega)]
 ·cases l.findSome? (fun r => if r.holds = true then none else some r.code) <;> rfl
 ·intro i hi;simp only [depend_broken.s1, lt_len hi, if_true, at_lt hi, Option.bind_some];by_cases h : l[i].holds = true
  ·simp only [h, not_true, if_false, if_true]; rw [wn (by omega)]
  ·simp only [h, not_false_eq_true, if_true, if_false, Bool.false_eq_true]
 ·simp only [depend_broken.s1, not_lt_len, if_false]
theorem broken1 (b : Bool) (c : Int) : depend_broken [depend_rule.mk b c] = some (if b = true then 0 else c) := by
 rw [brokenG _ (by simp)]; cases b <;> rfl
theorem broken2 (a b : Bool) (c d : Int) : depend_broken [depend_rule.mk a c, depend_rule.mk b d] = some (if a = true then (if b = true then 0 else d) else c) := by
 rw [brokenG _ (by simp)]; cases a <;> cases b <;> rfl
def oddC (l : List Int) : Bool := l.any fun c => !depend_inside c (-8) 8
def fErr (x : api_Affine) (k : Int) : Int := if (x.Coefs.length : Int) = k then (if oddC x.Coefs = true then 2 else if depend_inside x.Const (-64) 64 = true then 0 else 2) else 10
theorem oddC_eq {p : List Int} (h : p.length < 16777216) : slices_ContainsFunc_int__depend_formErr_c1 p = some (oddC p) := by
 unfold slices_ContainsFunc_int__depend_formErr_c1 slices_IndexFunc_int__depend_formErr_c1;obtain ⟨k, hk⟩ := loop_any (step := slices_IndexFunc_int__depend_formErr_c1.s1 p) p (fun c => !depend_inside c (-8) 8) (fun i => Sum.inr i) (Sum.inl ()) (s := 0) rfl (fun i hi => by
  simp only [slices_IndexFunc_int__depend_formErr_c1.s1, lt_len hi, if_true, at_lt hi, Option.bind_some, depend_formErr_c1];by_cases e : (!depend_inside p[i] (-8) 8) = true
  ·simp only [e, if_true]
  ·simp only [e, if_false, Bool.false_eq_true]; rw [wn (by omega)]) (by simp only [slices_IndexFunc_int__depend_formErr_c1.s1, not_lt_len, if_false]) (by omega)
 rw [hk];unfold oddC;by_cases e : p.any (fun c => !depend_inside c (-8) 8) = true
 ·simp only [e, if_true, Option.bind_some];have : (k : Int) ≥ 0 := by omega
  simp [this]
 ·simp only [e, if_false, Option.bind_some, Bool.false_eq_true];simp at e ⊢
theorem formErr_eq {x : api_Affine} (h : x.Coefs.length < 16777216) (k : Int) : depend_formErr x k = some (fErr x k) := by
 unfold depend_formErr fErr;rw [oddC_eq h];simp only [Option.bind_some];by_cases e : oddC x.Coefs = true
 ·simp only [e, not_true, if_false, if_true];rw [broken2];by_cases h2 : (x.Coefs.length : Int) = k <;> simp [h2]
 ·simp only [e, not_false_eq_true, if_true, if_false, Bool.false_eq_true];rw [broken2];by_cases h2 : (x.Coefs.length : Int) = k <;> simp [h2]
theorem affineErr_eq {x : api_Affine} (h : x.Coefs.length < 16777216) (k : Int) : ref27_AffineErr x k = some (fErr x k) := by
 unfold ref27_AffineErr fErr;by_cases h2 : (x.Coefs.length : Int) = k
 ·simp only [h2, not_true, if_false, if_true];rw [loop_find (step := ref27_AffineErr.s1 x k) x.Coefs (fun z => if (!depend_inside z (-8) 8) = true then some () else none) (fun _ => .inr 2) (.inl ()) rfl ?_ ?_ (by omega), findSome_const]
  ·unfold oddC;by_cases e : x.Coefs.any (fun c => !depend_inside c (-8) 8) = true
   ·simp only [e, if_true, Option.bind_some]
   ·simp only [e, if_false, Option.bind_some, Bool.false_eq_true, within_eq];by_cases e2 : depend_inside x.Const (-64) 64 = true <;> simp [e2]
  ·intro i hi;have hk : ((i : Int) < k) = True := eq_true (by omega);simp only [ref27_AffineErr.s1, hk, if_true, at_lt hi, Option.bind_some, within_eq];by_cases e : depend_inside x.Coefs[i] (-8) 8 = true
   ·simp only [e, not_true, if_false, Bool.not_true, Bool.false_eq_true]; rw [wn (by omega)]
   ·have : depend_inside x.Coefs[i] (-8) 8 = false := by simpa using e
    simp [this]
  ·have hk : ((x.Coefs.length : Int) < k) = False := eq_false (by omega);simp only [ref27_AffineErr.s1, hk, if_false]
 ·simp only [h2, not_false_eq_true, if_true, if_false]
theorem fErr_ok {x : api_Affine} {k : Int} (h : fErr x k = 0) : (x.Coefs.length : Int) = k ∧ (∀ c, c ∈ x.Coefs → -8 ≤ c ∧ c ≤ 8) ∧ -64 ≤ x.Const ∧ x.Const ≤ 64 := by
 unfold fErr at h;split at h
 ·rename_i h1
  split at h
  ·cases h
  ·rename_i h2
   split at h
   ·rename_i h3
    refine ⟨h1, ?_, by simpa [depend_inside] using h3⟩;intro c hc;have : oddC x.Coefs = false := by simpa using h2
    have := List.any_eq_false.1 this c hc;simp only [Bool.not_eq_true', Bool.not_eq_false] at this;simpa [depend_inside] using this
   ·cases h
 ·cases h
def vl (x : api_Affine) (pt : List Int) : Int := (x.Coefs.zip pt).foldl (fun b t => w (b + w (t.1 * t.2))) x.Const
theorem value_eq {x : api_Affine} {pt : List Int} (h : x.Coefs.length ≤ pt.length) (hp : pt.length < 16777216) : depend_value x pt = some (vl x pt) := by
 unfold depend_value vl;have hz : (x.Coefs.zip pt).length = x.Coefs.length := by simp; omega
 rw [loop_fold (step := depend_value.s1 x pt) (x.Coefs.zip pt) (fun i (b : Int) => (b, i)) (fun b => b) (fun b t => w (b + w (t.1 * t.2))) (fun _ _ => True) (a := x.Const) rfl ?_ ?_ trivial (by omega)]
 ·rfl
 ·intro i hi b _;refine ⟨?_, trivial⟩;rw [hz] at hi;have h2 : i < pt.length := by omega
  simp only [depend_value.s1, lt_len hi, if_true, at_lt hi, at_lt h2, Option.bind_some, List.getElem_zip];rw [wn (by omega)]
 ·intro b _; rw [hz]; simp only [depend_value.s1, not_lt_len, if_false]
theorem refValue_eq {x : api_Affine} {pt : List Int} (h : x.Coefs.length ≤ pt.length) (hp : pt.length < 16777216) : ref27_Value x pt = some (vl x pt) := by
 unfold ref27_Value vl;have hz : (x.Coefs.zip pt).length = x.Coefs.length := by simp; omega
 rw [loop_fold (step := ref27_Value.s1 x pt) (x.Coefs.zip pt) (fun i (b : Int) => (b, i)) (fun b => b) (fun b t => w (b + w (t.1 * t.2))) (fun _ _ => True) (a := x.Const) rfl ?_ ?_ trivial (by omega)]
 ·rfl
 ·intro i hi b _;refine ⟨?_, trivial⟩;rw [hz] at hi;have h2 : i < pt.length := by omega
  simp only [ref27_Value.s1, lt_len hi, if_true, at_lt hi, at_lt h2, Option.bind_some, List.getElem_zip];rw [wn (by omega)]
 ·intro b _; rw [hz]; simp only [ref27_Value.s1, not_lt_len, if_false]
theorem vl_bound {x : api_Affine} {k : Int} (h : fErr x k = 0) {pt : List Int} {M : Int} (hM : 0 ≤ M) (hM2 : M ≤ 1000000000) (hp : ∀ z, z ∈ pt → -M ≤ z ∧ z ≤ M) (hl : pt.length ≤ 100) : -(64 + 8 * M * pt.length) ≤ vl x pt ∧ vl x pt ≤ 64 + 8 * M * pt.length := by
 obtain ⟨_, hc, h1, h2⟩ := fErr_ok h;have key : ∀ (cs pt : List Int) (b : Int), (∀ c, c ∈ cs → -8 ≤ c ∧ c ≤ 8) → (∀ z, z ∈ pt → -M ≤ z ∧ z ≤ M) → -1000000000000 ≤ b - 8 * M * pt.length → b + 8 * M * pt.length ≤ 1000000000000 →
   b - 8 * M * pt.length ≤ (cs.zip pt).foldl (fun b t => w (b + w (t.1 * t.2))) b ∧ (cs.zip pt).foldl (fun b t => w (b + w (t.1 * t.2))) b ≤ b + 8 * M * pt.length := by
  intro cs
  induction cs with
  | nil =>
   intro pt b _ _ h1 h2;have : 0 ≤ 8 * M * (pt.length : Int) := Int.mul_nonneg (by omega) (by omega);simp; omega
  | cons c cs ih =>
   intro pt b hc hp h1 h2;cases pt with
   | nil => simp
   | cons z pt =>
    have hcc := hc c (.head _);have hz := hp z (.head _);rw [List.length_cons, Int.natCast_add, Int.mul_add] at h1 h2 ⊢;simp only [Int.natCast_one, Int.mul_one] at h1 h2 ⊢;have hn : 0 ≤ 8 * M * (pt.length : Int) := Int.mul_nonneg (by omega) (by omega);have e1 : c * z ≤ 8 * M ∧ -(8 * M) ≤ c * z := by
     have p1 : 0 ≤ (8 - c) * (M - z) := Int.mul_nonneg (by omega) (by omega);have p2 : 0 ≤ (8 + c) * (M + z) := Int.mul_nonneg (by omega) (by omega);have p3 : 0 ≤ (8 - c) * (M + z) := Int.mul_nonneg (by omega) (by omega);have p4 : 0 ≤ (8 + c) * (M - z) := Int.mul_nonneg (by omega) (by omega);simp only [Int.sub_mul, Int.add_mul, Int.mul_sub, Int.mul_add] at p1 p2 p3 p4;omega
    have hs : w (b + w ((c, z).fst * (c, z).snd)) = b + c * z := by
     show w (b + w (c * z)) = b + c * z
     rw [w_id (n := c * z) (by omega) (by omega), w_id (by omega) (by omega)]
    rw [List.zip_cons_cons, List.foldl_cons, hs];have := ih pt (b + c * z) (fun y hy => hc y (.tail _ hy)) (fun y hy => hp y (.tail _ hy)) (by omega) (by omega);omega
 have hb : 8 * M * (pt.length : Int) ≤ 8 * M * 100 := Int.mul_le_mul_of_nonneg_left (by omega) (by omega);have hn : 0 ≤ 8 * M * (pt.length : Int) := Int.mul_nonneg (by omega) (by omega);have := key x.Coefs pt x.Const hc hp (by omega) (by omega);unfold vl;omega
end Go.Sh
namespace Go.Sh
open Go.Lx
set_option linter.unusedVariables false
set_option linter.unusedSimpArgs false
def lo (x : api_Affine) (l : List api_Hull) : Int := (x.Coefs.zip l).foldl (fun b t => w (b + mn (w (t.1 * t.2.Low)) (w (t.1 * t.2.High)))) x.Const
def hi (x : api_Affine) (l : List api_Hull) : Int := (x.Coefs.zip l).foldl (fun b t => w (b + mx (w (t.1 * t.2.Low)) (w (t.1 * t.2.High)))) x.Const
theorem least_eq {x : api_Affine} {l : List api_Hull} (h : x.Coefs.length ≤ l.length) (hp : l.length < 16777216) : depend_least x l = some (lo x l) := by
 unfold depend_least lo;have hz : (x.Coefs.zip l).length = x.Coefs.length := by simp; omega
 rw [loop_fold (step := depend_least.s1 x l) (x.Coefs.zip l) (fun i (b : Int) => (b, i)) (fun b => b) (fun b t => w (b + mn (w (t.1 * t.2.Low)) (w (t.1 * t.2.High)))) (fun _ _ => True) (a := x.Const) rfl ?_ ?_ trivial (by omega)]
 ·rfl
 ·intro i hi b _;refine ⟨?_, trivial⟩;rw [hz] at hi;have h2 : i < l.length := by omega
  simp only [depend_least.s1, lt_len hi, if_true, at_lt hi, at_lt h2, Option.bind_some, List.getElem_zip];rw [wn (by omega)]
 ·intro b _; rw [hz]; simp only [depend_least.s1, not_lt_len, if_false]
theorem greatest_eq {x : api_Affine} {l : List api_Hull} (h : x.Coefs.length ≤ l.length) (hp : l.length < 16777216) : depend_greatest x l = some (hi x l) := by
 unfold depend_greatest hi;have hz : (x.Coefs.zip l).length = x.Coefs.length := by simp; omega
 rw [loop_fold (step := depend_greatest.s1 x l) (x.Coefs.zip l) (fun i (b : Int) => (b, i)) (fun b => b) (fun b t => w (b + mx (w (t.1 * t.2.Low)) (w (t.1 * t.2.High)))) (fun _ _ => True) (a := x.Const) rfl ?_ ?_ trivial (by omega)]
 ·rfl
 ·intro i hi b _;refine ⟨?_, trivial⟩;rw [hz] at hi;have h2 : i < l.length := by omega
  simp only [depend_greatest.s1, lt_len hi, if_true, at_lt hi, at_lt h2, Option.bind_some, List.getElem_zip];rw [wn (by omega)]
 ·intro b _; rw [hz]; simp only [depend_greatest.s1, not_lt_len, if_false]
theorem between_eq {x : api_Affine} {l : List api_Hull} (h : x.Coefs.length ≤ l.length) (hp : l.length < 16777216) : ref27_between x l = some ⟨lo x l, hi x l⟩ := by
 unfold ref27_between;have hz : (x.Coefs.zip l).length = x.Coefs.length := by simp; omega
 rw [loop_fold (step := ref27_between.s1 x l) (x.Coefs.zip l) (fun i (b : Int × Int) => (i, b.1, b.2)) (fun b => (b.1, b.2)) (fun b t => (w (b.1 + mn (w (t.1 * t.2.Low)) (w (t.1 * t.2.High))), w (b.2 + mx (w (t.1 * t.2.Low)) (w (t.1 * t.2.High))))) (fun _ _ => True) (a := (x.Const, x.Const)) rfl ?_ ?_ trivial (by omega)]
 ·have key : ∀ (T : List (Int × api_Hull)) (a b : Int), T.foldl (fun (b : Int × Int) t => (w (b.1 + mn (w (t.1 * t.2.Low)) (w (t.1 * t.2.High))), w (b.2 + mx (w (t.1 * t.2.Low)) (w (t.1 * t.2.High))))) (a, b) =
    (T.foldl (fun b t => w (b + mn (w (t.1 * t.2.Low)) (w (t.1 * t.2.High)))) a, T.foldl (fun b t => w (b + mx (w (t.1 * t.2.Low)) (w (t.1 * t.2.High)))) b) := by
   intro T
   induction T with
   | nil => intros; rfl
   | cons t T ih => intro a b; simp only [List.foldl_cons]; exact ih _ _
  rw [key];rfl
 ·intro i hi b _;refine ⟨?_, trivial⟩;rw [hz] at hi;have h2 : i < l.length := by omega
  simp only [ref27_between.s1, lt_len hi, if_true, at_lt hi, at_lt h2, Option.bind_some, List.getElem_zip];rw [wn (by omega)]
 ·intro b _; rw [hz]; simp only [ref27_between.s1, not_lt_len, if_false]
def hls (p : List api_Loop) : List api_Hull := p.foldl (fun out l => out ++ [⟨lo l.Low out, hi l.High out⟩]) []
structure VN (p : List api_Loop) : Prop where
 len : p.length ≤ 3
 f : ∀ k (h : k < p.length), fErr p[k].Low k = 0 ∧ fErr p[k].High k = 0
theorem VN.lens {p : List api_Loop} (h : VN p) {k : Nat} (hk : k < p.length) : p[k].Low.Coefs.length = k ∧ p[k].High.Coefs.length = k := by
 obtain ⟨h1, h2⟩ := h.f k hk;have := (fErr_ok h1).1;have := (fErr_ok h2).1;omega
theorem hulls_eq {p : List api_Loop} (h : VN p) : depend_hulls p = some (hls p) := by
 have hl := h.len;unfold depend_hulls hls;rw [loop_fold (step := depend_hulls.s1 p) p (fun i (b : List api_Hull) => (i, b)) (fun b => b) (fun out l => out ++ [⟨lo l.Low out, hi l.High out⟩]) (fun i b => b.length = i) (a := []) rfl ?_ ?_ rfl (by omega)]
 ·rfl
 ·intro i hi' b hb;obtain ⟨h1, h2⟩ := h.lens hi';refine ⟨?_, by simp [hb]⟩;simp only [depend_hulls.s1, lt_len hi', if_true, at_lt hi', Option.bind_some];change (depend_least p[i].Low b).bind _ = _;rw [least_eq (by omega) (by omega)];simp only [Option.bind_some];change (depend_greatest p[i].High b).bind _ = _;rw [greatest_eq (by omega) (by omega)];simp only [Option.bind_some];rw [app_one (by omega), wn (by omega)];rfl
 ·intro b _; simp only [depend_hulls.s1, not_lt_len, if_false]
theorem refHulls_eq {p : List api_Loop} (h : VN p) : ref27_Hulls p = some (hls p) := by
 have hl := h.len;unfold ref27_Hulls hls;rw [loop_fold (step := ref27_Hulls.s1 p) p (fun i (b : List api_Hull) => (i, b)) (fun b => b) (fun out l => out ++ [⟨lo l.Low out, hi l.High out⟩]) (fun i b => b.length = i) (a := []) rfl ?_ ?_ rfl (by omega)]
 ·rfl
 ·intro i hi' b hb;obtain ⟨h1, h2⟩ := h.lens hi';refine ⟨?_, by simp [hb]⟩;simp only [ref27_Hulls.s1, lt_len hi', if_true, at_lt hi', Option.bind_some];change (ref27_between p[i].Low b).bind _ = _;rw [between_eq (by omega) (by omega)];simp only [Option.bind_some];change (ref27_between p[i].High b).bind _ = _;rw [between_eq (by omega) (by omega)];simp only [Option.bind_some];rw [app_one (by omega), wn (by omega)];rfl
 ·intro b _; simp only [ref27_Hulls.s1, not_lt_len, if_false]
theorem hls_len (p : List api_Loop) : (hls p).length = p.length := by
 have : ∀ (p : List api_Loop) (b : List api_Hull), (p.foldl (fun out l => out ++ [⟨lo l.Low out, hi l.High out⟩]) b).length = b.length + p.length := by
  intro p
  induction p with
  | nil => intro b; simp
  | cons l p ih => intro b; rw [List.foldl_cons, ih]; simp; omega
 simpa [hls] using this p []
def ups (a b : Int) : List Int := (List.range (b - a + 1).toNat).map fun i : Nat => a + i
def pts : List api_Loop → List Int → List (List Int)
 | [], pt => [pt]
 | l :: ls, pt => (ups (vl l.Low pt) (vl l.High pt)).flatMap fun x => pts ls (pt ++ [x])
theorem loop_ups {β ρ τ : Type} {step : Int × β → Option (Sum (Int × β) τ)} (a b : Int) (f : β → Int → Sum ρ β) (brk : ρ → τ) (fin : β → τ) (Inv : Nat → β → Prop) {z : β} (ha : -100000000 ≤ a ∧ a ≤ 100000000) (hb : b ≤ 100000000)
  (h : ∀ (i : Nat) (x : Int) c, (hi : i < (ups a b).length) → (ups a b)[i] = x → a ≤ x → x ≤ b → Inv i c → step (x, c) = some (match f c x with | .inl r => .inr (brk r) | .inr c' => .inl (x + 1, c')) ∧ (∀ c', f c x = .inr c' → Inv (i + 1) c'))
  (hend : ∀ x c, ¬ x ≤ b → -100000000 ≤ x → x ≤ 100000001 → Inv (ups a b).length c → step (x, c) = some (.inr (fin c))) (hI : Inv 0 z) :
  loopO step (a, z) = some (match scanE (fun _ => f) 0 (ups a b) z with | .inl r => brk r | .inr c => fin c) := by
 have hl : (ups a b).length = (b - a + 1).toNat := by simp [ups]
 refine loop_scan (step := step) (ups a b) (fun i c => (a + i, c)) brk fin (fun _ => f) Inv (by simp) ?_ ?_ hI (by omega)
 ·intro i hi c hc;have e : (ups a b)[i] = a + i := by simp [ups]
  have hi' : i < (b - a + 1).toNat := by omega
  obtain ⟨h1, h2⟩ := h i (a + i) c hi e (by omega) (by omega) hc;rw [e];refine ⟨?_, h2⟩;rw [h1];cases f c (a + i) with
  | inl r => rfl
  | inr c' =>
   have : a + (i : Int) + 1 = a + ((i + 1 : Nat) : Int) := by omega
   simp only [this]
 ·intro c hc;exact hend _ _ (by omega) (by omega) (by omega) hc
def M (k : Nat) : Int := 64 * 25 ^ k
theorem M_pos (k : Nat) : 0 ≤ M k := Int.mul_nonneg (by omega) (Int.pow_nonneg (by omega))
def Pt (pt : List Int) : Prop := ∀ z, z ∈ pt → -(M pt.length) ≤ z ∧ z ≤ M pt.length
theorem M3 {k : Nat} (h : k ≤ 3) : M k ≤ 1000000 := by
 match k, h with
 | 0, _ => decide
 | 1, _ => decide
 | 2, _ => decide
 | 3, _ => decide
theorem vl_M {x : api_Affine} {pt : List Int} (h : fErr x pt.length = 0) (hp : Pt pt) (hk : pt.length ≤ 2) : -(M (pt.length + 1)) ≤ vl x pt ∧ vl x pt ≤ M (pt.length + 1) := by
 have h1 := vl_bound h (M_pos pt.length) (by have := M3 (k := pt.length) (by omega); omega) hp (by omega);have : 64 + 8 * M pt.length * (pt.length : Int) ≤ M (pt.length + 1) := by
  generalize pt.length = k at hk
  match k, hk with
  | 0, _ => decide
  | 1, _ => decide
  | 2, _ => decide
 omega
theorem Pt.snoc {pt : List Int} (hp : Pt pt) {x : Int} (h1 : -(M (pt.length + 1)) ≤ x) (h2 : x ≤ M (pt.length + 1)) : Pt (pt ++ [x]) := by
 intro z hz;rw [List.length_append, List.length_singleton];rcases List.mem_append.1 hz with hz | hz
 ·have := hp z hz;have e : M (pt.length + 1) = 25 * M pt.length := by unfold M; rw [Int.pow_succ]; omega
  have := M_pos pt.length;omega
 ·simp at hz; subst hz; exact ⟨h1, h2⟩
theorem clip_eq {p : List Int} : slices_Clip_int p = some p := by
 unfold slices_Clip_int cut;rw [if_pos (by omega)];simp
theorem clone_eq {p : List Int} (h : p.length ≤ 16777216) : slices_Clone_int p = some p := by
 unfold slices_Clone_int;rw [app_nil h];rfl
section
variable {p : List api_Loop}
theorem scan_count (g : Int → Nat) : ∀ (xs : List Int) (i : Nat) (c : Int), c ≤ 200 → scanE (ρ := Unit) (fun _ c x => if c + (g x : Int) > 200 then .inl () else .inr (c + (g x : Int))) i xs c = if c + ((xs.map g).sum : Nat) > 200 then .inl () else .inr (c + ((xs.map g).sum : Nat))
 | [], i, c, h => by simp [scanE]; omega
 | x :: xs, i, c, h => by
  simp only [scanE, List.map_cons, List.sum_cons];by_cases h1 : c + (g x : Int) > 200
  ·simp only [h1, if_true];rw [if_pos (by omega)]
  ·simp only [h1, if_false];rw [scan_count g xs (i + 1) _ (by omega)];have e : c + (g x : Int) + ((xs.map g).sum : Nat) = c + ((g x + (xs.map g).sum : Nat) : Int) := by omega
   rw [e]
theorem len_flat {α : Type} (g : Int → List α) (xs : List Int) : (xs.flatMap g).length = (xs.map fun x => (g x).length).sum := by
 rw [List.length_flatMap]
theorem walk_count (h : VN p) : ∀ (r : Nat) (n : Nat) (pt : List Int) (c : Int), pt.length + r = p.length → r < n → Pt pt → 0 ≤ c → c ≤ 200 →
  depend_walk__depend_CheckNest_c3.N n p pt c = some (if c + ((pts (p.drop pt.length) pt).length : Int) > 200 then (true, 201) else (false, c + ((pts (p.drop pt.length) pt).length : Int)))
 | r, 0, pt, c, _, hn, _, _, _ => by omega
 | 0, n + 1, pt, c, hr, _, hp, h0, h1 => by
  show depend_walk__depend_CheckNest_c3.F _ p pt c = _
  unfold depend_walk__depend_CheckNest_c3.F;rw [if_pos (by omega), List.drop_of_length_le (by omega)];have e : w (c + 1) = c + 1 := w_id (by omega) (by omega);simp only [depend_CheckNest_c3, e, pts, List.length_singleton];by_cases h2 : c + 1 > 200
  ·have : c = 200 := by omega
   subst this;rfl
  ·have : ¬ c + ((1 : Nat) : Int) > 200 := by omega
   simp only [h2, this, decide_false, if_false];rfl
 | r + 1, n + 1, pt, c, hr, hn, hp, h0, h1 => by
  have hk : pt.length < p.length := by omega
  have hl := h.len;obtain ⟨l1, l2⟩ := h.lens hk;obtain ⟨f1, f2⟩ := h.f _ hk;obtain ⟨a1, a2⟩ := vl_M f1 hp (by omega);obtain ⟨b1, b2⟩ := vl_M f2 hp (by omega);have m3 := M3 (k := pt.length + 1) (by omega);have ep : (pts (p.drop pt.length) pt).length = ((ups (vl p[pt.length].Low pt) (vl p[pt.length].High pt)).map fun x => (pts (p.drop (pt.length + 1)) (pt ++ [x])).length).sum := by
   rw [List.drop_eq_getElem_cons hk];simp only [pts];rw [len_flat]
  rw [ep]
  show depend_walk__depend_CheckNest_c3.F _ p pt c = _
  unfold depend_walk__depend_CheckNest_c3.F;rw [if_neg (by omega), at_lt hk];simp only [Option.bind_some];change (depend_value p[pt.length].Low pt).bind _ = _;rw [value_eq (by omega) (by omega)];simp only [Option.bind_some];rw [loop_ups (ρ := Unit) (step := depend_walk__depend_CheckNest_c3.s1 p pt (depend_walk__depend_CheckNest_c3.N n)) (vl p[pt.length].Low pt) (vl p[pt.length].High pt)
   (fun c x => if c + (((fun x => (pts (p.drop (pt.length + 1)) (pt ++ [x])).length) x : Nat) : Int) > 200 then .inl () else .inr (c + (((fun x => (pts (p.drop (pt.length + 1)) (pt ++ [x])).length) x : Nat) : Int)))
   (fun _ => .inr (true, 201)) (fun c => .inl c) (fun _ c => 0 ≤ c ∧ c ≤ 200) (by omega) (by omega) ?_ ?_ ⟨h0, h1⟩]
  ·rw [scan_count _ _ _ _ h1];by_cases h2 : c + ((((ups (vl p[pt.length].Low pt) (vl p[pt.length].High pt)).map fun x => (pts (p.drop (pt.length + 1)) (pt ++ [x])).length).sum : Nat) : Int) > 200
   ·simp only [h2, if_true, Option.bind_some]
   ·simp only [h2, if_false, Option.bind_some]
  ·intro i x c' hi he hx1 hx2 hc;have ih := walk_count h r n (pt ++ [x]) c' (by simp; omega) (by omega) (hp.snoc (by omega) (by omega)) hc.1 hc.2;rw [List.length_append, List.length_singleton] at ih;constructor
   ·simp only [depend_walk__depend_CheckNest_c3.s1];rw [at_lt hk];simp only [Option.bind_some];change (depend_value p[pt.length].High pt).bind _ = _;rw [value_eq (by omega) (by omega)];simp only [Option.bind_some, hx2, if_true, clip_eq];rw [app_one (by omega)];simp only [Option.bind_some];rw [ih];by_cases h2 : c' + ((pts (p.drop (pt.length + 1)) (pt ++ [x])).length : Int) > 200
    ·simp only [h2, if_true, Option.bind_some]
    ·simp only [h2, if_false, Option.bind_some, Bool.false_eq_true];rw [w_id (by omega) (by omega)]
   ·intro c'' hc'';split at hc''
    ·cases hc''
    ·cases hc''; omega
  ·intro x c' hx h2 h3 _;simp only [depend_walk__depend_CheckNest_c3.s1];rw [at_lt hk];simp only [Option.bind_some];change (depend_value p[pt.length].High pt).bind _ = _;rw [value_eq (by omega) (by omega)];simp only [Option.bind_some, hx, if_false]
theorem scan_all {α : Type} (g : Int → List α) : ∀ (xs : List Int) (i : Nat) (c : List α), scanE (ρ := Empty) (fun _ c x => .inr (c ++ g x)) i xs c = .inr (c ++ xs.flatMap g)
 | [], i, c => by simp [scanE]
 | x :: xs, i, c => by
  simp only [scanE];rw [scan_all g xs];simp
theorem flat_take {α : Type} (g : Int → List α) (xs : List Int) {i : Nat} (hi : i < xs.length) : ((xs.take i).flatMap g).length + (g xs[i]).length ≤ (xs.flatMap g).length ∧ (xs.take (i + 1)).flatMap g = (xs.take i).flatMap g ++ g xs[i] := by
 have e : xs.take (i + 1) = xs.take i ++ [xs[i]] := by rw [List.take_succ]; simp [hi]
 have h2 : (xs.take (i + 1)).flatMap g = (xs.take i).flatMap g ++ g xs[i] := by rw [e, List.flatMap_append, List.flatMap_cons, List.flatMap_nil, List.append_nil]
 refine ⟨?_, h2⟩;have h3 : xs.flatMap g = (xs.take (i + 1)).flatMap g ++ (xs.drop (i + 1)).flatMap g := by
  rw [← List.flatMap_append, List.take_append_drop]
 rw [h3, h2];simp
theorem walk_pts (h : VN p) : ∀ (r : Nat) (n : Nat) (pt : List Int) (b : List (List Int)), pt.length + r = p.length → r < n → Pt pt → b.length + (pts (p.drop pt.length) pt).length ≤ 16777216 →
  depend_walk__depend_points_c1.N n p pt b = some (false, b ++ pts (p.drop pt.length) pt)
 | r, 0, pt, c, _, hn, _, _ => by omega
 | 0, n + 1, pt, b, hr, _, hp, hb => by
  have hl := h.len;rw [List.drop_of_length_le (by omega)] at hb ⊢
  show depend_walk__depend_points_c1.F _ p pt b = _
  unfold depend_walk__depend_points_c1.F depend_points_c1;simp only [pts, List.length_singleton] at hb ⊢;rw [if_pos (by omega), clone_eq (by omega)];simp only [Option.bind_some];rw [app_one (by omega)];rfl
 | r + 1, n + 1, pt, b, hr, hn, hp, hb => by
  have hk : pt.length < p.length := by omega
  have hl := h.len;obtain ⟨l1, l2⟩ := h.lens hk;obtain ⟨f1, f2⟩ := h.f _ hk;obtain ⟨a1, a2⟩ := vl_M f1 hp (by omega);obtain ⟨b1, b2⟩ := vl_M f2 hp (by omega);have m3 := M3 (k := pt.length + 1) (by omega);rw [List.drop_eq_getElem_cons hk] at hb ⊢;simp only [pts] at hb ⊢
  show depend_walk__depend_points_c1.F _ p pt b = _
  unfold depend_walk__depend_points_c1.F;rw [if_neg (by omega), at_lt hk];simp only [Option.bind_some];change (depend_value p[pt.length].Low pt).bind _ = _;rw [value_eq (by omega) (by omega)];simp only [Option.bind_some];rw [loop_ups (ρ := Empty) (step := depend_walk__depend_points_c1.s1 p pt (depend_walk__depend_points_c1.N n)) (vl p[pt.length].Low pt) (vl p[pt.length].High pt)
   (fun c x => .inr (c ++ (fun x => pts (p.drop (pt.length + 1)) (pt ++ [x])) x))
   (fun e => e.elim) (fun c => .inl c) (fun i c => c = b ++ ((ups (vl p[pt.length].Low pt) (vl p[pt.length].High pt)).take i).flatMap fun x => pts (p.drop (pt.length + 1)) (pt ++ [x])) (by omega) (by omega) ?_ ?_ (by simp)]
  ·rw [scan_all];rfl
  ·intro i x c' hi he hx1 hx2 hc;obtain ⟨t1, t2⟩ := flat_take (fun x => pts (p.drop (pt.length + 1)) (pt ++ [x])) _ hi;rw [he] at t1 t2;have ih := walk_pts h r n (pt ++ [x]) c' (by simp; omega) (by omega) (hp.snoc (by omega) (by omega)) (by
    rw [List.length_append, List.length_singleton, hc, List.length_append]; omega)
   rw [List.length_append, List.length_singleton] at ih;constructor
   ·simp only [depend_walk__depend_points_c1.s1];rw [at_lt hk];simp only [Option.bind_some];change (depend_value p[pt.length].High pt).bind _ = _;rw [value_eq (by omega) (by omega)];simp only [Option.bind_some, hx2, if_true, clip_eq];rw [app_one (by omega)];simp only [Option.bind_some];rw [ih];simp only [Option.bind_some, Bool.false_eq_true, if_false];rw [w_id (by omega) (by omega)]
   ·intro c'' hc'';cases hc'';rw [t2, hc, List.append_assoc]
  ·intro x c' hx h2 h3 _;simp only [depend_walk__depend_points_c1.s1];rw [at_lt hk];simp only [Option.bind_some];change (depend_value p[pt.length].High pt).bind _ = _;rw [value_eq (by omega) (by omega)];simp only [Option.bind_some, hx, if_false]
theorem FUEL5 : (5 : Nat) ≤ FUEL := by unfold FUEL; omega
theorem pt_nil : Pt [] := by intro z hz; cases hz
theorem count_eq (h : VN p) : depend_walk__depend_CheckNest_c3 p [] 0 = some (if ((pts p []).length : Int) > 200 then (true, 201) else (false, ((pts p []).length : Int))) := by
 have hl := h.len;have := walk_count h p.length FUEL [] 0 (by simp) (by have := FUEL5; omega) pt_nil (by omega) (by omega)
 show depend_walk__depend_CheckNest_c3.N FUEL p [] 0 = _
 simpa using this
theorem points_eq (h : VN p) (hc : (pts p []).length ≤ 16777216) : depend_points p = some (pts p []) := by
 have hl := h.len;unfold depend_points;have := walk_pts h p.length FUEL [] [] (by simp) (by have := FUEL5; omega) pt_nil (by simpa using hc);have e : depend_walk__depend_points_c1 p [] [] = some (false, pts p []) := by
  show depend_walk__depend_points_c1.N FUEL p [] [] = _
  simpa using this
 rw [e];rfl
theorem scan_cap {α : Type} (g : Int → List α) : ∀ (xs : List Int) (i : Nat) (c : List α), (match scanE (ρ := List α) (fun _ c x => if c.length ≤ 200 then .inr ((c ++ g x).take 201) else .inl c) i xs c with | .inl r => r | .inr c => c) = if c.length ≤ 200 then (c ++ xs.flatMap g).take 201 else c
 | [], i, c => by
  simp only [scanE, List.flatMap_nil, List.append_nil];split
  ·rw [List.take_of_length_le (by omega)]
  ·rfl
 | x :: xs, i, c => by
  simp only [scanE];by_cases h1 : c.length ≤ 200
  ·simp only [h1, if_true];rw [scan_cap g xs (i + 1)];simp only [List.flatMap_cons, ← List.append_assoc];by_cases h2 : (c ++ g x).length ≤ 200
   ·rw [List.take_of_length_le (by omega), if_pos h2]
   ·have h3 : ¬ ((c ++ g x).take 201).length ≤ 200 := by rw [List.length_take]; omega
    rw [if_neg h3];exact (List.take_append_of_le_length (l₁ := c ++ g x) (by omega)).symm
  ·simp only [h1, if_false]
theorem ref_pts (h : VN p) : ∀ (r : Nat) (n : Nat) (pt : List Int) (b : List (List Int)), pt.length + r = p.length → r < n → Pt pt → b.length ≤ 200 →
  ref27_points_i2.N n p pt b = some ((b ++ pts (p.drop pt.length) pt).take 201)
 | r, 0, pt, c, _, hn, _, _ => by omega
 | 0, n + 1, pt, b, hr, _, hp, hb => by
  have hl := h.len;rw [List.drop_of_length_le (by omega)]
  show ref27_points_i2.F _ p pt b = _
  unfold ref27_points_i2.F;simp only [pts];rw [if_pos (by omega), copyInts_eq (by omega)];simp only [Option.bind_some];rw [app_one (by omega), List.take_of_length_le (by simp; omega)];rfl
 | r + 1, n + 1, pt, b, hr, hn, hp, hb => by
  have hk : pt.length < p.length := by omega
  have hl := h.len;obtain ⟨l1, l2⟩ := h.lens hk;obtain ⟨f1, f2⟩ := h.f _ hk;obtain ⟨a1, a2⟩ := vl_M f1 hp (by omega);obtain ⟨b1, b2⟩ := vl_M f2 hp (by omega);have m3 := M3 (k := pt.length + 1) (by omega);rw [List.drop_eq_getElem_cons hk];simp only [pts]
  show ref27_points_i2.F _ p pt b = _
  unfold ref27_points_i2.F;rw [if_neg (by omega), at_lt hk];simp only [Option.bind_some];change (ref27_Value p[pt.length].High pt).bind _ = _;rw [refValue_eq (by omega) (by omega)];simp only [Option.bind_some];change (ref27_Value p[pt.length].Low pt).bind _ = _;rw [refValue_eq (by omega) (by omega)];simp only [Option.bind_some];rw [loop_ups (ρ := List (List Int)) (step := ref27_points_i2.s1 p pt (ref27_points_i2.N n) (vl p[pt.length].High pt)) (vl p[pt.length].Low pt) (vl p[pt.length].High pt)
   (fun c x => if c.length ≤ 200 then .inr ((c ++ (fun x => pts (p.drop (pt.length + 1)) (pt ++ [x])) x).take 201) else .inl c)
   (fun c => c) (fun c => c) (fun i c => c.length ≤ 201) (by omega) (by omega) ?_ ?_ (by omega)]
  ·have := scan_cap (fun x => pts (p.drop (pt.length + 1)) (pt ++ [x])) (ups (vl p[pt.length].Low pt) (vl p[pt.length].High pt)) 0 b;rw [if_pos hb] at this;simp only [Option.bind_some];rw [← this];generalize scanE _ _ _ _ = q;cases q <;> rfl
  ·intro i x c' hi he hx1 hx2 hc;constructor
   ·simp only [ref27_points_i2.s1];by_cases h2 : c'.length ≤ 200
    ·have ih := ref_pts h r n (pt ++ [x]) c' (by simp; omega) (by omega) (hp.snoc (by omega) (by omega)) h2;rw [List.length_append, List.length_singleton] at ih;have e : ((decide (x ≤ vl p[pt.length].High pt)) && (decide ((c'.length : Int) ≤ 200))) = true := by
      simp only [Bool.and_eq_true, decide_eq_true_eq]; omega
     rw [if_pos e, copyInts_eq (by omega)];simp only [Option.bind_some];rw [app_one (by omega)];simp only [Option.bind_some];rw [ih];simp only [Option.bind_some, h2, if_true];rw [w_id (by omega) (by omega)]
    ·have e : ((decide (x ≤ vl p[pt.length].High pt)) && (decide ((c'.length : Int) ≤ 200))) = false := by
      have : ¬ (c'.length : Int) ≤ 200 := by omega
      simp [this]
     simp only [e, h2, if_false, Bool.false_eq_true]
   ·intro c'' hc'';split at hc''
    ·cases hc''; rw [List.length_take]; omega
    ·cases hc''
  ·intro x c' hx h2 h3 _;have e : ((decide (x ≤ vl p[pt.length].High pt)) && (decide ((c'.length : Int) ≤ 200))) = false := by simp [hx]
   simp only [ref27_points_i2.s1, e, if_false, Bool.false_eq_true]
theorem refPoints_eq (h : VN p) (h0 : 0 < p.length) : ref27_Points p = some ((pts p []).take 201) := by
 have hl := h.len;unfold ref27_Points;have hk : ([] : List Int).length < p.length := by simpa using h0
 obtain ⟨l1, l2⟩ := h.lens h0;obtain ⟨f1, f2⟩ := h.f _ h0;obtain ⟨a1, a2⟩ := vl_M (pt := []) f1 pt_nil (by simp);obtain ⟨b1, b2⟩ := vl_M (pt := []) f2 pt_nil (by simp);have m3 := M3 (k := 1) (by omega);have e : ref27_points p [] = some ((pts p []).take 201) := by
  cases hp : p with
  | nil => rw [hp] at h0; simp at h0
  | cons l ls =>
   have hpl : p[0] = l := by simp [hp]
   rw [← hp];have ep : pts p [] = (ups (vl p[0].Low []) (vl p[0].High [])).flatMap fun x => pts (p.drop 1) [x] := by
    simp only [hp, List.getElem_cons_zero, List.drop_succ_cons, List.drop_zero, pts, List.nil_append]
   rw [ep];unfold ref27_points;rw [if_neg (by simp; omega)];have a0 : at_ p (([] : List Int).length : Int) = some p[0] := at_lt (i := 0) h0;rw [a0];simp only [Option.bind_some];change (ref27_Value p[0].High []).bind _ = _;rw [refValue_eq (by omega) (by simp)];simp only [Option.bind_some];change (ref27_Value p[0].Low []).bind _ = _;rw [refValue_eq (by omega) (by simp)];simp only [Option.bind_some];simp only [List.length_nil, Nat.zero_add] at a1 a2 b1 b2;rw [loop_ups (ρ := List (List Int)) (step := ref27_points.s1 p [] (vl p[0].High [])) (vl p[0].Low []) (vl p[0].High [])
    (fun c x => if c.length ≤ 200 then .inr ((c ++ (fun x => pts (p.drop 1) [x]) x).take 201) else .inl c)
    (fun c => c) (fun c => c) (fun i c => c.length ≤ 201) (by omega) (by omega) ?_ ?_ (by simp)]
   ·have := scan_cap (fun x => pts (p.drop 1) [x]) (ups (vl p[0].Low []) (vl p[0].High [])) 0 [];rw [if_pos (by simp), List.nil_append] at this;simp only [Option.bind_some];rw [← this];generalize scanE _ _ _ _ = q;cases q <;> rfl
   ·intro i x c' hi he hx1 hx2 hc;constructor
    ·simp only [ref27_points.s1];by_cases h2 : c'.length ≤ 200
     ·have ih := ref_pts h (p.length - 1) FUEL [x] c' (by simp; omega) (by have := FUEL5; omega) (by
       have := pt_nil.snoc (x := x) (by simp only [List.length_nil, Nat.zero_add]; omega) (by simp only [List.length_nil, Nat.zero_add]; omega);simpa using this) h2
      have ih' : ref27_points_i2 p [x] c' = some ((c' ++ pts (p.drop 1) [x]).take 201) := by
       show ref27_points_i2.N FUEL p [x] c' = _
       simpa using ih
      have e : ((decide (x ≤ vl p[0].High [])) && (decide ((c'.length : Int) ≤ 200))) = true := by
       simp only [Bool.and_eq_true, decide_eq_true_eq]; omega
      rw [if_pos e, copyInts_eq (by simp)];simp only [Option.bind_some];rw [app_one (by simp)];simp only [Option.bind_some, List.nil_append];rw [ih'];simp only [Option.bind_some, h2, if_true];rw [w_id (by omega) (by omega)]
     ·have e : ((decide (x ≤ vl p[0].High [])) && (decide ((c'.length : Int) ≤ 200))) = false := by
       have : ¬ (c'.length : Int) ≤ 200 := by omega
       simp [this]
      simp only [e, h2, if_false, Bool.false_eq_true]
    ·intro c'' hc'';split at hc''
     ·cases hc''; rw [List.length_take]; omega
     ·cases hc''
   ·intro x c' hx h2 h3 _;have e : ((decide (x ≤ vl p[0].High [])) && (decide ((c'.length : Int) ≤ 200))) = false := by simp [hx]
    simp only [ref27_points.s1, e, if_false, Bool.false_eq_true]
 rw [e];rfl
end
end Go.Sh
namespace Go.Sh
open Go.Lx
set_option linter.unusedVariables false
set_option linter.unusedSimpArgs false
def shortE (x : api_Affine) : Option Bool := if law27_shortForm x = true then none else some false
def shortA (a : api_Access) : Option Bool := if (a.Subscripts.length : Int) > 9 then some false else a.Subscripts.findSome? shortE
structure Few (p : List api_Loop) (l : List api_Access) : Prop where
 n : p.length ≤ 5
 m : l.length ≤ 10
 f : ∀ x, x ∈ p → x.Low.Coefs.length ≤ 10 ∧ x.High.Coefs.length ≤ 10
 a : ∀ x, x ∈ l → x.Subscripts.length ≤ 9 ∧ ∀ y, y ∈ x.Subscripts → y.Coefs.length ≤ 10
theorem short_le {x : api_Affine} (h : law27_shortForm x = true) : x.Coefs.length ≤ 10 := by
 have : (x.Coefs.length : Int) ≤ 10 := of_decide_eq_true h;omega
theorem few_some (p : List api_Loop) (l : List api_Access) : ∃ r, law27_few p l = some r ∧ (r = true → Few p l) := by
 unfold law27_few;by_cases h0 : ((decide ((p.length : Int) > 5)) || (decide ((l.length : Int) > 10))) = true
 ·exact ⟨false, by rw [if_pos h0], fun h => by cases h⟩
 rw [if_neg h0];simp only [Bool.or_eq_true, decide_eq_true_eq, not_or] at h0;rw [loop_find (step := law27_few.s1 p) p (fun x => if (law27_shortForm x.Low && law27_shortForm x.High) = true then none else some false) (fun r => .inr r) (.inl ()) rfl ?_ ?_ (by omega)]
 ·cases h1 : p.findSome? (fun x => if (law27_shortForm x.Low && law27_shortForm x.High) = true then none else some false) with
  | some r =>
   refine ⟨r, rfl, fun hr => ?_⟩;obtain ⟨x, _, hx⟩ := List.exists_of_findSome?_eq_some h1;split at hx
   ·cases hx
   ·cases hx; cases hr
  | none =>
   simp only [Option.bind_some];rw [loop_find (step := law27_few.s2 l) l shortA (fun r => .inr r) (.inl ()) rfl ?_ ?_ (by omega)]
   ·cases h2 : l.findSome? shortA with
    | some r =>
     refine ⟨r, rfl, fun hr => ?_⟩;subst hr;obtain ⟨a, _, ha⟩ := List.exists_of_findSome?_eq_some h2;unfold shortA at ha;split at ha
     ·cases ha
     ·obtain ⟨x, _, hx⟩ := List.exists_of_findSome?_eq_some ha;unfold shortE at hx;split at hx <;> cases hx
    | none =>
     refine ⟨true, rfl, fun _ => ⟨by omega, by omega, fun x hx => ?_, fun x hx => ?_⟩⟩
     ·have := List.findSome?_eq_none_iff.1 h1 x hx;split at this
      ·rename_i hh
       simp only [Bool.and_eq_true] at hh;exact ⟨short_le hh.1, short_le hh.2⟩
      ·cases this
     ·have := List.findSome?_eq_none_iff.1 h2 x hx;unfold shortA at this;split at this
      ·cases this
      ·refine ⟨by omega, fun y hy => ?_⟩;have := List.findSome?_eq_none_iff.1 this y hy;unfold shortE at this;split at this
       ·exact short_le (by assumption)
       ·cases this
   ·intro i hi;simp only [law27_few.s2, lt_len hi, if_true, at_lt hi, Option.bind_some, shortA];by_cases h9 : (l[i].Subscripts.length : Int) > 9
    ·simp only [h9, if_true]
    ·simp only [h9, if_false];rw [loop_find (step := law27_few.s3 l i) l[i].Subscripts shortE (fun r => .inr r) (.inl ()) rfl ?_ ?_ (by omega)]
     ·cases l[i].Subscripts.findSome? shortE with
      | some r => rfl
      | none => simp only [Option.bind_some]; rw [wn (by omega)]
     ·intro k hk;simp only [law27_few.s3, at_lt hi, Option.bind_some, lt_len hk, if_true, at_lt hk, shortE];by_cases hs : law27_shortForm l[i].Subscripts[k] = true
      ·simp only [hs, not_true, if_false, if_true]; rw [wn (by omega)]
      ·simp only [hs, not_false_eq_true, if_true, if_false, Bool.false_eq_true]
     ·simp only [law27_few.s3, at_lt hi, Option.bind_some, not_lt_len, if_false]
   ·simp only [law27_few.s2, not_lt_len, if_false]
 ·intro i hi;simp only [law27_few.s1, lt_len hi, if_true, at_lt hi, Option.bind_some];by_cases hs : law27_shortForm p[i].Low = true
  ·by_cases ht : law27_shortForm p[i].High = true
   ·simp only [hs, ht, not_true, if_false, if_true, Bool.and_self]; rw [wn (by omega)]
   ·simp only [hs, ht, not_true, if_false, if_true, not_false_eq_true, Bool.and_false, Bool.false_eq_true]
  ·simp only [hs, not_false_eq_true, if_true, if_false, Bool.false_and, Bool.false_eq_true]
 ·simp only [law27_few.s1, not_lt_len, if_false]
theorem copyForm_eq {x : api_Affine} (h : x.Coefs.length ≤ 16777216) : law27_CopyForm x = some x := by
 unfold law27_CopyForm;rw [copyInts_eq h];rfl
theorem copyNest_eq {p : List api_Loop} (hn : p.length < 16777216) (h : ∀ x, x ∈ p → x.Low.Coefs.length ≤ 16777216 ∧ x.High.Coefs.length ≤ 16777216) : law27_CopyNest p = some p := by
 unfold law27_CopyNest;rw [loop_map (step := law27_CopyNest.s1 p) p id (fun i b => (i, b)) (fun b => b) rfl ?_ ?_ (by omega)]
 ·simp
 ·intro i hi b hb;obtain ⟨h1, h2⟩ := h _ (List.getElem_mem hi);simp only [law27_CopyNest.s1, lt_len hi, if_true, at_lt hi, Option.bind_some];change (law27_CopyForm p[i].Low).bind _ = _;rw [copyForm_eq h1];simp only [Option.bind_some];change (law27_CopyForm p[i].High).bind _ = _;rw [copyForm_eq h2];simp only [Option.bind_some];rw [app_one (by omega), wn (by omega)]; rfl
 ·intro b; simp only [law27_CopyNest.s1, not_lt_len, if_false]
def lpErr (l : api_Loop) (k : Int) : Int := if fErr l.Low k = 0 then fErr l.High k else fErr l.Low k
def fbF (i : Nat) (b : Unit) (l : api_Loop) : Sum (Int × Int) Unit := if lpErr l i = 0 then .inr b else .inl ((i : Int), lpErr l i)
def fbL (p : List api_Loop) : Sum (Int × Int) Unit := scanE fbF 0 p ()
theorem scan_fb : ∀ (p : List api_Loop) (i : Nat), scanE fbF i p () = .inr () → ∀ k (h : k < p.length), lpErr p[k] ((i + k : Nat) : Int) = 0
 | [], i, _, k, h => by simp at h
 | l :: p, i, h, k, hk => by
  simp only [scanE, fbF] at h;by_cases e : lpErr l i = 0
  ·simp only [e, if_true] at h;cases k with
   | zero => exact e
   | succ k =>
    have := scan_fb p (i + 1) h k (by simpa using hk);rw [show i + 1 + k = i + (k + 1) by omega] at this;exact this
  ·simp only [e, if_false] at h;cases h
theorem fb_ne : ∀ (p : List api_Loop) (i : Nat) (r : Int × Int), scanE fbF i p () = .inl r → r.2 ≠ 0
 | [], i, r, h => by cases h
 | l :: p, i, r, h => by
  simp only [scanE, fbF] at h;by_cases e : lpErr l i = 0
  ·simp only [e, if_true] at h;exact fb_ne p (i + 1) r h
  ·simp only [e, if_false] at h;cases h;exact e
theorem fb_VN {p : List api_Loop} (h : fbL p = .inr ()) (hl : p.length ≤ 3) : VN p := by
 refine ⟨hl, fun k hk => ?_⟩;have := scan_fb p 0 h k hk;rw [Nat.zero_add] at this;unfold lpErr at this;split at this
 ·exact ⟨by assumption, this⟩
 ·rename_i h1; exact absurd this h1
def badH (h : api_Hull) : Bool := (!(depend_inside h.Low (-1000) 1000)) || (!(depend_inside h.High (-1000) 1000))
def cnR (p : List api_Loop) : Int × Int :=
 if (p.length : Int) = 0 then (0, 17) else if (p.length : Int) > 3 then (0, 8) else match fbL p with
 | .inl r => r
 | .inr _ => if (hls p).any badH = true then (0, 8) else if ((pts p []).length : Int) > 200 then (0, 8) else (0, 0)
theorem firstBad_eq {p : List api_Loop} (hn : p.length < 16777216) (h : ∀ x, x ∈ p → x.Low.Coefs.length < 16777216 ∧ x.High.Coefs.length < 16777216) : depend_firstBad_api_Loop__depend_CheckNest_c1 p = some (match fbL p with | .inl r => r | .inr _ => (0, 0)) := by
 unfold depend_firstBad_api_Loop__depend_CheckNest_c1 fbL;rw [loop_scan (step := depend_firstBad_api_Loop__depend_CheckNest_c1.s1 p) p (fun i (_ : Unit) => i) (fun r => .inr r) (fun _ => .inl ()) fbF (fun _ _ => True) (a := ()) rfl ?_ ?_ trivial (by omega)]
 ·cases scanE fbF 0 p () <;> rfl
 ·intro i hi b _;refine ⟨?_, fun _ _ => trivial⟩;obtain ⟨h1, h2⟩ := h _ (List.getElem_mem hi);simp only [depend_firstBad_api_Loop__depend_CheckNest_c1.s1, lt_len hi, if_true, at_lt hi, Option.bind_some, depend_CheckNest_c1];change (((depend_formErr p[i].Low i).bind fun x1 => (depend_formErr p[i].High i).bind _).bind _) = _;rw [formErr_eq h1, formErr_eq h2];simp only [Option.bind_some, cmpOr2];unfold fbF lpErr;by_cases e1 : fErr p[i].Low i = 0
  ·simp only [e1, if_true];by_cases e2 : fErr p[i].High i = 0
   ·simp only [e2, not_true, if_false, if_true]; rw [wn (by omega)]
   ·simp only [e2, not_false_eq_true, if_true, if_false]
  ·simp only [e1, not_false_eq_true, if_true, if_false]
 ·intro b _; simp only [depend_firstBad_api_Loop__depend_CheckNest_c1.s1, not_lt_len, if_false]
theorem badH_eq {p : List api_Hull} (h : p.length < 16777216) : slices_ContainsFunc_api_Hull__depend_CheckNest_c2 p = some (p.any badH) := by
 unfold slices_ContainsFunc_api_Hull__depend_CheckNest_c2 slices_IndexFunc_api_Hull__depend_CheckNest_c2;obtain ⟨k, hk⟩ := loop_any (step := slices_IndexFunc_api_Hull__depend_CheckNest_c2.s1 p) p badH (fun i => Sum.inr i) (Sum.inl ()) (s := 0) rfl (fun i hi => by
  simp only [slices_IndexFunc_api_Hull__depend_CheckNest_c2.s1, lt_len hi, if_true, at_lt hi, Option.bind_some, depend_CheckNest_c2];by_cases e : badH p[i] = true
  ·have e' := e;unfold badH at e';simp only [e, e', if_true]
  ·have e' := e;unfold badH at e';simp only [e, e', if_false, Bool.false_eq_true]; rw [wn (by omega)]) (by simp only [slices_IndexFunc_api_Hull__depend_CheckNest_c2.s1, not_lt_len, if_false]) (by omega)
 rw [hk];by_cases e : p.any badH = true
 ·simp only [e, if_true, Option.bind_some];have : (k : Int) ≥ 0 := by omega
  simp [this]
 ·simp only [e, if_false, Option.bind_some, Bool.false_eq_true];simp at e ⊢
theorem checkNest_eq {p : List api_Loop} (hn : p.length < 16777216) (h : ∀ x, x ∈ p → x.Low.Coefs.length < 16777216 ∧ x.High.Coefs.length < 16777216) : depend_CheckNest p = some (cnR p) := by
 unfold depend_CheckNest cnR;rw [broken2];simp only [Option.bind_some];by_cases h0 : (p.length : Int) = 0
 ·have : ¬ (p.length : Int) > 0 := by omega
  simp only [h0, this, decide_false, if_true, if_false, Bool.false_eq_true]; rfl
 have h1 : (p.length : Int) > 0 := by omega
 simp only [h0, h1, decide_true, if_true, if_false];by_cases h3 : (p.length : Int) > 3
 ·have : ¬ (p.length : Int) ≤ 3 := by omega
  simp only [h3, this, decide_false, if_true, if_false, Bool.false_eq_true]; rfl
 have h3' : (p.length : Int) ≤ 3 := by omega
 simp only [h3, h3', decide_true, if_true, if_false, not_true];rw [firstBad_eq hn h];cases hf : fbL p with
 | inl r =>
  have := fb_ne p 0 r hf;simp only [Option.bind_some, this, not_false_eq_true, if_true]
 | inr u =>
  have vn := fb_VN hf (by omega);simp only [Option.bind_some, not_true, if_false];rw [hulls_eq vn];simp only [Option.bind_some];rw [badH_eq (by rw [hls_len]; omega)];simp only [Option.bind_some];by_cases hb : (hls p).any badH = true
  ·simp only [hb, if_true]
  simp only [hb, if_false, Bool.false_eq_true];rw [count_eq vn];by_cases hc : ((pts p []).length : Int) > 200
  ·simp only [hc, if_true, Option.bind_some];rw [broken1];rfl
  ·simp only [hc, if_false, Option.bind_some];rw [broken1];rfl
theorem refCheckNest_eq {p : List api_Loop} (hn : p.length < 16777216) (h : ∀ x, x ∈ p → x.Low.Coefs.length < 16777216 ∧ x.High.Coefs.length < 16777216) : ref27_CheckNest p = some (cnR p) := by
 unfold ref27_CheckNest cnR;by_cases h0 : (p.length : Int) = 0
 ·simp only [h0, if_true]
 simp only [h0, if_false];by_cases h3 : (p.length : Int) > 3
 ·simp only [h3, if_true]
 simp only [h3, if_false];rw [loop_scan (step := ref27_CheckNest.s1 p) p (fun i (_ : Unit) => i) (fun r => .inr r) (fun _ => .inl ()) fbF (fun _ _ => True) (a := ()) rfl ?_ ?_ trivial (by omega)]
 ·have hfb : scanE fbF 0 p () = fbL p := rfl;rw [hfb];cases hf : fbL p with
  | inl r => simp only [Option.bind_some]
  | inr u =>
   have vn := fb_VN hf (by omega);simp only [Option.bind_some];rw [refHulls_eq vn];simp only [Option.bind_some];have hlen := hls_len p;rw [loop_find (step := ref27_CheckNest.s2 (hls p)) (hls p) (fun z => if badH z = true then some () else none) (fun _ => .inr (0, 8)) (.inl ()) rfl ?_ ?_ (by omega), findSome_const]
   ·by_cases hb : (hls p).any badH = true
    ·simp only [hb, if_true, Option.bind_some]
    simp only [hb, if_false, Bool.false_eq_true, Option.bind_some];rw [refPoints_eq vn (by omega)];simp only [Option.bind_some];by_cases hc : ((pts p []).length : Int) > 200
    ·rw [if_pos hc, if_pos (by rw [List.length_take]; omega)]
    ·rw [if_neg hc, if_neg (by rw [List.length_take]; omega)]
   ·intro i hi;simp only [ref27_CheckNest.s2, lt_len hi, if_true, at_lt hi, Option.bind_some, within_eq, badH];by_cases e1 : depend_inside (hls p)[i].Low (-1000) 1000 = true
    ·by_cases e2 : depend_inside (hls p)[i].High (-1000) 1000 = true
     ·simp only [e1, e2, not_true, if_false, Bool.not_true, Bool.or_self, Bool.false_eq_true]; rw [wn (by omega)]
     ·have e2' : depend_inside (hls p)[i].High (-1000) 1000 = false := by simpa using e2
      simp [e1, e2']
    ·have e1' : depend_inside (hls p)[i].Low (-1000) 1000 = false := by simpa using e1
     simp [e1']
   ·simp only [ref27_CheckNest.s2, not_lt_len, if_false]
 ·intro i hi b _;refine ⟨?_, fun _ _ => trivial⟩;obtain ⟨h1, h2⟩ := h _ (List.getElem_mem hi);simp only [ref27_CheckNest.s1, lt_len hi, if_true, at_lt hi, Option.bind_some];change ((ref27_AffineErr p[i].Low i).bind fun x6 => if ¬ x6 = 0 then _ else (ref27_AffineErr p[i].High i).bind _) = _;rw [affineErr_eq h1, affineErr_eq h2];simp only [Option.bind_some];unfold fbF lpErr;by_cases e1 : fErr p[i].Low i = 0
  ·simp only [e1, if_true, not_true, if_false];by_cases e2 : fErr p[i].High i = 0
   ·simp only [e2, not_true, if_false, if_true]; rw [wn (by omega)]
   ·simp only [e2, not_false_eq_true, if_true, if_false]
  ·simp only [e1, not_false_eq_true, if_true, if_false]
 ·intro b _; simp only [ref27_CheckNest.s1, not_lt_len, if_false]
theorem cnR_ok {p : List api_Loop} (h : (cnR p).2 = 0) : VN p ∧ 0 < p.length ∧ (pts p []).length ≤ 200 := by
 unfold cnR at h;split at h
 ·cases h
 split at h
 ·cases h
 split at h
 ·rename_i r hf
  exact absurd h (fb_ne p 0 r hf)
 ·rename_i u hf
  refine ⟨fb_VN hf (by omega), by omega, ?_⟩;split at h
  ·cases h
  split at h
  ·cases h
  ·omega
theorem lists_eq {p q : List (List Int)} (hp : p.length < 16777216) (hq : q.length < 16777216) (h1 : ∀ x, x ∈ p → x.length < 16777216) (h2 : ∀ x, x ∈ q → x.length < 16777216) : base_Lists p q = some (p == q) := by
 unfold base_Lists;by_cases hl : (p.length : Int) = (q.length : Int)
 ·have hz : (p.zip q).length = p.length := by simp; omega
  rw [loop_fold (step := base_Lists.s1 p q) (p.zip q) (fun i (b : Bool) => (b, i)) (fun b => b) (fun b t => b && (t.1 == t.2)) (fun _ _ => True) (a := true) (by simp [hl]) ?_ ?_ trivial (by omega)]
  ·simp only [Option.bind_some]
   congr 1
   have key : ∀ (p q : List (List Int)) (b : Bool), p.length = q.length → (p.zip q).foldl (fun b t => b && (t.1 == t.2)) b = (b && (p == q)) := by
    intro p
    induction p with
    | nil => intro q b h; cases q with | nil => simp | cons _ _ => simp at h
    | cons x p ih =>
     intro q b h;cases q with
     | nil => simp at h
     | cons y q =>
      rw [List.zip_cons_cons, List.foldl_cons, ih q _ (by simpa using h)];simp only [List.cons_beq_cons, Bool.and_assoc]
   rw [key p q true (by omega)];simp
  ·intro i hi b _;refine ⟨?_, trivial⟩;rw [hz] at hi;have hi2 : i < q.length := by omega
   simp only [base_Lists.s1, lt_len hi, if_true];cases b with
   | true =>
    simp only [if_true, at_lt hi, at_lt hi2, Option.bind_some, List.getElem_zip, Bool.true_and];rw [ints_eq (h1 _ (List.getElem_mem hi)) (h2 _ (List.getElem_mem hi2)), wn (by omega)];rfl
   | false =>
    simp only [Bool.false_eq_true, if_false, Bool.false_and];rw [wn (by omega)]
  ·intro b _; rw [hz]; simp only [base_Lists.s1, not_lt_len, if_false]
 ·have hne : (p == q) = false := by
   rw [Bool.eq_false_iff];intro h;have := beq_iff_eq.1 h;exact hl (by rw [this])
  have hb : ((p.length : Int) == (q.length : Int)) = false := by simpa using hl
  rw [hb, hne];rw [loop_fold (step := base_Lists.s1 p q) p (fun i (b : Bool) => (b, i)) (fun b => b) (fun b t => b) (fun _ b => b = false) (a := false) rfl ?_ ?_ rfl (by omega)]
  ·simp only [Option.bind_some]
   congr 1
   induction p with
   | nil => rfl
   | cons _ p ih =>
    clear ih;have : ∀ (l : List (List Int)), l.foldl (fun (b : Bool) (_ : List Int) => b) false = false := by intro l; induction l with | nil => rfl | cons _ l ih => exact ih
    exact this _
  ·intro i hi b hb;subst hb;refine ⟨?_, rfl⟩;simp only [base_Lists.s1, lt_len hi, if_true, Bool.false_eq_true, if_false];rw [wn (by omega)]
  ·intro b _; simp only [base_Lists.s1, not_lt_len, if_false]
theorem lists_self {p : List (List Int)} (hp : p.length < 16777216) (h1 : ∀ x, x ∈ p → x.length < 16777216) : base_Lists p p = some true := by
 rw [lists_eq hp hp h1 h1]; simp
theorem pts_len : ∀ (ls : List api_Loop) (pt x : List Int), x ∈ pts ls pt → x.length = pt.length + ls.length
 | [], pt, x, h => by simp [pts] at h; subst h; simp
 | l :: ls, pt, x, h => by
  simp only [pts] at h;obtain ⟨z, _, hx⟩ := List.mem_flatMap.1 h;have := pts_len ls _ x hx;rw [this];simp;omega
theorem nestErr_eq {p : List api_Loop} (hn : p.length < 16777216) (h : ∀ x, x ∈ p → x.Low.Coefs.length < 16777216 ∧ x.High.Coefs.length < 16777216) : depend_nestErr p = some (cnR p).2 := by
 unfold depend_nestErr;rw [checkNest_eq hn h];rfl
end Go.Sh
namespace Go.Sh
open Go.Lx
set_option linter.unusedVariables false
set_option linter.unusedSimpArgs false
theorem copyBody_eq {p : List api_Access} (hn : p.length < 16777216) (h : ∀ x, x ∈ p → x.Subscripts.length < 16777216 ∧ ∀ y, y ∈ x.Subscripts → y.Coefs.length ≤ 16777216) : law27_CopyBody p = some p := by
 unfold law27_CopyBody;rw [loop_map (step := law27_CopyBody.s1 p) p id (fun i b => (i, b)) (fun b => b) rfl ?_ ?_ (by omega)]
 ·simp
 ·intro i hi b hb;obtain ⟨h1, h2⟩ := h _ (List.getElem_mem hi);simp only [law27_CopyBody.s1, lt_len hi, if_true, at_lt hi, Option.bind_some];rw [loop_map (step := law27_CopyBody.s2 p ((i : Int), b)) p[i].Subscripts id (fun i b => (i, b)) (fun b => b) rfl ?_ ?_ (by omega)]
  ·simp only [Option.bind_some, List.map_id];rw [app_one (by omega), wn (by omega)];rfl
  ·intro k hk c hc;simp only [law27_CopyBody.s2, at_lt hi, Option.bind_some, lt_len hk, if_true, at_lt hk];rw [copyForm_eq (h2 _ (List.getElem_mem hk))];simp only [Option.bind_some];rw [app_one (by omega), wn (by omega)];rfl
  ·intro c; simp only [law27_CopyBody.s2, at_lt hi, Option.bind_some, not_lt_len, if_false]
 ·intro b; simp only [law27_CopyBody.s1, not_lt_len, if_false]
def subErr (l : List api_Affine) (k : Int) : Int := match l.findSome? (fun x => if fErr x k = 0 then none else some (fErr x k)) with | some c => c | none => 0
def accErr (a : api_Access) (k : Int) : Int := if depend_inside a.Array 0 9 = true then (if depend_inside (a.Subscripts.length : Int) 1 7 = true then subErr a.Subscripts k else 32) else 2
def sbF (k : Int) (i : Nat) (b : Unit) (x : api_Affine) : Sum (Int × Int) Unit := if fErr x k = 0 then .inr b else .inl ((i : Int), fErr x k)
theorem sb_sub (k : Int) : ∀ (l : List api_Affine) (i : Nat), (match scanE (sbF k) i l () with | .inl r => r.2 | .inr _ => 0) = subErr l k
 | [], i => rfl
 | x :: l, i => by
  simp only [scanE, sbF, subErr, List.findSome?_cons];by_cases e : fErr x k = 0
  ·simp only [e, if_true];exact sb_sub k l (i + 1)
  ·simp only [e, if_false]
def baF (k : Int) (i : Nat) (b : Unit) (x : api_Access) : Sum (Int × Int) Unit := if accErr x k = 0 then .inr b else .inl ((i : Int), accErr x k)
def cbR (p : List api_Loop) (l : List api_Access) : Int × Int :=
 if ¬ (cnR p).2 = 0 then (0, (cnR p).2) else if (l.length : Int) > 8 then (0, 8) else match scanE (baF p.length) 0 l () with | .inl r => r | .inr _ => (0, 0)
structure Sm (p : List api_Loop) (l : List api_Access) : Prop where
 n : p.length < 16777216
 m : l.length < 16777216
 f : ∀ x, x ∈ p → x.Low.Coefs.length < 16777216 ∧ x.High.Coefs.length < 16777216
 a : ∀ x, x ∈ l → x.Subscripts.length < 16777216 ∧ ∀ y, y ∈ x.Subscripts → y.Coefs.length < 16777216
theorem accessErr_eq {a : api_Access} (h : a.Subscripts.length < 16777216 ∧ ∀ y, y ∈ a.Subscripts → y.Coefs.length < 16777216) (k : Int) : depend_accessErr a k = some (accErr a k) := by
 obtain ⟨h1, h2⟩ := h;unfold depend_accessErr accErr;rw [broken2];simp only [Option.bind_some];by_cases e1 : depend_inside a.Array 0 9 = true
 ·by_cases e2 : depend_inside (a.Subscripts.length : Int) 1 7 = true
  ·simp only [e1, e2, if_true];unfold depend_firstBad_api_Affine__depend_accessErr_c1;rw [loop_scan (step := depend_firstBad_api_Affine__depend_accessErr_c1.s1 a.Subscripts k) a.Subscripts (fun i (_ : Unit) => i) (fun r => .inr r) (fun _ => .inl ()) (sbF k) (fun _ _ => True) (a := ()) rfl ?_ ?_ trivial (by omega)]
   ·rw [← sb_sub k a.Subscripts 0];cases scanE (sbF k) 0 a.Subscripts () <;> rfl
   ·intro i hi b _;refine ⟨?_, fun _ _ => trivial⟩;simp only [depend_firstBad_api_Affine__depend_accessErr_c1.s1, lt_len hi, if_true, at_lt hi, Option.bind_some, depend_accessErr_c1];rw [formErr_eq (h2 _ (List.getElem_mem hi))];simp only [Option.bind_some, sbF];by_cases e : fErr a.Subscripts[i] k = 0
    ·simp only [e, not_true, if_false, if_true]; rw [wn (by omega)]
    ·simp only [e, not_false_eq_true, if_true, if_false]
   ·intro b _; simp only [depend_firstBad_api_Affine__depend_accessErr_c1.s1, not_lt_len, if_false]
  ·simp only [e1, e2, if_true, if_false, Bool.false_eq_true]; rfl
 ·simp only [e1, if_false, Bool.false_eq_true]; rfl
theorem checkBody_eq {p : List api_Loop} {l : List api_Access} (S : Sm p l) : depend_CheckBody p l = some (cbR p l) := by
 unfold depend_CheckBody cbR;rw [nestErr_eq S.n S.f];simp only [Option.bind_some];rw [broken1];simp only [Option.bind_some, cmpOr2];by_cases e1 : (cnR p).2 = 0
 ·simp only [e1, if_true, not_true, if_false];by_cases e2 : (l.length : Int) > 8
  ·have : ¬ (l.length : Int) ≤ 8 := by omega
   simp only [e2, this, decide_false, Bool.false_eq_true, if_false, if_true]; rfl
  ·have : (l.length : Int) ≤ 8 := by omega
   simp only [e2, this, decide_true, if_false, if_true, not_true];unfold depend_firstBad_api_Access__depend_CheckBody_c1;rw [loop_scan (step := depend_firstBad_api_Access__depend_CheckBody_c1.s1 l p) l (fun i (_ : Unit) => i) (fun r => .inr r) (fun _ => .inl ()) (baF p.length) (fun _ _ => True) (a := ()) rfl ?_ ?_ trivial (by omega)]
   ·cases scanE (baF p.length) 0 l () <;> rfl
   ·intro i hi b _;refine ⟨?_, fun _ _ => trivial⟩;simp only [depend_firstBad_api_Access__depend_CheckBody_c1.s1, lt_len hi, if_true, at_lt hi, Option.bind_some, depend_CheckBody_c1];rw [accessErr_eq (S.a _ (List.getElem_mem hi))];simp only [Option.bind_some, baF];by_cases e : accErr l[i] p.length = 0
    ·simp only [e, not_true, if_false, if_true]; rw [wn (by omega)]
    ·simp only [e, not_false_eq_true, if_true, if_false]
   ·intro b _; simp only [depend_firstBad_api_Access__depend_CheckBody_c1.s1, not_lt_len, if_false]
 ·simp only [e1, if_false, not_false_eq_true, if_true]
theorem refCheckBody_eq {p : List api_Loop} {l : List api_Access} (S : Sm p l) : ref27_CheckBody p l = some (cbR p l) := by
 unfold ref27_CheckBody ref27_NestErr cbR;rw [refCheckNest_eq S.n S.f];simp only [Option.bind_some];by_cases e1 : (cnR p).2 = 0
 ·simp only [e1, not_true, if_false];by_cases e2 : (l.length : Int) > 8
  ·simp only [e2, if_true]
  ·simp only [e2, if_false];rw [loop_scan (step := ref27_CheckBody.s1 p l) l (fun i (_ : Unit) => i) (fun r => .inr r) (fun _ => .inl ()) (baF p.length) (fun _ _ => True) (a := ()) rfl ?_ ?_ trivial (by omega)]
   ·cases scanE (baF p.length) 0 l () <;> rfl
   ·intro i hi b _;refine ⟨?_, fun _ _ => trivial⟩;obtain ⟨h1, h2⟩ := S.a _ (List.getElem_mem hi);simp only [ref27_CheckBody.s1, lt_len hi, if_true, at_lt hi, Option.bind_some, within_eq, baF, accErr];by_cases e3 : depend_inside l[i].Array 0 9 = true
    ·simp only [e3, not_true, if_false, if_true];by_cases e4 : depend_inside (l[i].Subscripts.length : Int) 1 7 = true
     ·simp only [e4, not_true, if_false, if_true];rw [loop_find (step := ref27_CheckBody.s2 p l i) l[i].Subscripts (fun x => if fErr x p.length = 0 then none else some (fErr x p.length)) (fun c => .inr ((i : Int), c)) (.inl ()) rfl ?_ ?_ (by omega)]
      ·unfold subErr;cases hq : l[i].Subscripts.findSome? (fun x => if fErr x p.length = 0 then none else some (fErr x p.length)) with
       | none => simp only [Option.bind_some, if_true]; rw [wn (by omega)]
       | some c =>
        have hc : c ≠ 0 := by
         obtain ⟨x, _, hx⟩ := List.exists_of_findSome?_eq_some hq;split at hx
         ·cases hx
         ·cases hx; assumption
        simp only [Option.bind_some, hc, if_false]
      ·intro k hk;simp only [ref27_CheckBody.s2, at_lt hi, Option.bind_some, lt_len hk, if_true, at_lt hk];rw [affineErr_eq (h2 _ (List.getElem_mem hk))];simp only [Option.bind_some];by_cases e : fErr l[i].Subscripts[k] p.length = 0
       ·simp only [e, not_true, if_false, if_true]; rw [wn (by omega)]
       ·simp only [e, not_false_eq_true, if_true, if_false]
      ·simp only [ref27_CheckBody.s2, at_lt hi, Option.bind_some, not_lt_len, if_false]
     ·simp only [e4, not_false_eq_true, if_true, if_false, Bool.false_eq_true];rfl
    ·simp only [e3, not_false_eq_true, if_true, if_false, Bool.false_eq_true];rfl
   ·intro b _; simp only [ref27_CheckBody.s1, not_lt_len, if_false]
 ·simp only [e1, not_false_eq_true, if_true]
theorem bodyErr_eq {p : List api_Loop} {l : List api_Access} (S : Sm p l) : ref27_BodyErr p l = some (cbR p l).2 := by
 unfold ref27_BodyErr;rw [refCheckBody_eq S];rfl
theorem acc_ok {a : api_Access} {k : Int} (h : accErr a k = 0) : a.Subscripts.length ≤ 7 ∧ ∀ y, y ∈ a.Subscripts → fErr y k = 0 := by
 unfold accErr at h;split at h
 ·split at h
  ·rename_i h1 h2
   have h3 : (a.Subscripts.length : Int) ≤ 7 := by
    simp only [depend_inside, Bool.and_eq_true, decide_eq_true_eq] at h2;omega
   refine ⟨by omega, fun y hy => ?_⟩;unfold subErr at h;split at h
   ·rename_i c hq
    obtain ⟨x, _, hx⟩ := List.exists_of_findSome?_eq_some hq;split at hx
    ·cases hx
    ·rename_i hne; cases hx; exact absurd h hne
   ·rename_i hq
    have := List.findSome?_eq_none_iff.1 hq y hy;split at this
    ·assumption
    ·cases this
  ·cases h
 ·cases h
theorem inside_iff {z a b : Int} : depend_inside z a b = true ↔ a ≤ z ∧ z ≤ b := by
 unfold depend_inside;simp only [Bool.and_eq_true, decide_eq_true_eq]
def el (a : api_Access) (q : List Int) : List Int := a.Subscripts.map fun x => vl x q
theorem element_eq {a : api_Access} {q : List Int} (h : ∀ y, y ∈ a.Subscripts → y.Coefs.length ≤ q.length) (hq : q.length < 16777216) (hn : a.Subscripts.length < 16777216) : depend_element a q = some (el a q) := by
 unfold depend_element;rw [loop_map (step := depend_element.s1 a q) a.Subscripts (fun x => vl x q) (fun i b => (i, b)) (fun b => b) rfl ?_ ?_ (by omega)]
 ·rfl
 ·intro i hi b hb;simp only [depend_element.s1, lt_len hi, if_true, at_lt hi, Option.bind_some];rw [value_eq (h _ (List.getElem_mem hi)) hq];simp only [Option.bind_some];rw [app_one (by omega), wn (by omega)];rfl
 ·intro b; simp only [depend_element.s1, not_lt_len, if_false]
theorem refElement_eq {a : api_Access} {q : List Int} (h : ∀ y, y ∈ a.Subscripts → y.Coefs.length ≤ q.length) (hq : q.length < 16777216) (hn : a.Subscripts.length < 16777216) : ref27_Element a q = some (el a q) := by
 unfold ref27_Element;rw [loop_map (step := ref27_Element.s1 a q) a.Subscripts (fun x => vl x q) (fun i b => (i, b)) (fun b => b) rfl ?_ ?_ (by omega)]
 ·rfl
 ·intro i hi b hb;simp only [ref27_Element.s1, lt_len hi, if_true, at_lt hi, Option.bind_some];rw [refValue_eq (h _ (List.getElem_mem hi)) hq];simp only [Option.bind_some];rw [app_one (by omega), wn (by omega)];rfl
 ·intro b; simp only [ref27_Element.s1, not_lt_len, if_false]
end Go.Sh
namespace Go.Sh
open Go.Lx
set_option linter.unusedVariables false
set_option linter.unusedSimpArgs false
set_option linter.deprecated false
def ltL : List Int → List Int → Bool
 | [], [] => false
 | [], _ :: _ => true
 | _ :: _, [] => false
 | x :: a, y :: b => if x < y then true else if x = y then ltL a b else false
theorem ltL_irrefl : ∀ a, ltL a a = false
 | [] => rfl
 | x :: a => by simp [ltL, ltL_irrefl a]
theorem ltL_trans : ∀ a b c, ltL a b = true → ltL b c = true → ltL a c = true
 | [], [], _, h, _ => by cases h
 | [], _ :: _, [], _, h => by cases h
 | [], _ :: _, _ :: _, _, _ => rfl
 | _ :: _, [], _, h, _ => by cases h
 | _ :: _, _ :: _, [], _, h => by cases h
 | x :: a, y :: b, z :: c, h, k => by
  simp only [ltL] at h k ⊢;by_cases h1 : x < y
  ·by_cases k1 : y < z
   ·rw [if_pos (by omega)]
   ·rw [if_neg k1] at k;by_cases k2 : y = z
    ·rw [if_pos (by omega)]
    ·rw [if_neg k2] at k; cases k
  ·rw [if_neg h1] at h;by_cases h2 : x = y
   ·rw [if_pos h2] at h;by_cases k1 : y < z
    ·rw [if_pos (by omega)]
    ·rw [if_neg k1] at k;by_cases k2 : y = z
     ·rw [if_pos k2] at k;rw [if_neg (by omega), if_pos (by omega)];exact ltL_trans a b c h k
     ·rw [if_neg k2] at k; cases k
   ·rw [if_neg h2] at h; cases h
theorem ltL_tri : ∀ a b, ltL a b = false → a ≠ b → ltL b a = true
 | [], [], _, h => absurd rfl h
 | [], _ :: _, h, _ => by cases h
 | _ :: _, [], _, _ => rfl
 | x :: a, y :: b, h, k => by
  simp only [ltL] at h ⊢;by_cases h1 : x < y
  ·rw [if_pos h1] at h; cases h
  ·rw [if_neg h1] at h;by_cases h2 : x = y
   ·rw [if_pos h2] at h;rw [if_neg (by omega), if_pos h2.symm];exact ltL_tri a b h (fun e => k (by rw [h2, e]))
   ·rw [if_pos (by omega)]
theorem beforeN_eq : ∀ (n : Nat) (a b : List Int), a.length < n → a.length < 16777216 → b.length < 16777216 → base_Before.N n a b = some (ltL a b)
 | 0, a, b, h, _, _ => absurd h (Nat.not_lt_zero _)
 | n + 1, a, b, h, ha, hb => by
  show base_Before.F (base_Before.N n) a b = _
  unfold base_Before.F
  match a, b with
  | [], [] => rfl
  | [], y :: b => simp [ltL]
  | x :: a, [] => simp [ltL]; omega
  | x :: a, y :: b =>
   have e0 : ¬ ((((x :: a).length : Int) == 0) || (((y :: b).length : Int) == 0)) = true := by simp; omega
   have c1 : cut (x :: a) 1 ((x :: a).length : Int) = some a := by unfold cut; rw [if_pos (by simp; omega)]; simp
   have c2 : cut (y :: b) 1 ((y :: b).length : Int) = some b := by unfold cut; rw [if_pos (by simp; omega)]; simp
   have a1 : at_ (x :: a) 0 = some x := rfl;have a2 : at_ (y :: b) 0 = some y := rfl;rw [if_neg e0];simp only [a1, a2, Option.bind_some, ltL];by_cases h1 : x < y
   ·simp only [h1, if_true]
   ·simp only [h1, if_false];by_cases h2 : x = y
    ·simp only [h2, if_true];subst h2;rw [c1, c2];simp only [Option.bind_some];rw [beforeN_eq n a b (by simp at h; omega) (by simp at ha; omega) (by simp at hb; omega)];rfl
    ·simp only [h2, if_false]
theorem before_lt {a b : List Int} (ha : a.length < 16777216) (hb : b.length < 16777216) : base_Before a b = some (ltL a b) := by
 show base_Before.N FUEL a b = _
 exact beforeN_eq _ _ _ (by unfold FUEL; omega) ha hb
theorem cmpI_eq (x y : Int) : cmp_Compare_int x y = if x < y then -1 else if x > y then 1 else 0 := by
 unfold cmp_Compare_int cmp_isNaN_int;simp only [bne_self_eq_false, Bool.false_eq_true, if_false]
def cmpL (a b : List Int) : Int := if ltL a b = true then -1 else if a = b then 0 else 1
def cmF (b : List Int) (i : Nat) (_ : Unit) (x : Int) : Sum Int Unit := if b.length ≤ i then .inl 1 else if x = b.getD i 0 then .inr () else .inl (if x < b.getD i 0 then -1 else 1)
theorem scan_cm (b : List Int) : ∀ (a : List Int) (i : Nat), (match scanE (cmF b) i a () with | .inl r => r | .inr _ => if i + a.length < b.length then -1 else 0) = cmpL a (b.drop i)
 | [], i => by
  simp only [scanE, List.length_nil, Nat.add_zero];by_cases h : i < b.length
  ·rw [if_pos h, List.drop_eq_getElem_cons h]; rfl
  ·rw [if_neg h, List.drop_of_length_le (by omega)]; rfl
 | x :: a, i => by
  simp only [scanE, cmF];by_cases h : b.length ≤ i
  ·rw [List.drop_of_length_le h];simp only [h, if_true];simp [cmpL, ltL]
  ·have hi : i < b.length := by omega
   have e1 : b.getD i 0 = b[i] := by simp [List.getD, hi]
   have := scan_cm b a (i + 1);rw [List.drop_eq_getElem_cons hi];simp only [h, if_false, e1];generalize b.drop (i + 1) = d at this ⊢;generalize b[i] = y;by_cases h2 : x = y
   ·simp only [h2, if_true];rw [show i + (y :: a).length = i + 1 + a.length by simp; omega, this];simp [cmpL, ltL]
   ·simp only [h2, if_false];by_cases h3 : x < y
    ·simp [cmpL, ltL, h3]
    ·simp [cmpL, ltL, h3, h2]
theorem compare_eq {a b : List Int} (ha : a.length < 16777216) : slices_Compare_int a b = some (cmpL a b) := by
 unfold slices_Compare_int;rw [loop_scan (step := slices_Compare_int.s1 a b) a (fun i (_ : Unit) => i) (fun r => .inr r) (fun _ => .inl ()) (cmF b) (fun _ _ => True) (a := ()) rfl ?_ ?_ trivial (by omega)]
 ·have := scan_cm b a 0;simp only [List.drop_zero, Nat.zero_add] at this;rw [← this];cases scanE (cmF b) 0 a () with
  | inl r => rfl
  | inr u =>
   simp only [Option.bind_some];by_cases h : a.length < b.length
   ·rw [if_pos h, if_pos (by omega)]
   ·rw [if_neg h, if_neg (by omega)]
 ·intro i hi u _;refine ⟨?_, fun _ _ => trivial⟩;simp only [slices_Compare_int.s1, lt_len hi, if_true, at_lt hi, Option.bind_some, cmF];by_cases h : b.length ≤ i
  ·have : (i : Int) ≥ (b.length : Int) := by omega
   simp only [h, this, if_true]
  ·have h' : ¬ (i : Int) ≥ (b.length : Int) := by omega
   have hi2 : i < b.length := by omega
   have e1 : b.getD i 0 = b[i] := by simp [List.getD, hi2]
   simp only [h, h', if_false, at_lt hi2, Option.bind_some, cmpI_eq, e1];by_cases h2 : a[i] = b[i]
   ·have h3 : ¬ a[i] < b[i] := by omega
    have h4 : ¬ a[i] > b[i] := by omega
    simp only [h2, if_true];simp only [Int.lt_irrefl, gt_iff_lt, if_false, not_true];rw [wn (by omega)]
   ·by_cases h3 : a[i] < b[i]
    ·simp [h2, h3]
    ·have h4 : a[i] > b[i] := by omega
     simp [h2, h3, h4]
 ·intro u _; simp only [slices_Compare_int.s1, not_lt_len, if_false]
section
variable {α : Type} (key : α → List Int)
def bd (s : List Int) : List α → Nat
 | [] => 0
 | y :: l => if ltL (key y) s = true then bd s l + 1 else 0
def insL (x : α) : List α → List α
 | [] => [x]
 | y :: l => if ltL (key y) (key x) = true then y :: insL x l else if key y = key x then y :: l else x :: y :: l
def Srt (l : List α) : Prop := l.Pairwise fun a b => ltL (key a) (key b) = true
variable {key}
theorem bd_le (s : List Int) : ∀ l : List α, bd key s l ≤ l.length
 | [] => Nat.le_refl _
 | y :: l => by
  unfold bd;split
  ·have := bd_le s l; simp; omega
  ·omega
theorem bd_lt (s : List Int) : ∀ (l : List α) (i : Nat) (h : i < l.length), i < bd key s l → ltL (key l[i]) s = true
 | [], i, h, _ => by simp at h
 | y :: l, i, h, hb => by
  unfold bd at hb;split at hb
  ·cases i with
   | zero => assumption
   | succ i => exact bd_lt s l i (by simpa using h) (by omega)
  ·omega
theorem bd_at (s : List Int) : ∀ (l : List α) (h : bd key s l < l.length), ltL (key l[bd key s l]) s = false
 | [], h => by simp at h
 | y :: l, h => by
  by_cases e : ltL (key y) s = true
  ·have eb : bd key s (y :: l) = bd key s l + 1 := by simp [bd, e]
   have h' : bd key s l < l.length := by rw [eb] at h; simp at h; exact h
   have := bd_at s l h';simpa [eb] using this
  ·have eb : bd key s (y :: l) = 0 := by simp [bd, e]
   simp only [eb, List.getElem_cons_zero];simpa using e
theorem bd_ge {s : List Int} : ∀ {l : List α}, Srt key l → ∀ (i : Nat) (h : i < l.length), bd key s l ≤ i → ltL (key l[i]) s = false := by
 intro l hl i h hb;have hb' : bd key s l < l.length := by omega
 have h0 := bd_at s l hb';by_cases e : bd key s l = i
 ·subst e; exact h0
 ·have := List.pairwise_iff_getElem.1 hl _ _ hb' h (by omega);rw [Bool.eq_false_iff];intro h1;rw [ltL_trans _ _ _ this h1] at h0;cases h0
theorem insL_eq (x : α) : ∀ l : List α, insL key x l = if (l[bd key (key x) l]?).map key = some (key x) then l else l.take (bd key (key x) l) ++ [x] ++ l.drop (bd key (key x) l)
 | [] => by simp [insL, bd]
 | y :: l => by
  unfold insL bd;by_cases e : ltL (key y) (key x) = true
  ·simp only [e, if_true, List.getElem?_cons_succ, List.take_succ_cons, List.drop_succ_cons];rw [insL_eq x l];split <;> simp
  ·simp only [e, if_false, Bool.false_eq_true, List.getElem?_cons_zero, Option.map_some, Option.some.injEq];by_cases e2 : key y = key x
   ·simp [e2]
   ·simp [e2]
theorem mem_insL {x z : α} : ∀ {l : List α}, z ∈ insL key x l → z = x ∨ z ∈ l
 | [], h => by simp [insL] at h; exact .inl h
 | y :: l, h => by
  unfold insL at h;split at h
  ·rcases List.mem_cons.1 h with h | h
   ·exact .inr (by simp [h])
   ·rcases mem_insL h with h | h
    ·exact .inl h
    ·exact .inr (List.mem_cons_of_mem _ h)
  ·split at h
   ·exact .inr h
   ·rcases List.mem_cons.1 h with h | h
    ·exact .inl h
    ·exact .inr h
theorem insL_len (x : α) : ∀ l : List α, (insL key x l).length ≤ l.length + 1
 | [] => by simp [insL]
 | y :: l => by
  unfold insL;have := insL_len x l;split
  ·simp; omega
  ·split <;> simp
theorem insL_srt (x : α) : ∀ {l : List α}, Srt key l → Srt key (insL key x l)
 | [], _ => by simp [insL, Srt]
 | y :: l, h => by
  obtain ⟨h1, h2⟩ := List.pairwise_cons.1 h;unfold insL;split
  ·rename_i e
   refine List.pairwise_cons.2 ⟨fun z hz => ?_, insL_srt x h2⟩;rcases mem_insL hz with rfl | hz
   ·exact e
   ·exact h1 z hz
  ·rename_i e
   split
   ·exact h
   ·rename_i e2
    have e3 := ltL_tri _ _ (by simpa using e) e2;refine List.pairwise_cons.2 ⟨fun z hz => ?_, h⟩;rcases List.mem_cons.1 hz with rfl | hz
    ·exact e3
    ·exact ltL_trans _ _ _ e3 (h1 z hz)
theorem bsearch {step : Int × Int → Option (Sum (Int × Int) Int)} {l : List α} {s : List Int} (hl : Srt key l) (hn : l.length < 16777216)
  (h : ∀ (i j k : Nat) (hk : k < l.length), i < j → j ≤ l.length → i + j = 2 * k ∨ i + j = 2 * k + 1 → step ((i : Int), (j : Int)) = some (.inl (if ltL (key l[k]) s = true then (((k + 1 : Nat) : Int), (j : Int)) else ((i : Int), (k : Int)))))
  (hend : ∀ i : Nat, step ((i : Int), (i : Int)) = some (.inr (i : Int))) : loopO step (0, (l.length : Int)) = some ((bd key s l : Nat) : Int) := by
 have hb := bd_le (key := key) s l;obtain ⟨r, h1, h2⟩ := loopO_inv (step := step) (fun x => ∃ i j : Nat, x = ((i : Int), (j : Int)) ∧ i ≤ bd key s l ∧ bd key s l ≤ j ∧ j ≤ l.length) (fun x => (x.2 - x.1).toNat) (fun r => r = ((bd key s l : Nat) : Int))
  (fun x hx => by
   obtain ⟨i, j, rfl, h1, h2, h3⟩ := hx;by_cases e : i = j
   ·subst e;exact .inr ⟨_, hend i, by rw [show i = bd key s l by omega]⟩
   ·have hk : (i + j) / 2 < l.length := by omega
    refine .inl ⟨_, h i j ((i + j) / 2) hk (by omega) h3 (by omega), ?_, ?_⟩
    ·by_cases e2 : ltL (key l[(i + j) / 2]) s = true
     ·rw [if_pos e2];refine ⟨(i + j) / 2 + 1, j, rfl, ?_, h2, h3⟩;have : ¬ bd key s l ≤ (i + j) / 2 := fun hc => by rw [bd_ge hl _ hk hc] at e2; cases e2
      omega
     ·rw [if_neg e2];refine ⟨i, (i + j) / 2, rfl, h1, ?_, by omega⟩;have : ¬ (i + j) / 2 < bd key s l := fun hc => e2 (bd_lt s l _ hk hc)
      omega
    ·split <;> simp <;> omega)
  (x := (0, (l.length : Int))) ⟨0, l.length, rfl, by omega, hb, Nat.le_refl _⟩ (by simp; unfold FUEL; omega)
 rw [h1, h2]
end
end Go.Sh
namespace Go.Sh
open Go.Lx
set_option linter.unusedVariables false
set_option linter.unusedSimpArgs false
set_option linter.deprecated false
theorem shr_half {n : Nat} (h : n < 1099511627776) : shr .u64 (IntKind.u64.wrap (w (n : Int))) 1 = some ((n / 2 : Nat) : Int) := by
 have e1 : w (n : Int) = n := w_id (by omega) (by omega);have e2 : IntKind.u64.wrap (n : Int) = n := by
  have : (2 : Int) ^ IntKind.u64.bits = 18446744073709551616 := rfl;have hs : IntKind.u64.signed = false := rfl;simp only [IntKind.wrap, this, hs, Bool.false_and, Bool.false_eq_true, if_false];omega
 unfold shr;rw [e1, e2, if_neg (by decide)];have : (2 : Int) ^ (min (1 : Int).toNat IntKind.u64.bits) = 2 := rfl;rw [this, Int.fdiv_eq_ediv_of_nonneg _ (by decide)]
 congr 1
def df (s q : List Int) : List Int := (s.zip q).map fun t => w (t.2 - t.1)
def sgn (x : Int) : Int := if x < 0 then -1 else if x > 0 then 1 else 0
def sg (d : List Int) : List Int := d.map sgn
theorem df_len {s q : List Int} (h : s.length = q.length) : (df s q).length = s.length := by simp [df, h]
theorem difference_eq {s q : List Int} (h : s.length = q.length) (hn : s.length < 16777216) : depend_difference q s = some (df s q) := by
 unfold depend_difference;have hz : (s.zip q).length = s.length := by simp [h]
 rw [loop_map (step := depend_difference.s1 q s) (s.zip q) (fun t => w (t.2 - t.1)) (fun i b => (i, b)) (fun b => b) rfl ?_ ?_ (by omega)]
 ·rfl
 ·intro i hi b hb;rw [hz] at hi;have hi2 : i < q.length := by omega
  simp only [depend_difference.s1, lt_len hi2, if_true, at_lt hi, at_lt hi2, Option.bind_some, List.getElem_zip];rw [app_one (by omega), wn (by omega)];rfl
 ·intro b; rw [hz, h]; simp only [depend_difference.s1, not_lt_len, if_false]
theorem distance_eq {s q : List Int} (h : s.length = q.length) (hn : s.length < 16777216) : ref27_Distance s q = some (df s q) := by
 unfold ref27_Distance;have hz : (s.zip q).length = s.length := by simp [h]
 rw [loop_map (step := ref27_Distance.s1 s q) (s.zip q) (fun t => w (t.2 - t.1)) (fun i b => (i, b)) (fun b => b) rfl ?_ ?_ (by omega)]
 ·rfl
 ·intro i hi b hb;rw [hz] at hi;have hi2 : i < q.length := by omega
  simp only [ref27_Distance.s1, lt_len hi, if_true, at_lt hi, at_lt hi2, Option.bind_some, List.getElem_zip];rw [app_one (by omega), wn (by omega)];rfl
 ·intro b; rw [hz]; simp only [ref27_Distance.s1, not_lt_len, if_false]
theorem signs_eq {d : List Int} (hn : d.length < 16777216) : depend_signs d = some (sg d) := by
 unfold depend_signs;rw [loop_map (step := depend_signs.s1 d) d sgn (fun i b => (i, b)) (fun b => b) rfl ?_ ?_ (by omega)]
 ·rfl
 ·intro i hi b hb;simp only [depend_signs.s1, lt_len hi, if_true, at_lt hi, Option.bind_some, cmpI_eq];rw [app_one (by omega), wn (by omega)];rfl
 ·intro b; simp only [depend_signs.s1, not_lt_len, if_false]
theorem refSigns_eq {d : List Int} (hn : d.length < 16777216) : ref27_Signs d = some (sg d) := by
 unfold ref27_Signs;rw [loop_map (step := ref27_Signs.s1 d) d sgn (fun i b => (i, b)) (fun b => b) rfl ?_ ?_ (by omega)]
 ·rfl
 ·intro i hi b hb;have e : w (base_Bit (decide (d[i] > 0)) - base_Bit (decide (d[i] < 0))) = sgn d[i] := by
   unfold sgn base_Bit;generalize d[i] = x;by_cases h1 : x < 0
   ·have : ¬ x > 0 := by omega
    simp only [h1, this, decide_true, decide_false, if_true, if_false, Bool.false_eq_true]; rfl
   ·by_cases h2 : x > 0
    ·simp only [h1, h2, decide_true, decide_false, if_true, if_false, Bool.false_eq_true]; rfl
    ·simp only [h1, h2, decide_true, decide_false, if_true, if_false, Bool.false_eq_true]; rfl
  simp only [ref27_Signs.s1, lt_len hi, if_true, at_lt hi, Option.bind_some, e];rw [app_one (by omega), wn (by omega)];rfl
 ·intro b; simp only [ref27_Signs.s1, not_lt_len, if_false]
theorem equal_eq {a b : List Int} (hn : a.length < 16777216) : slices_Equal_int a b = some (a == b) := by
 unfold slices_Equal_int;by_cases h : (a.length : Int) = (b.length : Int)
 ·have hz : (a.zip b).length = a.length := by simp; omega
  simp only [h, not_true, if_false];rw [loop_find (step := slices_Equal_int.s1 a b) (a.zip b) (fun t => if t.1 = t.2 then none else some false) (fun c => Sum.inr c) (Sum.inl ()) rfl ?_ ?_ (by omega)]
  ·have key : ∀ (a b : List Int), a.length = b.length → (a.zip b).findSome? (fun t => if t.1 = t.2 then none else some false) = if a = b then none else some false := by
    intro a
    induction a with
    | nil => intro b h; cases b with | nil => rfl | cons _ _ => simp at h
    | cons x a ih =>
     intro b h;cases b with
     | nil => simp at h
     | cons y b =>
      rw [List.zip_cons_cons, List.findSome?_cons];by_cases e : x = y
      ·simp only [e, if_true];rw [ih b (by simpa using h)];simp
      ·simp [e]
   rw [key a b (by omega)];by_cases e : a = b
   ·simp [e]
   ·simp [e]
  ·intro i hi;rw [hz] at hi;have hi2 : i < b.length := by omega
   simp only [slices_Equal_int.s1, lt_len hi, if_true, at_lt hi, at_lt hi2, Option.bind_some, List.getElem_zip];by_cases e : a[i] = b[i]
   ·simp only [e, not_true, if_false, if_true]; rw [wn (by omega)]
   ·simp only [e, not_false_eq_true, if_true, if_false]
  ·rw [hz]; simp only [slices_Equal_int.s1, not_lt_len, if_false]
 ·simp only [h, not_false_eq_true, if_true];have : a ≠ b := fun e => h (by rw [e])
  simp [this]
structure Good {α : Type} (key : α → List Int) (Q : α → Prop) (N : Nat) (b : List α) : Prop where
 srt : Srt key b
 len : b.length ≤ N
 ok : ∀ y, y ∈ b → Q y
theorem Good.ins {α : Type} {key : α → List Int} {Q : α → Prop} {N : Nat} {b : List α} (h : Good key Q N b) {x : α} (hx : Q x) : Good key Q (N + 1) (insL key x b) :=
 ⟨insL_srt x h.srt, by have := insL_len (key := key) x b; have := h.len; omega, fun y hy => by
  rcases mem_insL hy with rfl | hy
  ·exact hx
  ·exact h.ok y hy⟩
theorem Good.more {α : Type} {key : α → List Int} {Q : α → Prop} {N M : Nat} {b : List α} (h : Good key Q N b) (hm : N ≤ M) : Good key Q M b := ⟨h.srt, by have := h.len; omega, h.ok⟩
def SigOk (y : api_Dependence) : Prop := y.Signs.length < 16777216 ∧ y.Source.length < 16777216 ∧ y.Sink.length < 16777216
def IntOk (y : List Int) : Prop := y.length < 16777216
theorem cmpL_neg {a b : List Int} : (cmpL a b < 0) = (ltL a b = true) := by
 unfold cmpL;apply propext;by_cases h : ltL a b = true
 ·simp [h]
 ·by_cases h2 : a = b
  ·subst h2; simp [ltL_irrefl]
  ·simp [h, h2]
theorem cmpL_zero {a b : List Int} : (cmpL a b == 0) = decide (a = b) := by
 unfold cmpL;by_cases h : ltL a b = true
 ·have : a ≠ b := fun e => by rw [e, ltL_irrefl] at h; cases h
  simp [h, this]
 ·by_cases h2 : a = b
  ·subst h2; simp [ltL_irrefl]
  ·simp [h, h2]
theorem map_at {α : Type} {key : α → List Int} {l : List α} {k : Nat} {s : List Int} (h : k < l.length) : ((l[k]?).map key = some s) = (key l[k] = s) := by
 simp [h]
theorem map_no {α : Type} {key : α → List Int} {l : List α} {k : Nat} {s : List Int} (h : ¬ k < l.length) : ((l[k]?).map key = some s) = False := by
 simp [List.getElem?_eq_none (show l.length ≤ k by omega)]
theorem bsD {b : List api_Dependence} {N : Nat} (h : Good api_Dependence.Signs SigOk N b) (hN : N < 16777216) (s : List Int) :
  slices_BinarySearchFunc_api_Dependence_int__depend_DependencesOf_c1_c1 s b = some (((bd api_Dependence.Signs s b : Nat) : Int), decide ((b[bd api_Dependence.Signs s b]?).map api_Dependence.Signs = some s)) := by
 have hl := h.len;unfold slices_BinarySearchFunc_api_Dependence_int__depend_DependencesOf_c1_c1;rw [bsearch (key := api_Dependence.Signs) (step := slices_BinarySearchFunc_api_Dependence_int__depend_DependencesOf_c1_c1.s1 s b) (l := b) (s := s) h.srt (by omega) ?_ ?_]
 ·simp only [Option.bind_some];by_cases e : bd api_Dependence.Signs s b < b.length
  ·rw [if_pos (by omega), at_lt e];simp only [Option.bind_some, depend_DependencesOf_c1_c1];rw [compare_eq (h.ok _ (List.getElem_mem e)).1];simp only [Option.bind_some, cmpL_zero, map_at e]
  ·rw [if_neg (by omega)];simp only [map_no e, decide_false]
 ·intro i j k hk hij hj hk2;have h1 : (i : Int) < (j : Int) := by omega
  have h2 : (i : Int) + (j : Int) = ((i + j : Nat) : Int) := by omega
  simp only [slices_BinarySearchFunc_api_Dependence_int__depend_DependencesOf_c1_c1.s1, h1, if_true, h2];rw [shr_half (by omega), show (i + j) / 2 = k by omega];simp only [Option.bind_some];have hw : w (k : Int) = k := w_id (by omega) (by omega);rw [hw, at_lt hk];simp only [Option.bind_some, depend_DependencesOf_c1_c1];rw [compare_eq (h.ok _ (List.getElem_mem hk)).1];simp only [Option.bind_some, cmpL_neg];rw [wn (by omega)];split <;> rfl
 ·intro i;simp only [slices_BinarySearchFunc_api_Dependence_int__depend_DependencesOf_c1_c1.s1, Int.lt_irrefl, if_false]
theorem bsI {b : List (List Int)} {N : Nat} (h : Good id IntOk N b) (hN : N < 16777216) (s : List Int) :
  slices_BinarySearchFunc_int_int__slices_Compare_int s b = some (((bd id s b : Nat) : Int), decide ((b[bd id s b]?).map id = some s)) := by
 have hl := h.len;unfold slices_BinarySearchFunc_int_int__slices_Compare_int;rw [bsearch (key := id) (step := slices_BinarySearchFunc_int_int__slices_Compare_int.s1 s b) (l := b) (s := s) h.srt (by omega) ?_ ?_]
 ·simp only [Option.bind_some];by_cases e : bd id s b < b.length
  ·rw [if_pos (by omega), at_lt e];simp only [Option.bind_some];rw [compare_eq (h.ok _ (List.getElem_mem e))];simp only [Option.bind_some, cmpL_zero, map_at e, id]
  ·rw [if_neg (by omega)];simp only [map_no e, decide_false]
 ·intro i j k hk hij hj hk2;have h1 : (i : Int) < (j : Int) := by omega
  have h2 : (i : Int) + (j : Int) = ((i + j : Nat) : Int) := by omega
  simp only [slices_BinarySearchFunc_int_int__slices_Compare_int.s1, h1, if_true, h2];rw [shr_half (by omega), show (i + j) / 2 = k by omega];simp only [Option.bind_some];have hw : w (k : Int) = k := w_id (by omega) (by omega);rw [hw, at_lt hk];simp only [Option.bind_some];rw [compare_eq (h.ok _ (List.getElem_mem hk))];simp only [Option.bind_some, cmpL_neg, id];rw [wn (by omega)];split <;> rfl
 ·intro i;simp only [slices_BinarySearchFunc_int_int__slices_Compare_int.s1, Int.lt_irrefl, if_false]
theorem inserted_at {α : Type} {xs : List α} {k : Nat} {x : α} (h : k ≤ xs.length) (hn : xs.length < 16777216) : inserted xs (k : Int) [x] = some (xs.take k ++ [x] ++ xs.drop k) := by
 unfold inserted;rw [if_pos ⟨by omega, by omega, by simp; omega⟩];simp
def depOf (s q : List Int) : api_Dependence := ⟨sg (df s q), s, q⟩
theorem insD_eq {b : List api_Dependence} {N : Nat} (h : Good api_Dependence.Signs SigOk N b) (hN : N < 16777216) {s q : List Int} (hs : s.length = q.length) (hn : s.length < 16777216) :
  depend_DependencesOf_c1 s q b = some (insL api_Dependence.Signs (depOf s q) b) := by
 have hl := h.len;unfold depend_DependencesOf_c1;rw [difference_eq hs hn];simp only [Option.bind_some];rw [signs_eq (by rw [df_len hs]; exact hn)];simp only [Option.bind_some];rw [bsD h hN, insL_eq];simp only [Option.bind_some];change (if ¬ (decide ((b[bd api_Dependence.Signs (sg (df s q)) b]?).map api_Dependence.Signs = some (sg (df s q))) = true) then _ else _) = some (if (b[bd api_Dependence.Signs (sg (df s q)) b]?).map api_Dependence.Signs = some (sg (df s q)) then _ else _);by_cases e : (b[bd api_Dependence.Signs (sg (df s q)) b]?).map api_Dependence.Signs = some (sg (df s q))
 ·simp only [e, decide_true, not_true, if_false, if_true]
 ·simp only [e, decide_false, Bool.false_eq_true, not_false_eq_true, if_true, if_false];rw [clone_eq (by omega), clone_eq (by omega)];simp only [Option.bind_some, slices_Insert_api_Dependence];rw [inserted_at (bd_le _ _) (by omega)];rfl
theorem insI_eq {b : List (List Int)} {N : Nat} (h : Good id IntOk N b) (hN : N < 16777216) {s q : List Int} (hs : s.length = q.length) (hn : s.length < 16777216) :
  depend_DistancesOf_c1 s q b = some (insL id (df s q) b) := by
 have hl := h.len;unfold depend_DistancesOf_c1;rw [difference_eq hs hn];simp only [Option.bind_some];rw [bsI h hN, insL_eq];simp only [Option.bind_some];change (if ¬ (decide ((b[bd id (df s q) b]?).map id = some (df s q)) = true) then _ else _) = some (if (b[bd id (df s q) b]?).map id = some (df s q) then _ else _);by_cases e : (b[bd id (df s q) b]?).map id = some (df s q)
 ·simp only [e, decide_true, not_true, if_false, if_true]
 ·simp only [e, decide_false, Bool.false_eq_true, not_false_eq_true, if_true, if_false, slices_Insert_int];rw [inserted_at (bd_le _ _) (by omega)];rfl
end Go.Sh
namespace Go.Sh
open Go.Lx
set_option linter.unusedVariables false
set_option linter.unusedSimpArgs false
set_option linter.deprecated false
def sfx {α : Type} : List α → List (List α)
 | [] => []
 | s :: t => (s :: t) :: sfx t
theorem sfx_len {α : Type} : ∀ l : List α, (sfx l).length = l.length
 | [] => rfl
 | s :: t => by simp [sfx, sfx_len t]
theorem sfx_get {α : Type} : ∀ (l : List α) (i : Nat) (h : i < (sfx l).length), (sfx l)[i] = l.drop i
 | [], i, h => by simp [sfx] at h
 | s :: t, 0, h => rfl
 | s :: t, i + 1, h => by
  have h' : i < (sfx t).length := by simp [sfx] at h; exact h
  simpa [sfx] using sfx_get t i h'
def qs (ft : Bool) (c : List Int → List Int → Bool) : List (List Int) → List (List Int × List Int)
 | [] => []
 | s :: t => ((if ft = true then s :: t else t).filter (c s)).map fun q => (s, q)
def prs (ft : Bool) (c : List Int → List Int → Bool) (P : List (List Int)) : List (List Int × List Int) := (sfx P).flatMap (qs ft c)
theorem qs_len {ft : Bool} {c : List Int → List Int → Bool} : ∀ u : List (List Int), (qs ft c u).length ≤ u.length
 | [] => by simp [qs]
 | s :: t => by
  simp only [qs, List.length_map];have h1 := List.length_filter_le (c s) (if ft = true then s :: t else t);have h2 : (if ft = true then s :: t else t).length ≤ (s :: t).length := by split <;> simp
  omega
theorem qs_mem {ft : Bool} {c : List Int → List Int → Bool} {z : List Int × List Int} : ∀ {u : List (List Int)}, z ∈ qs ft c u → z.1 ∈ u ∧ z.2 ∈ u
 | [], h => by simp [qs] at h
 | s :: t, h => by
  simp only [qs, List.mem_map, List.mem_filter] at h;obtain ⟨q, ⟨hq, _⟩, rfl⟩ := h;refine ⟨by simp, ?_⟩;split at hq
  ·exact hq
  ·exact List.mem_cons_of_mem _ hq
theorem sfx_mem {α : Type} {z : α} : ∀ {l u : List α}, u ∈ sfx l → z ∈ u → z ∈ l
 | [], u, h, _ => by simp [sfx] at h
 | s :: t, u, h, hz => by
  rcases List.mem_cons.1 h with rfl | h
  ·exact hz
  ·exact List.mem_cons_of_mem _ (sfx_mem h hz)
theorem prs_mem {ft : Bool} {c : List Int → List Int → Bool} {P : List (List Int)} {z : List Int × List Int} (h : z ∈ prs ft c P) : z.1 ∈ P ∧ z.2 ∈ P := by
 obtain ⟨u, hu, hz⟩ := List.mem_flatMap.1 h;obtain ⟨h1, h2⟩ := qs_mem hz;exact ⟨sfx_mem hu h1, sfx_mem hu h2⟩
theorem foldl_flat {α β γ : Type} (f : γ → β → γ) (g : α → List β) : ∀ (l : List α) (a : γ), l.foldl (fun b u => (g u).foldl f b) a = (l.flatMap g).foldl f a
 | [], a => rfl
 | x :: l, a => by
  rw [List.foldl_cons, foldl_flat f g l, List.flatMap_cons, List.foldl_append]
theorem inner {β : Type} {step : Int × β → Option (Sum (Int × β) β)} {P : List (List Int)} {i : Nat} (hi : i < P.length) (ft : Bool) (c : List Int → Bool) (g : β → List Int → β) (Inv : Nat → β → Prop) {a : β}
  (h : ∀ (k : Nat) (hk : k < P.length) b, i ≤ k → Inv (k - i) b → step ((k : Int), b) = some (.inl (((k + 1 : Nat) : Int), if (decide (i < k) || ft) && c P[k] then g b P[k] else b)) ∧ Inv (k - i + 1) (if (decide (i < k) || ft) && c P[k] then g b P[k] else b))
  (hend : ∀ b, step ((P.length : Int), b) = some (.inr b)) (hI : Inv 0 a) (hn : P.length < 16777216) :
  loopO step ((i : Int), a) = some (((if ft = true then P.drop i else P.drop (i + 1)).filter c).foldl g a) ∧ Inv (P.length - i) (((if ft = true then P.drop i else P.drop (i + 1)).filter c).foldl g a) := by
 have hl : (P.drop i).length = P.length - i := List.length_drop;have key : ∀ (r k : Nat) (b : β), k + r = P.length → i < k → Inv (k - i) b → iterO step (r + 1) ((k : Int), b) = some (((P.drop k).filter c).foldl g b) ∧ Inv (P.length - i) (((P.drop k).filter c).foldl g b) := by
  intro r
  induction r with
  | zero =>
   intro k b hk hik hb;have : k = P.length := by omega
   subst this;rw [List.drop_of_length_le (Nat.le_refl _)];refine ⟨?_, hb⟩;rw [iterO, hend];rfl
  | succ r ih =>
   intro k b hk hik hb;have hk' : k < P.length := by omega
   obtain ⟨h1, h2⟩ := h k hk' b (by omega) hb;rw [iterO, h1, List.drop_eq_getElem_cons hk'];have hd : (decide (i < k) || ft) = true := by simp [hik]
   simp only [hd, Bool.true_and] at h2 ⊢;have := ih (k + 1) (if c P[k] = true then g b P[k] else b) (by omega) (by omega) (by rw [show k + 1 - i = k - i + 1 by omega]; exact h2);by_cases e : c P[k] = true
   ·simp only [e, if_true, List.filter_cons_of_pos, List.foldl_cons] at this ⊢;exact this
   ·simp only [e, if_false, Bool.false_eq_true] at this ⊢;rw [List.filter_cons_of_neg (by simpa using e)];exact this
 obtain ⟨h1, h2⟩ := h i hi a (Nat.le_refl _) (by rw [Nat.sub_self]; exact hI);have hd : decide (i < i) = false := by simp
 simp only [hd, Bool.false_or] at h1 h2;have hF : P.length - i + 1 ≤ FUEL := by unfold FUEL; omega
 have hk := key (P.length - i - 1) (i + 1) (if (ft && c P[i]) = true then g a P[i] else a) (by omega) (by omega) (by rw [show i + 1 - i = i - i + 1 by omega]; exact h2);have e2 : (((if ft = true then P.drop i else P.drop (i + 1)).filter c).foldl g a) = ((P.drop (i + 1)).filter c).foldl g (if (ft && c P[i]) = true then g a P[i] else a) := by
  cases ft with
  | false => simp
  | true =>
   rw [if_pos rfl, List.drop_eq_getElem_cons hi];generalize P.drop (i + 1) = d;generalize P[i] = y;by_cases e : c y = true
   ·simp [e]
   ·simp [e]
 rw [e2];refine ⟨loopO_of (n := P.length - i + 1) ?_ hF, hk.2⟩;rw [iterO, h1];have := hk.1;rw [show P.length - i - 1 + 1 = P.length - i by omega] at this;exact this
theorem fold_qs {β : Type} (ft : Bool) (c : List Int → List Int → Bool) (G : β → List Int × List Int → β) (P : List (List Int)) (i : Nat) (hi : i < P.length) (a : β) :
  (((if ft = true then P.drop i else P.drop (i + 1)).filter (c P[i])).foldl (fun b q => G b (P[i], q)) a) = (qs ft c (P.drop i)).foldl G a := by
 rw [List.drop_eq_getElem_cons hi];simp only [qs];rw [List.foldl_map]
section
variable {p : List api_Loop} {A B : api_Access} {x : api_DependPair}
structure Ctx (p : List api_Loop) (A B : api_Access) (P : List (List Int)) : Prop where
 a : A.Subscripts.length ≤ 7
 b : B.Subscripts.length ≤ 7
 fa : ∀ y, y ∈ A.Subscripts → y.Coefs.length = p.length
 fb : ∀ y, y ∈ B.Subscripts → y.Coefs.length = p.length
 n : p.length ≤ 3
 m : P.length ≤ 200
 len : ∀ q, q ∈ P → q.length = p.length
def cn (A B : api_Access) (s q : List Int) : Bool := el A s == el B q
theorem el_len {A : api_Access} {q : List Int} : (el A q).length = A.Subscripts.length := by simp [el]
theorem Ctx.elA {P : List (List Int)} (C : Ctx p A B P) {q : List Int} (h : q ∈ P) : depend_element A q = some (el A q) ∧ ref27_Element A q = some (el A q) := by
 have := C.len q h;have := C.a;have := C.n;exact ⟨element_eq (fun y hy => by have := C.fa y hy; omega) (by omega) (by omega), refElement_eq (fun y hy => by have := C.fa y hy; omega) (by omega) (by omega)⟩
theorem Ctx.elB {P : List (List Int)} (C : Ctx p A B P) {q : List Int} (h : q ∈ P) : depend_element B q = some (el B q) ∧ ref27_Element B q = some (el B q) := by
 have := C.len q h;have := C.b;have := C.n;exact ⟨element_eq (fun y hy => by have := C.fb y hy; omega) (by omega) (by omega), refElement_eq (fun y hy => by have := C.fb y hy; omega) (by omega) (by omega)⟩
def gD (b : List api_Dependence) (z : List Int × List Int) : List api_Dependence := insL api_Dependence.Signs (depOf z.1 z.2) b
def gI (b : List (List Int)) (z : List Int × List Int) : List (List Int) := insL id (df z.1 z.2) b
theorem Ctx.depOk {P : List (List Int)} (C : Ctx p A B P) {s q : List Int} (hs : s ∈ P) (hq : q ∈ P) : SigOk (depOf s q) := by
 have h1 := C.len s hs;have h2 := C.len q hq;have := C.n;refine ⟨?_, ?_, ?_⟩
 ·show (sg (df s q)).length < _
  unfold sg;rw [List.length_map, df_len (by omega)]; omega
 ·show s.length < _; omega
 ·show q.length < _; omega
theorem Ctx.dfOk {P : List (List Int)} (C : Ctx p A B P) {s q : List Int} (hs : s ∈ P) (hq : q ∈ P) : IntOk (df s q) := by
 have h1 := C.len s hs;have h2 := C.len q hq;have := C.n
 show (df s q).length < _
 rw [df_len (by omega)]; omega
theorem pairsD {P : List (List Int)} (C : Ctx p A B P) : loopO (depend_pairs__depend_DependencesOf_c1.s1 x A B P) (0, []) = some ((prs (decide (x.From < x.To)) (cn A B) P).foldl gD []) ∧ Good api_Dependence.Signs SigOk 40000 ((prs (decide (x.From < x.To)) (cn A B) P).foldl gD []) := by
 have hm := C.m;have hstep : ∀ (i : Nat) (hi : i < P.length) (b : List api_Dependence), Good api_Dependence.Signs SigOk (i * 200) b →
   loopO (depend_pairs__depend_DependencesOf_c1.s2 x B P ((i : Int), b) P[i] (el A P[i])) ((i : Int), b) = some ((qs (decide (x.From < x.To)) (cn A B) (P.drop i)).foldl gD b) ∧ Good api_Dependence.Signs SigOk ((i + 1) * 200) ((qs (decide (x.From < x.To)) (cn A B) (P.drop i)).foldl gD b) := by
  intro i hi b hb;have := inner (step := depend_pairs__depend_DependencesOf_c1.s2 x B P ((i : Int), b) P[i] (el A P[i])) hi (decide (x.From < x.To)) (cn A B P[i]) (fun b q => gD b (P[i], q)) (fun j b => Good api_Dependence.Signs SigOk (i * 200 + j) b) (a := b) ?_ ?_ hb (by omega)
  ·rw [fold_qs _ (cn A B) gD P i hi] at this;exact ⟨this.1, this.2.more (by omega)⟩
  ·intro k hk b' hik hb';have hP := List.getElem_mem hi;have hQ := List.getElem_mem hk;have l1 := C.len _ hP;have l2 := C.len _ hQ;have hn := C.n;have hins := insD_eq hb' (by omega) (s := P[i]) (q := P[k]) (by omega) (by omega);constructor
   ·simp only [depend_pairs__depend_DependencesOf_c1.s2, lt_len hk, if_true];have heq : slices_Equal_int (el A P[i]) (el B P[k]) = some (cn A B P[i] P[k]) := equal_eq (by rw [el_len]; have := C.a; omega);by_cases h1 : i < k
    ·have h1' : (k : Int) > (i : Int) := by omega
     simp only [h1', if_true, at_lt hk, Option.bind_some, (C.elB hQ).1, heq, h1, decide_true, Bool.true_or, Bool.true_and];by_cases e : cn A B P[i] P[k] = true
     ·simp only [e, if_true, hins, Option.bind_some]; rw [wn (by omega)]; rfl
     ·simp only [e, if_false, Bool.false_eq_true]; rw [wn (by omega)]
    ·have h1' : ¬ (k : Int) > (i : Int) := by omega
     simp only [h1', if_false, h1, decide_false, Bool.false_or];by_cases h2 : x.From < x.To
     ·simp only [h2, if_true, at_lt hk, Option.bind_some, (C.elB hQ).1, heq, decide_true, Bool.true_and];by_cases e : cn A B P[i] P[k] = true
      ·simp only [e, if_true, hins, Option.bind_some]; rw [wn (by omega)]; rfl
      ·simp only [e, if_false, Bool.false_eq_true]; rw [wn (by omega)]
     ·simp only [h2, if_false, decide_false, Bool.false_and, Bool.false_eq_true]; rw [wn (by omega)]
   ·split
    ·exact hb'.ins (C.depOk hP hQ)
    ·exact hb'.more (by omega)
  ·intro b'; simp only [depend_pairs__depend_DependencesOf_c1.s2, not_lt_len, if_false]
 have hG : ∀ (i : Nat) (hi : i < (sfx P).length) (b : List api_Dependence), Good api_Dependence.Signs SigOk (i * 200) b → depend_pairs__depend_DependencesOf_c1.s1 x A B P ((i : Int), b) = some (.inl (((i + 1 : Nat) : Int), (qs (decide (x.From < x.To)) (cn A B) (sfx P)[i]).foldl gD b)) ∧ Good api_Dependence.Signs SigOk ((i + 1) * 200) ((qs (decide (x.From < x.To)) (cn A B) (sfx P)[i]).foldl gD b) := by
  intro i hi b hb;rw [sfx_get];rw [sfx_len] at hi;obtain ⟨h1, h2⟩ := hstep i hi b hb;refine ⟨?_, h2⟩;simp only [depend_pairs__depend_DependencesOf_c1.s1, lt_len hi, if_true, at_lt hi, Option.bind_some, (C.elA (List.getElem_mem hi)).1, h1];rw [wn (by omega)]
 have g0 : Good api_Dependence.Signs SigOk (0 * 200) [] := ⟨List.Pairwise.nil, by simp, fun y hy => by cases hy⟩
 have e : (sfx P).foldl (fun b u => (qs (decide (x.From < x.To)) (cn A B) u).foldl gD b) [] = (prs (decide (x.From < x.To)) (cn A B) P).foldl gD [] := foldl_flat _ _ _ _;rw [← e];constructor
 ·refine loop_fold (step := depend_pairs__depend_DependencesOf_c1.s1 x A B P) (sfx P) (fun i b => (i, b)) (fun b => b) (fun b u => (qs (decide (x.From < x.To)) (cn A B) u).foldl gD b) (fun i b => Good api_Dependence.Signs SigOk (i * 200) b) rfl hG ?_ g0 (by rw [sfx_len]; omega);intro b _; rw [sfx_len]; simp only [depend_pairs__depend_DependencesOf_c1.s1, not_lt_len, if_false]
 ·have key : ∀ (r i : Nat) (b : List api_Dependence), i + r = (sfx P).length → Good api_Dependence.Signs SigOk (i * 200) b → Good api_Dependence.Signs SigOk ((sfx P).length * 200) (((sfx P).drop i).foldl (fun b u => (qs (decide (x.From < x.To)) (cn A B) u).foldl gD b) b) := by
   intro r
   induction r with
   | zero => intro i b h hb; rw [List.drop_of_length_le (by omega)]; exact hb.more (by omega)
   | succ r ih =>
    intro i b h hb;have hi : i < (sfx P).length := by omega
    rw [List.drop_eq_getElem_cons hi];exact ih (i + 1) _ (by omega) (hG i hi b hb).2
  exact (key (sfx P).length 0 [] (by omega) g0).more (by rw [sfx_len]; omega)
theorem pairsI {P : List (List Int)} (C : Ctx p A B P) : loopO (depend_pairs__depend_DistancesOf_c1.s1 x A B P) (0, []) = some ((prs (decide (x.From < x.To)) (cn A B) P).foldl gI []) ∧ Good id IntOk 40000 ((prs (decide (x.From < x.To)) (cn A B) P).foldl gI []) := by
 have hm := C.m;have hstep : ∀ (i : Nat) (hi : i < P.length) (b : List (List Int)), Good id IntOk (i * 200) b →
   loopO (depend_pairs__depend_DistancesOf_c1.s2 x B P ((i : Int), b) P[i] (el A P[i])) ((i : Int), b) = some ((qs (decide (x.From < x.To)) (cn A B) (P.drop i)).foldl gI b) ∧ Good id IntOk ((i + 1) * 200) ((qs (decide (x.From < x.To)) (cn A B) (P.drop i)).foldl gI b) := by
  intro i hi b hb;have := inner (step := depend_pairs__depend_DistancesOf_c1.s2 x B P ((i : Int), b) P[i] (el A P[i])) hi (decide (x.From < x.To)) (cn A B P[i]) (fun b q => gI b (P[i], q)) (fun j b => Good id IntOk (i * 200 + j) b) (a := b) ?_ ?_ hb (by omega)
  ·rw [fold_qs _ (cn A B) gI P i hi] at this;exact ⟨this.1, this.2.more (by omega)⟩
  ·intro k hk b' hik hb';have hP := List.getElem_mem hi;have hQ := List.getElem_mem hk;have l1 := C.len _ hP;have l2 := C.len _ hQ;have hn := C.n;have hins := insI_eq hb' (by omega) (s := P[i]) (q := P[k]) (by omega) (by omega);constructor
   ·simp only [depend_pairs__depend_DistancesOf_c1.s2, lt_len hk, if_true];have heq : slices_Equal_int (el A P[i]) (el B P[k]) = some (cn A B P[i] P[k]) := equal_eq (by rw [el_len]; have := C.a; omega);by_cases h1 : i < k
    ·have h1' : (k : Int) > (i : Int) := by omega
     simp only [h1', if_true, at_lt hk, Option.bind_some, (C.elB hQ).1, heq, h1, decide_true, Bool.true_or, Bool.true_and];by_cases e : cn A B P[i] P[k] = true
     ·simp only [e, if_true, hins, Option.bind_some]; rw [wn (by omega)]; rfl
     ·simp only [e, if_false, Bool.false_eq_true]; rw [wn (by omega)]
    ·have h1' : ¬ (k : Int) > (i : Int) := by omega
     simp only [h1', if_false, h1, decide_false, Bool.false_or];by_cases h2 : x.From < x.To
     ·simp only [h2, if_true, at_lt hk, Option.bind_some, (C.elB hQ).1, heq, decide_true, Bool.true_and];by_cases e : cn A B P[i] P[k] = true
      ·simp only [e, if_true, hins, Option.bind_some]; rw [wn (by omega)]; rfl
      ·simp only [e, if_false, Bool.false_eq_true]; rw [wn (by omega)]
     ·simp only [h2, if_false, decide_false, Bool.false_and, Bool.false_eq_true]; rw [wn (by omega)]
   ·split
    ·exact hb'.ins (C.dfOk hP hQ)
    ·exact hb'.more (by omega)
  ·intro b'; simp only [depend_pairs__depend_DistancesOf_c1.s2, not_lt_len, if_false]
 have hG : ∀ (i : Nat) (hi : i < (sfx P).length) (b : List (List Int)), Good id IntOk (i * 200) b → depend_pairs__depend_DistancesOf_c1.s1 x A B P ((i : Int), b) = some (.inl (((i + 1 : Nat) : Int), (qs (decide (x.From < x.To)) (cn A B) (sfx P)[i]).foldl gI b)) ∧ Good id IntOk ((i + 1) * 200) ((qs (decide (x.From < x.To)) (cn A B) (sfx P)[i]).foldl gI b) := by
  intro i hi b hb;rw [sfx_get];rw [sfx_len] at hi;obtain ⟨h1, h2⟩ := hstep i hi b hb;refine ⟨?_, h2⟩;simp only [depend_pairs__depend_DistancesOf_c1.s1, lt_len hi, if_true, at_lt hi, Option.bind_some, (C.elA (List.getElem_mem hi)).1, h1];rw [wn (by omega)]
 have g0 : Good id IntOk (0 * 200) [] := ⟨List.Pairwise.nil, by simp, fun y hy => by cases hy⟩
 have e : (sfx P).foldl (fun b u => (qs (decide (x.From < x.To)) (cn A B) u).foldl gI b) [] = (prs (decide (x.From < x.To)) (cn A B) P).foldl gI [] := foldl_flat _ _ _ _;rw [← e];constructor
 ·refine loop_fold (step := depend_pairs__depend_DistancesOf_c1.s1 x A B P) (sfx P) (fun i b => (i, b)) (fun b => b) (fun b u => (qs (decide (x.From < x.To)) (cn A B) u).foldl gI b) (fun i b => Good id IntOk (i * 200) b) rfl hG ?_ g0 (by rw [sfx_len]; omega);intro b _; rw [sfx_len]; simp only [depend_pairs__depend_DistancesOf_c1.s1, not_lt_len, if_false]
 ·have key : ∀ (r i : Nat) (b : List (List Int)), i + r = (sfx P).length → Good id IntOk (i * 200) b → Good id IntOk ((sfx P).length * 200) (((sfx P).drop i).foldl (fun b u => (qs (decide (x.From < x.To)) (cn A B) u).foldl gI b) b) := by
   intro r
   induction r with
   | zero => intro i b h hb; rw [List.drop_of_length_le (by omega)]; exact hb.more (by omega)
   | succ r ih =>
    intro i b h hb;have hi : i < (sfx P).length := by omega
    rw [List.drop_eq_getElem_cons hi];exact ih (i + 1) _ (by omega) (hG i hi b hb).2
  exact (key (sfx P).length 0 [] (by omega) g0).more (by rw [sfx_len]; omega)
end
end Go.Sh
namespace Go.Sh
open Go.Lx
set_option linter.unusedVariables false
set_option linter.unusedSimpArgs false
set_option linter.deprecated false
section
variable {p : List api_Loop} {A B : api_Access} {x : api_DependPair}
def gP (b : List (List Int) × List (List Int)) (z : List Int × List Int) : List (List Int) × List (List Int) := (b.1 ++ [z.1], b.2 ++ [z.2])
theorem fold_gP : ∀ (l : List (List Int × List Int)) (b : List (List Int) × List (List Int)), l.foldl gP b = (b.1 ++ l.map (·.1), b.2 ++ l.map (·.2))
 | [], b => by simp
 | z :: l, b => by rw [List.foldl_cons, fold_gP l]; simp [gP]
theorem prs_len {ft : Bool} {c : List Int → List Int → Bool} (N : Nat) : ∀ (P : List (List Int)), P.length ≤ N → (prs ft c P).length ≤ P.length * N
 | [], _ => by simp [prs, sfx]
 | s :: t, h => by
  have ih := prs_len (ft := ft) (c := c) N t (by simp at h; omega);have := qs_len (ft := ft) (c := c) (s :: t);unfold prs at ih ⊢;simp only [sfx, List.flatMap_cons, List.length_append];have e : (s :: t).length * N = t.length * N + N := by rw [List.length_cons, Nat.succ_mul]
  rw [e];omega
def SzP (N : Nat) (b : List (List Int) × List (List Int)) : Prop := b.1.length ≤ N ∧ b.2.length ≤ N
theorem refPairs_loop {P : List (List Int)} (C : Ctx p A B P) : loopO (ref27_Pairs.s1 x A B P) (0, [], []) = some ((prs (decide (x.From < x.To)) (cn A B) P).foldl gP ([], [])) := by
 have hm := C.m;have hstep : ∀ (i : Nat) (hi : i < P.length) (b : List (List Int) × List (List Int)), SzP (i * 200) b →
   loopO (ref27_Pairs.s2 x A B P ((i : Int), b.1, b.2)) ((i : Int), b.1, b.2) = some ((qs (decide (x.From < x.To)) (cn A B) (P.drop i)).foldl gP b) ∧ SzP ((i + 1) * 200) ((qs (decide (x.From < x.To)) (cn A B) (P.drop i)).foldl gP b) := by
  intro i hi b hb;have := inner (step := ref27_Pairs.s2 x A B P ((i : Int), b.1, b.2)) hi (decide (x.From < x.To)) (cn A B P[i]) (fun b q => gP b (P[i], q)) (fun j b => SzP (i * 200 + j) b) (a := b) ?_ ?_ hb (by omega)
  ·rw [fold_qs _ (cn A B) gP P i hi] at this;exact ⟨this.1, ⟨by have := this.2.1; omega, by have := this.2.2; omega⟩⟩
  ·intro k hk b' hik hb';have hP := List.getElem_mem hi;have hQ := List.getElem_mem hk;have s1 := hb'.1;have s2 := hb'.2;have a1 : app b'.1 [P[i]] = some (b'.1 ++ [P[i]]) := app_one (by omega);have a2 : app b'.2 [P[k]] = some (b'.2 ++ [P[k]]) := app_one (by omega);constructor
   ·simp only [ref27_Pairs.s2, lt_len hk, if_true];have heq : base_Ints (el A P[i]) (el B P[k]) = some (cn A B P[i] P[k]) := ints_eq (by rw [el_len]; have := C.a; omega) (by rw [el_len]; have := C.b; omega);by_cases h1 : i < k
    ·have h1' : (k : Int) > (i : Int) := by omega
     simp only [h1', if_true, at_lt hi, at_lt hk, Option.bind_some, (C.elA hP).2, (C.elB hQ).2, heq, h1, decide_true, Bool.true_or, Bool.true_and, ref27_Pairs.j3];by_cases e : cn A B P[i] P[k] = true
     ·simp only [e, if_true, a1, a2, Option.bind_some]; rw [wn (by omega)]; rfl
     ·simp only [e, if_false, Bool.false_eq_true]; rw [wn (by omega)]
    ·have h1' : ¬ (k : Int) > (i : Int) := by omega
     simp only [h1', if_false, h1, decide_false, Bool.false_or];by_cases h2 : x.From < x.To
     ·simp only [h2, if_true, at_lt hi, at_lt hk, Option.bind_some, (C.elA hP).2, (C.elB hQ).2, heq, decide_true, Bool.true_and, ref27_Pairs.j3];by_cases e : cn A B P[i] P[k] = true
      ·simp only [e, if_true, a1, a2, Option.bind_some]; rw [wn (by omega)]; rfl
      ·simp only [e, if_false, Bool.false_eq_true]; rw [wn (by omega)]
     ·simp only [h2, if_false, decide_false, Bool.false_and, Bool.false_eq_true, ref27_Pairs.j3]; rw [wn (by omega)]
   ·split
    ·refine ⟨?_, ?_⟩
     ·simp only [gP, List.length_append, List.length_singleton]; omega
     ·simp only [gP, List.length_append, List.length_singleton]; omega
    ·exact ⟨by omega, by omega⟩
  ·intro b'; simp only [ref27_Pairs.s2, not_lt_len, if_false]
 have e : (sfx P).foldl (fun b u => (qs (decide (x.From < x.To)) (cn A B) u).foldl gP b) ([], []) = (prs (decide (x.From < x.To)) (cn A B) P).foldl gP ([], []) := foldl_flat _ _ _ _;rw [← e];refine loop_fold (step := ref27_Pairs.s1 x A B P) (sfx P) (fun i b => (i, b.1, b.2)) (fun b => b) (fun b u => (qs (decide (x.From < x.To)) (cn A B) u).foldl gP b) (fun i b => SzP (i * 200) b) rfl ?_ ?_ ⟨by simp, by simp⟩ (by rw [sfx_len]; omega)
 ·intro i hi b hb;rw [sfx_get];rw [sfx_len] at hi;obtain ⟨h1, h2⟩ := hstep i hi b hb;refine ⟨?_, h2⟩;simp only [ref27_Pairs.s1, lt_len hi, if_true, Option.bind_some, h1];rw [wn (by omega)]
 ·intro b _; rw [sfx_len]; simp only [ref27_Pairs.s1, not_lt_len, if_false]
end
def bdF {α : Type} (key : α → List Int) (s : List Int) (i : Nat) (_ : Unit) (y : α) : Sum Nat Unit := if ltL (key y) s = true then .inr () else .inl i
theorem scan_bd {α : Type} {key : α → List Int} (s : List Int) : ∀ (l : List α) (i : Nat), (match scanE (bdF key s) i l () with | .inl r => (r : Int) | .inr _ => ((i + l.length : Nat) : Int)) = ((i + bd key s l : Nat) : Int)
 | [], i => rfl
 | y :: l, i => by
  simp only [scanE, bdF, bd];by_cases e : ltL (key y) s = true
  ·simp only [e, if_true];have := scan_bd (key := key) s l (i + 1);rw [show i + (y :: l).length = i + 1 + l.length by simp; omega, this]
   congr 1; omega
  ·simp only [e, if_false, Bool.false_eq_true]; rfl
theorem cut_take {α : Type} {b : List α} {k : Nat} (h : k ≤ b.length) : cut b 0 (k : Int) = some (b.take k) := by
 unfold cut; rw [if_pos (by omega)]; simp
theorem cut_drop {α : Type} {b : List α} {k : Nat} (h : k ≤ b.length) : cut b (k : Int) (b.length : Int) = some (b.drop k) := by
 unfold cut; rw [if_pos (by omega)]; simp
theorem app_lt {α : Type} {xs ys : List α} (h : xs.length + ys.length ≤ 16777216) : app xs ys = some (xs ++ ys) := by unfold app; rw [if_pos h]
theorem refDeps_loop {L : List (List Int × List Int)} (hL : L.length ≤ 40000) (h : ∀ z, z ∈ L → z.1.length = z.2.length ∧ z.1.length < 16777216 ∧ SigOk (depOf z.1 z.2)) : loopO (ref27_Dependences.s1 (L.map (·.1), L.map (·.2))) ([], 0) = some (L.foldl gD []) := by
 refine loop_fold (step := ref27_Dependences.s1 (L.map (·.1), L.map (·.2))) L (fun i b => (b, i)) (fun b => b) gD (fun i b => Good api_Dependence.Signs SigOk i b) rfl ?_ ?_ ⟨List.Pairwise.nil, by simp, fun y hy => by cases hy⟩ (by omega)
 ·intro i hi b hb;obtain ⟨e1, e2, e3⟩ := h _ (List.getElem_mem hi);refine ⟨?_, hb.ins e3⟩;have hbl := hb.len;have m1 : (L.map (·.1)).length = L.length := by simp
  have m2 : (L.map (·.2)).length = L.length := by simp
  have i1 : i < (L.map (·.1)).length := by omega
  have i2 : i < (L.map (·.2)).length := by omega
  have g1 : at_ (L.map (·.1)) (i : Int) = some L[i].1 := by rw [at_lt i1]; simp
  have g2 : at_ (L.map (·.2)) (i : Int) = some L[i].2 := by rw [at_lt i2]; simp
  have hlt : ((i : Int) < ((L.map (·.1)).length : Int)) = True := eq_true (by omega);have hsg : (sg (df L[i].1 L[i].2)).length < 16777216 := by unfold sg; rw [List.length_map, df_len e1]; exact e2
  simp only [ref27_Dependences.s1, hlt, if_true, g1, g2, Option.bind_some];rw [distance_eq e1 e2];simp only [Option.bind_some];rw [refSigns_eq (by rw [df_len e1]; exact e2)];simp only [Option.bind_some];generalize hS : sg (df L[i].1 L[i].2) = S at hsg;have hk := bd_le (key := api_Dependence.Signs) S b;have hlp : loopO (ref27_Dependences.s2 (b, (i : Int)) S) 0 = some ((bd api_Dependence.Signs S b : Nat) : Int) := by
   rw [loop_scan (step := ref27_Dependences.s2 (b, (i : Int)) S) b (fun i (_ : Unit) => i) (fun r : Nat => (r : Int)) (fun _ => (b.length : Int)) (bdF api_Dependence.Signs S) (fun _ _ => True) (a := ()) rfl ?_ ?_ trivial (by omega)]
   ·have := scan_bd (key := api_Dependence.Signs) S b 0;simp only [Nat.zero_add] at this;rw [← this];generalize scanE _ _ _ _ = q;cases q <;> rfl
   ·intro j hj u _;refine ⟨?_, fun _ _ => trivial⟩;simp only [ref27_Dependences.s2, lt_len hj, if_true, at_lt hj, Option.bind_some, bdF];rw [before_lt (hb.ok _ (List.getElem_mem hj)).1 hsg];simp only [Option.bind_some];by_cases e : ltL b[j].Signs S = true
    ·simp only [e, if_true]; rw [wn (by omega)]
    ·simp only [e, if_false, Bool.false_eq_true]
   ·intro u _; simp only [ref27_Dependences.s2, not_lt_len, if_false]
  rw [hlp];simp only [Option.bind_some];have hins : gD b L[i] = insL api_Dependence.Signs (depOf L[i].1 L[i].2) b := rfl;have hkey : (depOf L[i].1 L[i].2).Signs = S := hS;have hj3 : ref27_Dependences.j3 (L.map (·.1), L.map (·.2)) (b, (i : Int)) S ((bd api_Dependence.Signs S b : Nat) : Int) () = some (.inl (b.take (bd api_Dependence.Signs S b) ++ [depOf L[i].1 L[i].2] ++ b.drop (bd api_Dependence.Signs S b), ((i + 1 : Nat) : Int))) := by
   have t1 : (b.take (bd api_Dependence.Signs S b)).length ≤ b.length := by rw [List.length_take]; omega
   have t2 : (b.drop (bd api_Dependence.Signs S b)).length ≤ b.length := by rw [List.length_drop]; omega
   have hx : (api_Dependence.mk S L[i].1 L[i].2) = depOf L[i].1 L[i].2 := by rw [← hS]; rfl
   simp only [ref27_Dependences.j3];rw [cut_take hk, cut_drop hk];simp only [Option.bind_some];rw [app_nil (by omega)];simp only [Option.bind_some, g1, g2, hx];rw [app_lt (xs := b.take (bd api_Dependence.Signs S b)) (ys := [depOf L[i].1 L[i].2]) (by simp; omega), app_nil (xs := [depOf L[i].1 L[i].2]) (by simp)];simp only [Option.bind_some];rw [app_lt (xs := [depOf L[i].1 L[i].2]) (by simp; omega), app_lt (xs := b.take (bd api_Dependence.Signs S b) ++ [depOf L[i].1 L[i].2]) (by simp; omega), wn (by omega)];simp only [Option.bind_some];split
   ·rename_i hE
    rw [List.isEmpty_iff.1 hE];rfl
   ·rfl
  rw [hins, insL_eq, hkey];by_cases e : bd api_Dependence.Signs S b < b.length
  ·rw [if_pos (by omega), at_lt e];simp only [Option.bind_some];rw [ints_eq (hb.ok _ (List.getElem_mem e)).1 hsg];simp only [Option.bind_some, map_at e];by_cases e4 : b[bd api_Dependence.Signs S b].Signs = S
   ·simp only [e4, beq_self_eq_true, if_true]; rw [wn (by omega)]
   ·have e5 : (b[bd api_Dependence.Signs S b].Signs == S) = false := by simpa using e4
    simp only [e4, e5, Bool.false_eq_true, if_false, hj3]
  ·rw [if_neg (by omega)];simp only [map_no e, if_false, hj3]
 ·intro b _;have m1 : (L.map (·.1)).length = L.length := by simp
  have hlt : ((L.length : Int) < ((L.map (·.1)).length : Int)) = False := eq_false (by omega);simp only [ref27_Dependences.s1, hlt, if_false]
theorem refDists_loop {L : List (List Int × List Int)} (hL : L.length ≤ 40000) (h : ∀ z, z ∈ L → z.1.length = z.2.length ∧ z.1.length < 16777216 ∧ SigOk (depOf z.1 z.2)) : loopO (ref27_Distances.s1 (L.map (·.1), L.map (·.2))) ([], 0) = some (L.foldl gI []) := by
 refine loop_fold (step := ref27_Distances.s1 (L.map (·.1), L.map (·.2))) L (fun i b => (b, i)) (fun b => b) gI (fun i b => Good id IntOk i b) rfl ?_ ?_ ⟨List.Pairwise.nil, by simp, fun y hy => by cases hy⟩ (by omega)
 ·intro i hi b hb;obtain ⟨e1, e2, e3⟩ := h _ (List.getElem_mem hi);have hok : IntOk (df L[i].1 L[i].2) := by unfold IntOk; rw [df_len e1]; exact e2
  refine ⟨?_, hb.ins hok⟩;have hbl := hb.len;have m1 : (L.map (·.1)).length = L.length := by simp
  have m2 : (L.map (·.2)).length = L.length := by simp
  have i1 : i < (L.map (·.1)).length := by omega
  have i2 : i < (L.map (·.2)).length := by omega
  have g1 : at_ (L.map (·.1)) (i : Int) = some L[i].1 := by rw [at_lt i1]; simp
  have g2 : at_ (L.map (·.2)) (i : Int) = some L[i].2 := by rw [at_lt i2]; simp
  have hlt : ((i : Int) < ((L.map (·.1)).length : Int)) = True := eq_true (by omega);simp only [ref27_Distances.s1, hlt, if_true, g1, g2, Option.bind_some];rw [distance_eq e1 e2];simp only [Option.bind_some];have hins : gI b L[i] = insL id (df L[i].1 L[i].2) b := rfl;rw [hins, insL_eq];simp only [id];generalize hS : df L[i].1 L[i].2 = S at hok;have hk := bd_le (key := id) S b;have hlp : loopO (ref27_Distances.s2 (b, (i : Int)) S) 0 = some ((bd id S b : Nat) : Int) := by
   rw [loop_scan (step := ref27_Distances.s2 (b, (i : Int)) S) b (fun i (_ : Unit) => i) (fun r : Nat => (r : Int)) (fun _ => (b.length : Int)) (bdF id S) (fun _ _ => True) (a := ()) rfl ?_ ?_ trivial (by omega)]
   ·have := scan_bd (key := id) S b 0;simp only [Nat.zero_add] at this;rw [← this];generalize scanE _ _ _ _ = q;cases q <;> rfl
   ·intro j hj u _;refine ⟨?_, fun _ _ => trivial⟩;simp only [ref27_Distances.s2, lt_len hj, if_true, at_lt hj, Option.bind_some, bdF, id];rw [before_lt (hb.ok _ (List.getElem_mem hj)) hok];simp only [Option.bind_some];by_cases e : ltL b[j] S = true
    ·simp only [e, if_true]; rw [wn (by omega)]
    ·simp only [e, if_false, Bool.false_eq_true]
   ·intro u _; simp only [ref27_Distances.s2, not_lt_len, if_false]
  rw [hlp];simp only [Option.bind_some];have hj3 : ref27_Distances.j3 (b, (i : Int)) S ((bd id S b : Nat) : Int) () = some (.inl (b.take (bd id S b) ++ [S] ++ b.drop (bd id S b), ((i + 1 : Nat) : Int))) := by
   have t1 : (b.take (bd id S b)).length ≤ b.length := by rw [List.length_take]; omega
   have t2 : (b.drop (bd id S b)).length ≤ b.length := by rw [List.length_drop]; omega
   simp only [ref27_Distances.j3];rw [cut_take hk, cut_drop hk];simp only [Option.bind_some];rw [app_nil (by omega)];simp only [Option.bind_some];rw [app_lt (xs := b.take (bd id S b)) (ys := [S]) (by simp; omega)];simp only [Option.bind_some];rw [app_lt (by simp; omega), wn (by omega)];rfl
  by_cases e : bd id S b < b.length
  ·rw [if_pos (by omega), at_lt e];simp only [Option.bind_some];rw [ints_eq (hb.ok _ (List.getElem_mem e)) hok];have hma := map_at (key := id) (s := S) e;simp only [Option.bind_some];simp only [id] at hma;by_cases e4 : b[bd id S b] = S
   ·have e6 : (b[bd id S b] == S) = true := by simpa using e4
    simp only [e6, if_true];rw [if_pos (by rw [List.getElem?_eq_getElem e]; simp [e4]), wn (by omega)]
   ·have e5 : (b[bd id S b] == S) = false := by simpa using e4
    simp only [e5, Bool.false_eq_true, if_false, hj3];rw [if_neg (by rw [List.getElem?_eq_getElem e]; simp [e4])]
  ·rw [if_neg (by omega)];simp only [hj3];rw [if_neg (by rw [List.getElem?_eq_none (by omega)]; simp)]
 ·intro b _;have m1 : (L.map (·.1)).length = L.length := by simp
  have hlt : ((L.length : Int) < ((L.map (·.1)).length : Int)) = False := eq_false (by omega);simp only [ref27_Distances.s1, hlt, if_false]
end Go.Sh
namespace Go.Sh
open Go.Lx
set_option linter.unusedVariables false
set_option linter.unusedSimpArgs false
set_option linter.deprecated false
theorem deps_self {b : List api_Dependence} (hn : b.length < 16777216) (h : ∀ y, y ∈ b → SigOk y) : ref27_SameDependences b b = some true := by
 unfold ref27_SameDependences;rw [if_neg (by simp)];rw [loop_find (step := ref27_SameDependences.s1 b b) b (fun _ => (none : Option Bool)) (fun c => Sum.inr c) (Sum.inl ()) rfl ?_ ?_ (by omega)]
 ·have : b.findSome? (fun _ => (none : Option Bool)) = none := by simp
  rw [this]; rfl
 ·intro i hi;obtain ⟨h1, h2, h3⟩ := h _ (List.getElem_mem hi);simp only [ref27_SameDependences.s1, lt_len hi, if_true, at_lt hi, Option.bind_some];rw [ints_eq h1 h1, ints_eq h2 h2, ints_eq h3 h3];simp only [Option.bind_some, beq_self_eq_true, not_true, if_false];rw [wn (by omega)]
 ·simp only [ref27_SameDependences.s1, not_lt_len, if_false]
theorem ba_ne (k : Int) : ∀ (l : List api_Access) (i : Nat) (r : Int × Int), scanE (baF k) i l () = .inl r → r.2 ≠ 0
 | [], i, r, h => by cases h
 | a :: l, i, r, h => by
  simp only [scanE, baF] at h;by_cases e : accErr a k = 0
  ·simp only [e, if_true] at h;exact ba_ne k l (i + 1) r h
  ·simp only [e, if_false] at h;cases h;exact e
theorem ba_ok (k : Int) : ∀ (l : List api_Access) (i : Nat), scanE (baF k) i l () = .inr () → ∀ a, a ∈ l → accErr a k = 0
 | [], i, _, a, h => by cases h
 | b :: l, i, h, a, ha => by
  simp only [scanE, baF] at h;by_cases e : accErr b k = 0
  ·simp only [e, if_true] at h;rcases List.mem_cons.1 ha with rfl | ha
   ·exact e
   ·exact ba_ok k l (i + 1) h a ha
  ·simp only [e, if_false] at h;cases h
theorem cbR_ok {p : List api_Loop} {l : List api_Access} (h : (cbR p l).2 = 0) : (cnR p).2 = 0 ∧ l.length ≤ 8 ∧ ∀ a, a ∈ l → accErr a p.length = 0 := by
 unfold cbR at h;split at h
 ·rename_i h1; exact absurd h h1
 rename_i h1
 split at h
 ·cases h
 split at h
 ·rename_i r hr
  exact absurd h (ba_ne _ _ _ _ hr)
 ·rename_i u hr
  exact ⟨Classical.not_not.1 h1, by omega, ba_ok _ _ _ hr⟩
def pe (p : List api_Loop) (l : List api_Access) (a b : Int) : Int :=
 if (cbR p l).2 = 0 then (if (depend_inside a 0 (w ((l.length : Int) - 1)) && depend_inside b 0 (w ((l.length : Int) - 1))) = true then 0 else 6) else (cbR p l).2
theorem pairErr_eq {p : List api_Loop} {l : List api_Access} (S : Sm p l) (a b : Int) : depend_pairErr p l a b = some (pe p l a b) := by
 unfold depend_pairErr pe;rw [checkBody_eq S];simp only [Option.bind_some];rw [broken1];simp only [Option.bind_some, cmpOr2]
theorem refPairErr_eq {p : List api_Loop} {l : List api_Access} (S : Sm p l) (a b : Int) : ref27_PairErr p l a b = some (pe p l a b) := by
 unfold ref27_PairErr pe;rw [bodyErr_eq S];simp only [Option.bind_some, within_eq];by_cases e : (cbR p l).2 = 0
 ·simp only [e, not_true, if_false, if_true];cases depend_inside a 0 (w ((l.length : Int) - 1)) <;> cases depend_inside b 0 (w ((l.length : Int) - 1)) <;> rfl
 ·simp only [e, not_false_eq_true, if_true, if_false]
theorem pe_ok {p : List api_Loop} {l : List api_Access} {a b : Int} (h : pe p l a b = 0) : ∃ (i k : Nat) (hi : i < l.length) (hk : k < l.length), a = i ∧ b = k ∧ VN p ∧ 0 < p.length ∧ Ctx p l[i] l[k] (pts p []) := by
 unfold pe at h;split at h
 case isFalse hne => exact absurd h hne
 rename_i h1
 split at h
 case isFalse => cases h
 rename_i h2
 obtain ⟨hc, hl, ha⟩ := cbR_ok h1;obtain ⟨vn, h0, h3⟩ := cnR_ok hc;have hw : w ((l.length : Int) - 1) = (l.length : Int) - 1 := w_id (by omega) (by omega);rw [hw] at h2;simp only [Bool.and_eq_true] at h2;have i1 := inside_iff.1 h2.1;have i2 := inside_iff.1 h2.2;have hi : a.toNat < l.length := by omega
 have hk : b.toNat < l.length := by omega
 obtain ⟨a1, a2⟩ := acc_ok (ha _ (List.getElem_mem hi));obtain ⟨b1, b2⟩ := acc_ok (ha _ (List.getElem_mem hk));exact ⟨a.toNat, b.toNat, hi, hk, by omega, by omega, vn, h0, a1, b1, fun y hy => by have := (fErr_ok (a2 y hy)).1; omega, fun y hy => by have := (fErr_ok (b2 y hy)).1; omega, vn.len, h3, fun q hq => by have := pts_len _ _ _ hq; simpa using this⟩
theorem DependFinds_true (p : List api_Loop) (l : List api_Access) (x : api_DependPair) : law27_DependFinds p l x = some true := by
 unfold law27_DependFinds;rw [awake_eq];simp only [Option.bind_some, not_true, if_false];obtain ⟨r, hr, hf⟩ := few_some p l;rw [hr];simp only [Option.bind_some];by_cases ht : r = true
 case neg => simp only [ht, not_false_eq_true, if_true, Bool.false_eq_true]
 have F := hf ht;have hn := F.n;have hm := F.m;have S : Sm p l := ⟨by omega, by omega, fun x hx => by have := F.f x hx; omega, fun x hx => ⟨by have := F.a x hx; omega, fun y hy => by have := (F.a x hx).2 y hy; omega⟩⟩
 have hcb : law27_CopyBody l = some l := copyBody_eq S.m (fun x hx => ⟨(S.a x hx).1, fun y hy => by have := (S.a x hx).2 y hy; omega⟩);have hcn : law27_CopyNest p = some p := copyNest_eq S.n (fun x hx => by have := S.f x hx; omega);simp only [ht, not_true, if_false, hcb, hcn, Option.bind_some];unfold depend_DependencesOf depend_DistancesOf;rw [pairErr_eq S, refPairErr_eq S];simp only [Option.bind_some];by_cases he : pe p l x.From x.To = 0
 ·obtain ⟨i, k, hi, hk, e1, e2, vn, h0, C⟩ := pe_ok he;have hm := C.m;have hpt : depend_points p = some (pts p []) := points_eq vn (by omega);have hrp : ref27_Points p = some (pts p []) := by rw [refPoints_eq vn h0, List.take_of_length_le (by omega)]
  have a1 : at_ l x.From = some l[i] := by rw [e1]; exact at_lt hi
  have a2 : at_ l x.To = some l[k] := by rw [e2]; exact at_lt hk
  simp only [he, not_true, if_false];unfold depend_pairs__depend_DependencesOf_c1 depend_pairs__depend_DistancesOf_c1 ref27_Dependences ref27_Distances ref27_Pairs;simp only [a1, a2, Option.bind_some];by_cases hrel : depend_related l[i] l[k] = true
  ·have hmeet : ref27_Meet l[i] l[k] = true := hrel;simp only [hrel, hmeet, not_true, if_false, hpt, hrp, Option.bind_some];obtain ⟨d1, d2⟩ := pairsD (x := x) C;obtain ⟨j1, j2⟩ := pairsI (x := x) C;rw [d1, j1, refPairs_loop C];simp only [Option.bind_some, if_true];have hL := prs_len (ft := decide (x.From < x.To)) (c := cn l[i] l[k]) 200 (pts p []) hm;have hL2 : (prs (decide (x.From < x.To)) (cn l[i] l[k]) (pts p [])).length ≤ 40000 := by
    have : (pts p []).length * 200 ≤ 200 * 200 := Nat.mul_le_mul_right _ hm;omega
   have hz : ∀ z, z ∈ prs (decide (x.From < x.To)) (cn l[i] l[k]) (pts p []) → z.1.length = z.2.length ∧ z.1.length < 16777216 ∧ SigOk (depOf z.1 z.2) := by
    intro z hz;obtain ⟨m1, m2⟩ := prs_mem hz;have l1 := C.len _ m1;have l2 := C.len _ m2;have := C.n;exact ⟨by omega, by omega, C.depOk m1 m2⟩
   rw [fold_gP];simp only [List.nil_append];rw [refDeps_loop hL2 hz, refDists_loop hL2 hz];simp only [Option.bind_some];rw [deps_self (by have := d2.len; omega) d2.ok];simp only [Option.bind_some, beq_self_eq_true, Bool.and_self, if_true];rw [lists_self (by have := j2.len; omega) j2.ok];rfl
  ·have hmeet : ¬ ref27_Meet l[i] l[k] = true := hrel;simp only [hrel, hmeet, Bool.false_eq_true, not_false_eq_true, if_true, Option.bind_some];have r1 : loopO (ref27_Dependences.s1 (([] : List (List Int)), ([] : List (List Int)))) ([], 0) = some [] := refDeps_loop (L := []) (by simp) (fun z hz => by cases hz);have r2 : loopO (ref27_Distances.s1 (([] : List (List Int)), ([] : List (List Int)))) ([], 0) = some [] := refDists_loop (L := []) (by simp) (fun z hz => by cases hz);rw [r1, r2];simp only [Option.bind_some];rw [deps_self (by simp) (fun y hy => by cases hy)];simp only [Option.bind_some, beq_self_eq_true, Bool.and_self, if_true];rw [lists_self (by simp) (fun y hy => by cases hy)];rfl
 ·simp only [he, not_false_eq_true, if_true, Option.bind_some, beq_self_eq_true, Bool.true_and];rfl
end Go.Sh
