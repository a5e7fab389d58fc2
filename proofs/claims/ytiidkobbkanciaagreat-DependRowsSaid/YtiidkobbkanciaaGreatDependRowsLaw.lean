/- What the functions compute answers as the statement says. -/
import Derived.Test.YtiidkobbkanciaaGreatDependRowsSh
set_option linter.all false
namespace Go.Sh
open Go.Lx
set_option linter.unusedVariables false
set_option linter.unusedSimpArgs false
theorem awake_eq : law27_awake = some true := by decide +kernel
theorem lt_len {i n : Nat} (h : i < n) : ((i : Int) < (n : Int)) = True := eq_true (by omega)
theorem not_lt_len (n : Nat) : ((n : Int) < (n : Int)) = False := eq_false (by omega)
theorem copyInts_eq {p : List Int} (h : p.length ≤ 16777216) : base_CopyInts p = some p := by
 unfold base_CopyInts; rw [mkSl_len h]; simp [copied_all]
theorem findSome_const {α ρ : Type} {p : α → Bool} {c : ρ} : ∀ xs : List α, xs.findSome? (fun x => if p x = true then some c else none) = if xs.any p = true then some c else none
 | [] => rfl
 | x :: xs => by
  simp only [List.findSome?_cons, List.any_cons];by_cases e : p x = true
  ·simp [e]
  ·simp only [e, if_false, Bool.false_or]; exact findSome_const xs
theorem cmpOr2 (a b : Int) : cmp_Or_api_Errno [a, b] = some (if a = 0 then b else a) := by
 unfold cmp_Or_api_Errno;rw [loop_find (step := cmp_Or_api_Errno.s1 [a, b]) [a, b] (fun x => if x = 0 then none else some x) (fun c => Sum.inr c) (Sum.inl ()) rfl ?_ ?_ (by simp)]
 ·by_cases h1 : a = 0
  ·by_cases h2 : b = 0
   ·simp [h1, h2]
   ·simp [h1, h2]
  ·simp [h1]
 ·intro i hi;simp only [cmp_Or_api_Errno.s1, lt_len hi, if_true, at_lt hi, Option.bind_some];by_cases e : [a, b][i] = 0
  ·simp only [e, not_true, if_false, if_true]; rw [wn (by simp at hi; omega)]
  ·simp only [e, not_false_eq_true, if_true, if_false]
 ·simp only [cmp_Or_api_Errno.s1, not_lt_len, if_false]
theorem within_eq (a b c : Int) : base_Within a b c = depend_inside a b c := by
 unfold base_Within depend_inside;simp only [Bool.not_or, ← decide_not]
 congr 1 <;> exact decide_eq_decide.2 (by omega)
theorem brokenG : ∀ (l : List depend_rule), l.length < 100 → depend_broken l = some (match l.findSome? (fun r => if r.holds = true then none else some r.code) with | some c => c | none => 0) := by
 intro l hl;unfold depend_broken;rw [loop_find (step := depend_broken.s1 l) l (fun r => if r.holds = true then none else some r.code) (fun c => Sum.inr c) (Sum.inl ()) rfl ?_ ?_ (by omega)]
 ·cases l.findSome? (fun r => if r.holds = true then none else some r.code) <;> rfl
 ·intro i hi;simp only [depend_broken.s1, lt_len hi, if_true, at_lt hi, Option.bind_some];by_cases h : l[i].holds = true
  ·simp only [h, not_true, if_false, if_true]; rw [wn (by omega)]
  ·simp only [h, not_false_eq_true, if_true, if_false, Bool.false_eq_true]
 ·simp only [depend_broken.s1, not_lt_len, if_false]
theorem broken1 (b : Bool) (c : Int) : depend_broken [depend_rule.mk b c] = some (if b = true then 0 else c) := by
 rw [brokenG _ (by simp)]; cases b <;> rfl
theorem broken2 (a b : Bool) (c d : Int) : depend_broken [depend_rule.mk a c, depend_rule.mk b d] = some (if a = true then (if b = true then 0 else d) else c) := by
 rw [brokenG _ (by simp)]; cases a <;> cases b <;> rfl
end Go.Sh
namespace Go.Sh
open Go.Lx
set_option linter.unusedVariables false
set_option linter.unusedSimpArgs false
def lo (x : api_Affine) (l : List api_Hull) : Int := (x.Coefs.zip l).foldl (fun b t => w (b + mn (w (t.1 * t.2.Low)) (w (t.1 * t.2.High)))) x.Const
def hi (x : api_Affine) (l : List api_Hull) : Int := (x.Coefs.zip l).foldl (fun b t => w (b + mx (w (t.1 * t.2.Low)) (w (t.1 * t.2.High)))) x.Const
theorem between_eq {x : api_Affine} {l : List api_Hull} (h : x.Coefs.length ≤ l.length) (hp : l.length < 16777216) : ref27_between x l = some ⟨lo x l, hi x l⟩ := by
 unfold ref27_between;have hz : (x.Coefs.zip l).length = x.Coefs.length := by simp; omega
 rw [loop_fold (step := ref27_between.s1 x l) (x.Coefs.zip l) (fun i (b : Int × Int) => (i, b.1, b.2)) (fun b => (b.1, b.2)) (fun b t => (w (b.1 + mn (w (t.1 * t.2.Low)) (w (t.1 * t.2.High))), w (b.2 + mx (w (t.1 * t.2.Low)) (w (t.1 * t.2.High))))) (fun _ _ => True) (a := (x.Const, x.Const)) rfl ?_ ?_ trivial (by omega)]
 ·have key : ∀ (T : List (Int × api_Hull)) (a b : Int), T.foldl (fun (b : Int × Int) t => (w (b.1 + mn (w (t.1 * t.2.Low)) (w (t.1 * t.2.High))), w (b.2 + mx (w (t.1 * t.2.Low)) (w (t.1 * t.2.High))))) (a, b) =
    (T.foldl (fun b t => w (b + mn (w (t.1 * t.2.Low)) (w (t.1 * t.2.High)))) a, T.foldl (fun b t => w (b + mx (w (t.1 * t.2.Low)) (w (t.1 * t.2.High)))) b) := by
   intro T
   induction T with
   | nil => intros; rfl
   | cons t T ih => intro a b; simp only [List.foldl_cons]; exact ih _ _
  rw [key];rfl
 ·intro i hi b _;refine ⟨?_, trivial⟩;rw [hz] at hi;have h2 : i < l.length := by omega
  simp only [ref27_between.s1, lt_len hi, if_true, at_lt hi, at_lt h2, Option.bind_some, List.getElem_zip];rw [wn (by omega)]
 ·intro b _; rw [hz]; simp only [ref27_between.s1, not_lt_len, if_false]
section
variable {p : List api_Loop}
end
end Go.Sh
namespace Go.Sh
open Go.Lx
set_option linter.unusedVariables false
set_option linter.unusedSimpArgs false
theorem hulls_self {p : List api_Hull} (h : p.length < 16777216) : ref27_SameHulls p p = some true := by
 unfold ref27_SameHulls;rw [if_neg (by simp)];rw [loop_find (step := ref27_SameHulls.s1 p p) p (fun _ => (none : Option Bool)) (fun c => Sum.inr c) (Sum.inl ()) rfl ?_ ?_ (by omega)]
 ·have : p.findSome? (fun _ => (none : Option Bool)) = none := by simp
  rw [this]; rfl
 ·intro i hi;simp only [ref27_SameHulls.s1, lt_len hi, if_true, at_lt hi, Option.bind_some, beq_self_eq_true, Bool.and_self, not_true, if_false];rw [wn (by omega)]
 ·simp only [ref27_SameHulls.s1, not_lt_len, if_false]
end Go.Sh
namespace Go.Sh
open Go.Lx
set_option linter.unusedVariables false
set_option linter.unusedSimpArgs false
set_option linter.deprecated false
structure Small (x : api_LinSystem) : Prop where
 n : x.Rows.length ≤ 62
 f : ∀ r, r ∈ x.Rows → r.Coefs.length ≤ 10
theorem small_some (x : api_LinSystem) : ∃ r, law27_small x = some r ∧ (r = true → Small x) := by
 unfold law27_small;by_cases h0 : (x.Rows.length : Int) > 62
 ·exact ⟨false, by rw [if_pos h0], fun h => by cases h⟩
 rw [if_neg h0];rw [loop_find (step := law27_small.s1 x) x.Rows (fun r => if (r.Coefs.length : Int) > 10 then some false else none) (fun r => .inr r) (.inl ()) rfl ?_ ?_ (by omega)]
 ·cases h1 : x.Rows.findSome? (fun r => if (r.Coefs.length : Int) > 10 then some false else none) with
  | some r =>
   refine ⟨r, rfl, fun hr => ?_⟩;obtain ⟨y, _, hy⟩ := List.exists_of_findSome?_eq_some h1;split at hy
   ·cases hy; cases hr
   ·cases hy
  | none =>
   refine ⟨true, rfl, fun _ => ⟨by omega, fun r hr => ?_⟩⟩;have := List.findSome?_eq_none_iff.1 h1 r hr;split at this
   ·cases this
   ·omega
 ·intro i hi;simp only [law27_small.s1, lt_len hi, if_true, at_lt hi, Option.bind_some];by_cases hs : (x.Rows[i].Coefs.length : Int) > 10
  ·simp only [hs, if_true]
  ·simp only [hs, if_false]; rw [wn (by omega)]
 ·simp only [law27_small.s1, not_lt_len, if_false]
theorem copySystem_eq {x : api_LinSystem} (S : Small x) : ref27_CopySystem x = some x := by
 have hn := S.n;unfold ref27_CopySystem;rw [loop_map (step := ref27_CopySystem.s1 x) x.Rows id (fun i b => (i, b)) (fun b => b) rfl ?_ ?_ (by omega)]
 ·simp
 ·intro i hi b hb;have h1 := S.f _ (List.getElem_mem hi);simp only [ref27_CopySystem.s1, lt_len hi, if_true, at_lt hi, Option.bind_some];rw [copyInts_eq (by omega)];simp only [Option.bind_some];rw [app_one (by omega), wn (by omega)];rfl
 ·intro b; simp only [ref27_CopySystem.s1, not_lt_len, if_false]
def oddR (l : List Int) : Bool := l.any fun c => !depend_inside c (-1000) 1000
def rErr (r : api_LinRow) (k : Int) : Int := if (r.Coefs.length : Int) = k then (if oddR r.Coefs = true then 2 else if depend_inside r.Const (-100000) 100000 = true then 0 else 2) else 10
theorem oddR_eq {p : List Int} (h : p.length < 16777216) : slices_ContainsFunc_int__depend_rowErr_c1 p = some (oddR p) := by
 unfold slices_ContainsFunc_int__depend_rowErr_c1 slices_IndexFunc_int__depend_rowErr_c1;obtain ⟨k, hk⟩ := loop_any (step := slices_IndexFunc_int__depend_rowErr_c1.s1 p) p (fun c => !depend_inside c (-1000) 1000) (fun i => Sum.inr i) (Sum.inl ()) (s := 0) rfl (fun i hi => by
  simp only [slices_IndexFunc_int__depend_rowErr_c1.s1, lt_len hi, if_true, at_lt hi, Option.bind_some, depend_rowErr_c1];by_cases e : (!depend_inside p[i] (-1000) 1000) = true
  ·simp only [e, if_true]
  ·simp only [e, if_false, Bool.false_eq_true]; rw [wn (by omega)]) (by simp only [slices_IndexFunc_int__depend_rowErr_c1.s1, not_lt_len, if_false]) (by omega)
 rw [hk];unfold oddR;by_cases e : p.any (fun c => !depend_inside c (-1000) 1000) = true
 ·simp only [e, if_true, Option.bind_some];have : (k : Int) ≥ 0 := by omega
  simp [this]
 ·simp only [e, if_false, Option.bind_some, Bool.false_eq_true];simp at e ⊢
theorem rowErr_eq {r : api_LinRow} (h : r.Coefs.length < 16777216) (k : Int) : depend_rowErr r k = some (rErr r k) := by
 unfold depend_rowErr rErr;rw [oddR_eq h];simp only [Option.bind_some];by_cases e : oddR r.Coefs = true
 ·simp only [e, not_true, if_false, if_true];rw [broken2];by_cases h2 : (r.Coefs.length : Int) = k <;> simp [h2]
 ·simp only [e, not_false_eq_true, if_true, if_false, Bool.false_eq_true];rw [broken2];by_cases h2 : (r.Coefs.length : Int) = k <;> simp [h2]
theorem rErr_ok {r : api_LinRow} {k : Int} (h : rErr r k = 0) : (r.Coefs.length : Int) = k ∧ (∀ c, c ∈ r.Coefs → -1000 ≤ c ∧ c ≤ 1000) ∧ -100000 ≤ r.Const ∧ r.Const ≤ 100000 := by
 unfold rErr at h;split at h
 ·rename_i h1
  split at h
  ·cases h
  ·rename_i h2
   split at h
   ·rename_i h3
    refine ⟨h1, ?_, by simpa [depend_inside] using h3⟩;intro c hc;have : oddR r.Coefs = false := by simpa using h2
    have := List.any_eq_false.1 this c hc;simp only [Bool.not_eq_true', Bool.not_eq_false] at this;simpa [depend_inside] using this
   ·cases h
 ·cases h
def rwF (k : Int) (i : Nat) (b : Unit) (r : api_LinRow) : Sum (Int × Int) Unit := if rErr r k = 0 then .inr b else .inl ((i : Int), rErr r k)
def csR (x : api_LinSystem) : Int × Int :=
 if depend_inside x.Vars 1 8 = true then (if (x.Rows.length : Int) ≤ 60 then (match scanE (rwF x.Vars) 0 x.Rows () with | .inl r => r | .inr _ => (0, 0)) else (0, 8)) else (0, 2)
theorem checkSystem_eq {x : api_LinSystem} (S : Small x) : depend_CheckSystem x = some (csR x) := by
 have hn := S.n;unfold depend_CheckSystem csR;rw [broken2];simp only [Option.bind_some];by_cases e1 : depend_inside x.Vars 1 8 = true
 ·by_cases e2 : (x.Rows.length : Int) ≤ 60
  ·simp only [e1, e2, decide_true, if_true, not_true, if_false];unfold depend_firstBad_api_LinRow__depend_CheckSystem_c1;rw [loop_scan (step := depend_firstBad_api_LinRow__depend_CheckSystem_c1.s1 x.Rows x) x.Rows (fun i (_ : Unit) => i) (fun r => .inr r) (fun _ => .inl ()) (rwF x.Vars) (fun _ _ => True) (a := ()) rfl ?_ ?_ trivial (by omega)]
   ·cases scanE (rwF x.Vars) 0 x.Rows () <;> rfl
   ·intro i hi b _;refine ⟨?_, fun _ _ => trivial⟩;have := S.f _ (List.getElem_mem hi);simp only [depend_firstBad_api_LinRow__depend_CheckSystem_c1.s1, lt_len hi, if_true, at_lt hi, Option.bind_some, depend_CheckSystem_c1];rw [rowErr_eq (by omega)];simp only [Option.bind_some, rwF];by_cases e : rErr x.Rows[i] x.Vars = 0
    ·simp only [e, not_true, if_false, if_true]; rw [wn (by omega)]
    ·simp only [e, not_false_eq_true, if_true, if_false]
   ·intro b _; simp only [depend_firstBad_api_LinRow__depend_CheckSystem_c1.s1, not_lt_len, if_false]
  ·simp only [e1, e2, decide_false, if_true, Bool.false_eq_true, if_false]; rfl
 ·simp only [e1, if_false, Bool.false_eq_true]; rfl
theorem refCheckSystem_eq {x : api_LinSystem} (S : Small x) : ref27_CheckSystem x = some (csR x) := by
 have hn := S.n;unfold ref27_CheckSystem csR;simp only [within_eq];by_cases e1 : depend_inside x.Vars 1 8 = true
 ·simp only [e1, not_true, if_false, if_true];by_cases e2 : (x.Rows.length : Int) ≤ 60
  ·have e2' : ¬ (x.Rows.length : Int) > 60 := by omega
   simp only [e2, e2', if_true, if_false];rw [loop_scan (step := ref27_CheckSystem.s1 x) x.Rows (fun i (_ : Unit) => i) (fun r => .inr r) (fun _ => .inl ()) (rwF x.Vars) (fun _ _ => True) (a := ()) rfl ?_ ?_ trivial (by omega)]
   ·cases scanE (rwF x.Vars) 0 x.Rows () <;> rfl
   ·intro i hi b _;refine ⟨?_, fun _ _ => trivial⟩;have hl := S.f _ (List.getElem_mem hi);simp only [ref27_CheckSystem.s1, lt_len hi, if_true, at_lt hi, Option.bind_some, within_eq, rwF, rErr];by_cases e3 : (x.Rows[i].Coefs.length : Int) = x.Vars
    ·simp only [e3, not_true, if_false, if_true];rw [loop_find (step := ref27_CheckSystem.s2 x i) x.Rows[i].Coefs (fun c => if (!depend_inside c (-1000) 1000) = true then some () else none) (fun _ => .inr ((i : Int), 2)) (.inl ()) rfl ?_ ?_ (by omega), findSome_const]
     ·unfold oddR;by_cases e4 : x.Rows[i].Coefs.any (fun c => !depend_inside c (-1000) 1000) = true
      ·simp only [e4, if_true, Option.bind_some];rfl
      ·simp only [e4, if_false, Option.bind_some, Bool.false_eq_true];by_cases e5 : depend_inside x.Rows[i].Const (-100000) 100000 = true
       ·simp only [e5, not_true, if_false, if_true]; rw [wn (by omega)]
       ·simp only [e5, not_false_eq_true, if_true, if_false, Bool.false_eq_true];rfl
     ·intro k hk;have hkv : ((k : Int) < x.Vars) = True := eq_true (by omega);simp only [ref27_CheckSystem.s2, hkv, if_true, at_lt hi, at_lt hk, Option.bind_some, within_eq];by_cases e : depend_inside x.Rows[i].Coefs[k] (-1000) 1000 = true
      ·simp only [e, not_true, if_false, Bool.not_true, Bool.false_eq_true]; rw [wn (by omega)]
      ·have e' : depend_inside x.Rows[i].Coefs[k] (-1000) 1000 = false := by simpa using e
       simp [e']
     ·have hkv : ((x.Rows[i].Coefs.length : Int) < x.Vars) = False := eq_false (by omega);simp only [ref27_CheckSystem.s2, hkv, if_false]
    ·simp only [e3, not_false_eq_true, if_true, if_false];rfl
   ·intro b _; simp only [ref27_CheckSystem.s1, not_lt_len, if_false]
  ·have e2' : (x.Rows.length : Int) > 60 := by omega
   simp only [e2, e2', if_true, if_false]
 ·simp only [e1, not_false_eq_true, if_true, if_false, Bool.false_eq_true]
structure VS (x : api_LinSystem) : Prop where
 v1 : 1 ≤ x.Vars
 v8 : x.Vars ≤ 8
 n : x.Rows.length ≤ 60
 f : ∀ r, r ∈ x.Rows → (r.Coefs.length : Int) = x.Vars ∧ (∀ c, c ∈ r.Coefs → -1000 ≤ c ∧ c ≤ 1000) ∧ -100000 ≤ r.Const ∧ r.Const ≤ 100000
theorem rw_ne (k : Int) : ∀ (l : List api_LinRow) (i : Nat) (r : Int × Int), scanE (rwF k) i l () = .inl r → r.2 ≠ 0
 | [], i, r, h => by cases h
 | a :: l, i, r, h => by
  simp only [scanE, rwF] at h;by_cases e : rErr a k = 0
  ·simp only [e, if_true] at h;exact rw_ne k l (i + 1) r h
  ·simp only [e, if_false] at h;cases h;exact e
theorem rw_ok (k : Int) : ∀ (l : List api_LinRow) (i : Nat), scanE (rwF k) i l () = .inr () → ∀ a, a ∈ l → rErr a k = 0
 | [], i, _, a, h => by cases h
 | b :: l, i, h, a, ha => by
  simp only [scanE, rwF] at h;by_cases e : rErr b k = 0
  ·simp only [e, if_true] at h;rcases List.mem_cons.1 ha with rfl | ha
   ·exact e
   ·exact rw_ok k l (i + 1) h a ha
  ·simp only [e, if_false] at h;cases h
theorem csR_ok {x : api_LinSystem} (h : (csR x).2 = 0) : VS x := by
 unfold csR at h;split at h
 ·rename_i h1
  split at h
  ·rename_i h2
   have h3 : 1 ≤ x.Vars ∧ x.Vars ≤ 8 := by
    unfold depend_inside at h1;simpa only [Bool.and_eq_true, decide_eq_true_eq] using h1
   split at h
   ·rename_i r hr
    exact absurd h (rw_ne _ _ _ _ hr)
   ·rename_i u hr
    exact ⟨h3.1, h3.2, by omega, fun r hr' => rErr_ok (rw_ok _ _ _ hr r hr')⟩
  ·cases h
 ·cases h
theorem systemErr_eq {x : api_LinSystem} (S : Small x) : depend_systemErr x = some (csR x).2 := by
 unfold depend_systemErr; rw [checkSystem_eq S]; rfl
theorem refSystemErr_eq {x : api_LinSystem} (S : Small x) : ref27_SystemErr x = some (csR x).2 := by
 unfold ref27_SystemErr; rw [refCheckSystem_eq S]; rfl
def atv (r : api_LinRow) (pt : List Int) : Int := (r.Coefs.zip pt).foldl (fun b t => w (b + w (t.1 * t.2))) r.Const
theorem at_eq {r : api_LinRow} {pt : List Int} (h : r.Coefs.length ≤ pt.length) (hp : pt.length < 16777216) : depend_at r pt = some (atv r pt) ∧ ref27_At r pt = some (atv r pt) := by
 have hz : (r.Coefs.zip pt).length = r.Coefs.length := by simp; omega
 unfold depend_at ref27_At atv;constructor
 ·rw [loop_fold (step := depend_at.s1 r pt) (r.Coefs.zip pt) (fun i (b : Int) => (b, i)) (fun b => b) (fun b t => w (b + w (t.1 * t.2))) (fun _ _ => True) (a := r.Const) rfl ?_ ?_ trivial (by omega)]
  ·rfl
  ·intro i hi b _;refine ⟨?_, trivial⟩;rw [hz] at hi;have h2 : i < pt.length := by omega
   simp only [depend_at.s1, lt_len hi, if_true, at_lt hi, at_lt h2, Option.bind_some, List.getElem_zip];rw [wn (by omega)]
  ·intro b _; rw [hz]; simp only [depend_at.s1, not_lt_len, if_false]
 ·rw [loop_fold (step := ref27_At.s1 r pt) (r.Coefs.zip pt) (fun i (b : Int) => (b, i)) (fun b => b) (fun b t => w (b + w (t.1 * t.2))) (fun _ _ => True) (a := r.Const) rfl ?_ ?_ trivial (by omega)]
  ·rfl
  ·intro i hi b _;refine ⟨?_, trivial⟩;rw [hz] at hi;have h2 : i < pt.length := by omega
   simp only [ref27_At.s1, lt_len hi, if_true, at_lt hi, at_lt h2, Option.bind_some, List.getElem_zip];rw [wn (by omega)]
  ·intro b _; rw [hz]; simp only [ref27_At.s1, not_lt_len, if_false]
def badR (pt : List Int) (r : api_LinRow) : Bool := (decide (atv r pt < 0)) || (r.Equal && (decide (atv r pt > 0)))
theorem fails_eq {l : List api_LinRow} {pt : List Int} (hn : l.length < 16777216) (h : ∀ r, r ∈ l → r.Coefs.length ≤ pt.length) (hp : pt.length < 16777216) : slices_ContainsFunc_api_LinRow__depend_Holds_c2 l pt = some (l.any (badR pt)) := by
 unfold slices_ContainsFunc_api_LinRow__depend_Holds_c2 slices_IndexFunc_api_LinRow__depend_Holds_c2;obtain ⟨k, hk⟩ := loop_any (step := slices_IndexFunc_api_LinRow__depend_Holds_c2.s1 l pt) l (badR pt) (fun i => Sum.inr i) (Sum.inl ()) (s := 0) rfl (fun i hi => by
  simp only [slices_IndexFunc_api_LinRow__depend_Holds_c2.s1, lt_len hi, if_true, at_lt hi, Option.bind_some, depend_Holds_c2];rw [(at_eq (h _ (List.getElem_mem hi)) hp).1];simp only [Option.bind_some];by_cases e : badR pt l[i] = true
  ·have e' := e;unfold badR at e';simp only [e, e', if_true]
  ·have e' := e;unfold badR at e';simp only [e, e', if_false, Bool.false_eq_true]; rw [wn (by omega)]) (by simp only [slices_IndexFunc_api_LinRow__depend_Holds_c2.s1, not_lt_len, if_false]) (by omega)
 rw [hk];by_cases e : l.any (badR pt) = true
 ·simp only [e, if_true, Option.bind_some];have : (k : Int) ≥ 0 := by omega
  simp [this]
 ·simp only [e, if_false, Option.bind_some, Bool.false_eq_true];simp at e ⊢
theorem solves_eq {x : api_LinSystem} {pt : List Int} (hn : x.Rows.length < 16777216) (h : ∀ r, r ∈ x.Rows → r.Coefs.length ≤ pt.length) (hp : pt.length < 16777216) : ref27_Solves x pt = some (!x.Rows.any (badR pt)) := by
 unfold ref27_Solves;rw [loop_find (step := ref27_Solves.s1 x pt) x.Rows (fun r => if badR pt r = true then some false else none) (fun r => .inr r) (.inl ()) rfl ?_ ?_ (by omega), findSome_const]
 ·by_cases e : x.Rows.any (badR pt) = true
  ·simp only [e, if_true, Option.bind_some]; rfl
  ·have e' : x.Rows.any (badR pt) = false := by rw [Bool.eq_false_iff]; exact e
   simp only [e', if_false, Option.bind_some, Bool.false_eq_true]; rfl
 ·intro i hi;simp only [ref27_Solves.s1, lt_len hi, if_true, at_lt hi, Option.bind_some, ref27_Holds];rw [(at_eq (h _ (List.getElem_mem hi)) hp).2];simp only [Option.bind_some];have e : ((atv x.Rows[i] pt == 0) || ((decide (atv x.Rows[i] pt > 0)) && (!x.Rows[i].Equal))) = !badR pt x.Rows[i] := by
   unfold badR;generalize atv x.Rows[i] pt = v;generalize x.Rows[i].Equal = q;by_cases h1 : v < 0
   ·have h2 : ¬ v > 0 := by omega
    have h3 : v ≠ 0 := by omega
    simp [h1, h2, h3]
   ·by_cases h2 : v > 0
    ·have h3 : v ≠ 0 := by omega
     simp [h1, h2, h3]
    ·have h3 : v = 0 := by omega
     simp [h3]
  rw [e];by_cases eb : badR pt x.Rows[i] = true
  ·simp only [eb, Bool.not_true, Bool.false_eq_true, not_false_eq_true, if_true]
  ·have eb' : badR pt x.Rows[i] = false := by simpa using eb
   simp only [eb', Bool.not_false, not_true, if_false, Bool.false_eq_true]; rw [wn (by omega)]
 ·simp only [ref27_Solves.s1, not_lt_len, if_false]
def oddP (l : List Int) : Bool := l.any fun c => !depend_inside c (-100000) 100000
theorem oddP_eq {p : List Int} (h : p.length < 16777216) : slices_ContainsFunc_int__depend_Holds_c1 p = some (oddP p) := by
 unfold slices_ContainsFunc_int__depend_Holds_c1 slices_IndexFunc_int__depend_Holds_c1;obtain ⟨k, hk⟩ := loop_any (step := slices_IndexFunc_int__depend_Holds_c1.s1 p) p (fun c => !depend_inside c (-100000) 100000) (fun i => Sum.inr i) (Sum.inl ()) (s := 0) rfl (fun i hi => by
  simp only [slices_IndexFunc_int__depend_Holds_c1.s1, lt_len hi, if_true, at_lt hi, Option.bind_some, depend_Holds_c1];by_cases e : (!depend_inside p[i] (-100000) 100000) = true
  ·simp only [e, if_true]
  ·simp only [e, if_false, Bool.false_eq_true]; rw [wn (by omega)]) (by simp only [slices_IndexFunc_int__depend_Holds_c1.s1, not_lt_len, if_false]) (by omega)
 rw [hk];unfold oddP;by_cases e : p.any (fun c => !depend_inside c (-100000) 100000) = true
 ·simp only [e, if_true, Option.bind_some];have : (k : Int) ≥ 0 := by omega
  simp [this]
 ·simp only [e, if_false, Option.bind_some, Bool.false_eq_true];simp at e ⊢
def hoR (x : api_LinSystem) (pt : List Int) : Bool × Int :=
 if ¬ (csR x).2 = 0 then (false, (csR x).2) else if ¬ (pt.length : Int) = x.Vars then (false, 10) else if oddP pt = true then (false, 2) else (!x.Rows.any (badR pt), 0)
theorem holds_eq {x : api_LinSystem} (S : Small x) {pt : List Int} (hp : pt.length < 16777216) : depend_Holds x pt = some (hoR x pt) := by
 unfold depend_Holds hoR;rw [oddP_eq hp, systemErr_eq S];simp only [Option.bind_some];rw [broken2];simp only [Option.bind_some, cmpOr2];by_cases e1 : (csR x).2 = 0
 ·have vs := csR_ok e1;simp only [e1, if_true, not_true, if_false];by_cases e2 : (pt.length : Int) = x.Vars
  ·simp only [e2, beq_self_eq_true, if_true, not_true, if_false];by_cases e3 : oddP pt = true
   ·simp only [e3, Bool.not_true, Bool.false_eq_true, if_false, if_true]; rfl
   ·have e3' : oddP pt = false := by simpa using e3
    simp only [e3', Bool.not_false, if_true, not_true, if_false, Bool.false_eq_true];rw [fails_eq (by have := vs.n; omega) (fun r hr => by have := (vs.f r hr).1; omega) hp];rfl
  ·have e2' : ((pt.length : Int) == x.Vars) = false := by simpa using e2
   simp only [e2, e2', Bool.false_eq_true, if_false, not_false_eq_true, if_true]; rfl
 ·simp only [e1, if_false, not_false_eq_true, if_true]
end Go.Sh
namespace Go.Sh
open Go.Lx
set_option linter.unusedVariables false
set_option linter.unusedSimpArgs false
set_option linter.deprecated false
def fl (p q : Int) : Int := p.tdiv q - (if p.tmod q < 0 then 1 else 0)
theorem tq {p q : Int} (hq : 0 < q) : (0 ≤ p → p.tdiv q = p / q ∧ p.tmod q = p % q) ∧ (p < 0 → p.tdiv q = -(-p / q) ∧ p.tmod q = -(-p % q)) := by
 constructor
 ·intro h;exact ⟨Int.tdiv_eq_ediv_of_nonneg h, Int.tmod_eq_emod_of_nonneg h⟩
 ·intro h;have e : p = -(-p) := by omega
  have h1 : (0 : Int) ≤ -p := by omega
  constructor
  ·rw [e, Int.neg_tdiv, Int.tdiv_eq_ediv_of_nonneg h1]; simp
  ·rw [e, Int.neg_tmod, Int.tmod_eq_emod_of_nonneg h1]; simp
theorem tq_b {p q : Int} (hq : 0 < q) (hp : -100000 ≤ p ∧ p ≤ 100000) : (-100000 ≤ p.tdiv q ∧ p.tdiv q ≤ 100000) ∧ (-q < p.tmod q ∧ p.tmod q < q) ∧ (0 ≤ p → 0 ≤ p.tmod q) ∧ (p < 0 → p.tmod q ≤ 0) := by
 obtain ⟨t1, t2⟩ := tq (p := p) hq;by_cases h : 0 ≤ p
 ·obtain ⟨a, b⟩ := t1 h;have h1 := Int.ediv_nonneg h (Int.le_of_lt hq);have h2 := Int.ediv_le_self q h;have h3 := Int.emod_nonneg p (show q ≠ 0 by omega);have h4 := Int.emod_lt_of_pos p hq;rw [a, b];exact ⟨⟨by omega, by omega⟩, ⟨by omega, by omega⟩, fun _ => h3, fun hn => by omega⟩
 ·have hn : p < 0 := by omega
  obtain ⟨a, b⟩ := t2 hn;have hp' : (0 : Int) ≤ -p := by omega
  have h1 := Int.ediv_nonneg hp' (Int.le_of_lt hq);have h2 := Int.ediv_le_self q hp';have h3 := Int.emod_nonneg (-p) (show q ≠ 0 by omega);have h4 := Int.emod_lt_of_pos (-p) hq;rw [a, b];exact ⟨⟨by omega, by omega⟩, ⟨by omega, by omega⟩, fun h0 => by omega, fun _ => by omega⟩
theorem fl_b {p q : Int} (hq : 0 < q) (hp : -100000 ≤ p ∧ p ≤ 100000) : -100001 ≤ fl p q ∧ fl p q ≤ 100000 := by
 obtain ⟨⟨h1, h2⟩, _⟩ := tq_b hq hp;unfold fl;split <;> omega
theorem quo_eq {p q : Int} (hq : 0 < q) (hp : -100000 ≤ p ∧ p ≤ 100000) : quo .i64 p q = some (p.tdiv q) := by
 obtain ⟨⟨h1, h2⟩, _⟩ := tq_b hq hp;unfold quo;rw [if_neg (by omega)];have : IntKind.i64.wrap (p.tdiv q) = p.tdiv q := w_id (by omega) (by omega);rw [this]
theorem rem_eq {p q : Int} (hq : 0 < q) : rem p q = some (p.tmod q) := by
 unfold rem;rw [if_neg (by omega)]
theorem floor_eq {p q : Int} (hq : 0 < q) (hp : -100000 ≤ p ∧ p ≤ 100000) : depend_floor p q = some (fl p q) := by
 obtain ⟨⟨h1, h2⟩, _, h5, h6⟩ := tq_b hq hp;unfold depend_floor fl;rw [quo_eq hq hp, rem_eq hq];simp only [Option.bind_some];have hq' : ¬ q < 0 := by omega
 simp only [hq', decide_false];by_cases h : p.tmod q < 0
 ·have hn : p < 0 := by
   by_cases h0 : 0 ≤ p
   ·have := h5 h0; omega
   ·omega
  have hne : p.tmod q ≠ 0 := by omega
  have c : ((p.tmod q != 0) && (decide (p < 0) != false)) = true := by simp [hne, hn]
  rw [if_pos c, if_pos h, w_id (by omega) (by omega)]
 ·rw [if_neg h];have c : ¬ ((p.tmod q != 0) && (decide (p < 0) != false)) = true := by
   intro hc;simp only [Bool.and_eq_true, bne_iff_ne, ne_eq, decide_eq_false_iff_not, Bool.not_eq_false, decide_eq_true_eq] at hc;have := h6 (by simpa using hc.2);omega
  rw [if_neg c];simp
theorem refFloor_eq {p q : Int} (hq : 0 < q) (hp : -100000 ≤ p ∧ p ≤ 100000) : base_Floor p q = some (fl p q) := by
 obtain ⟨⟨h1, h2⟩, _⟩ := tq_b hq hp;unfold base_Floor fl base_Bit;rw [quo_eq hq hp, rem_eq hq];simp only [Option.bind_some];by_cases h : p.tmod q < 0
 ·simp only [h, decide_true, if_true]; rw [w_id (by omega) (by omega)]
 ·simp only [h, decide_false, if_false, Bool.false_eq_true]; rw [w_id (by omega) (by omega)]
theorem ceil_eq {p q : Int} (hq : 0 < q) (hq2 : q ≤ 1000) (hp : -100000 ≤ p ∧ p ≤ 100000) : base_Ceil (w (0 - p)) q = some (w (0 - fl p q)) := by
 have e : w (0 - p) = -p := by rw [w_id (by omega) (by omega)]; omega
 have hp' : -100000 ≤ -p ∧ -p ≤ 100000 := by omega
 obtain ⟨⟨h1, h2⟩, ⟨h3, h4⟩, _⟩ := tq_b hq hp;have b := fl_b hq hp;have b' := fl_b hq hp';unfold base_Ceil base_Mod base_Bit;rw [e, refFloor_eq hq hp', rem_eq hq];simp only [Option.bind_some];unfold fl;rw [Int.neg_tdiv, Int.neg_tmod];generalize p.tdiv q = d at *
 generalize p.tmod q = r at *
 by_cases c1 : r = 0
 ·subst c1;simp only [Int.neg_zero, Int.lt_irrefl, decide_false, Bool.false_eq_true, if_false, Int.mul_zero];have z : w (0 + w 0) = 0 := rfl;rw [z];simp only [gt_iff_lt, Int.lt_irrefl, decide_false, Bool.false_eq_true, if_false];rw [w_id (by omega) (by omega), w_id (by omega) (by omega)]
  congr 1; omega
 ·by_cases c2 : r < 0
  ·have c3 : ¬ -r < 0 := by omega
   simp only [c2, c3, decide_false, Bool.false_eq_true, if_false, if_true, Int.mul_zero];have z : w (-r + w 0) = -r := by have : w 0 = 0 := rfl; rw [this, w_id (by omega) (by omega)]; omega
   rw [z];have c4 : -r > 0 := by omega
   simp only [c4, decide_true, if_true];rw [w_id (by omega) (by omega), w_id (by omega) (by omega)]
   congr 1; omega
  ·have c3 : -r < 0 := by omega
   simp only [c2, c3, decide_true, if_false, if_true, Int.mul_one];have z : w (-r + w q) = q - r := by rw [w_id (n := q) (by omega) (by omega), w_id (by omega) (by omega)]; omega
   rw [z];have c4 : q - r > 0 := by omega
   simp only [c4, decide_true, if_true];rw [w_id (by omega) (by omega), w_id (by omega) (by omega)]
   congr 1; omega
def onF (i : Nat) (b : Int × Int) (c : Int) : Sum Empty (Int × Int) := if c = 0 then .inr b else .inr ((i : Int), b.2 + 1)
def onR (l : List Int) : Int × Int := match scanE onF 0 l (0, 0) with | .inr b => b | .inl e => e.elim
theorem on_inv : ∀ (l : List Int) (pre : List Int) (b : Int × Int), 0 ≤ b.1 → b.1 ≤ pre.length → 0 ≤ b.2 → b.2 ≤ pre.length → (b.2 ≠ 0 → b.1 < pre.length ∧ (pre ++ l).getD b.1.toNat 0 ≠ 0) →
  ∃ b', scanE onF pre.length l b = .inr b' ∧ 0 ≤ b'.1 ∧ b'.1 ≤ (pre ++ l).length ∧ 0 ≤ b'.2 ∧ b'.2 ≤ (pre ++ l).length ∧ (b'.2 ≠ 0 → b'.1 < (pre ++ l).length ∧ (pre ++ l).getD b'.1.toNat 0 ≠ 0)
 | [], pre, b, h1, h2, h3, h4, h5 => ⟨b, rfl, h1, by simpa using h2, h3, by simpa using h4, fun h => ⟨by simpa using (h5 h).1, (h5 h).2⟩⟩
 | c :: l, pre, b, h1, h2, h3, h4, h5 => by
  have e : pre ++ c :: l = (pre ++ [c]) ++ l := by simp
  have el : (pre ++ [c]).length = pre.length + 1 := by simp
  simp only [scanE, onF];by_cases hc : c = 0
  ·simp only [hc, if_true];have := on_inv l (pre ++ [c]) b h1 (by omega) h3 (by omega) (fun h => ⟨by have := (h5 h).1; omega, by rw [← e]; exact (h5 h).2⟩);rw [el, ← e] at this;rw [hc] at this;exact this
  ·simp only [hc, if_false];have := on_inv l (pre ++ [c]) ((pre.length : Int), b.2 + 1) (by simp) (by rw [el]; show (pre.length : Int) ≤ ((pre.length + 1 : Nat) : Int); omega) (by simp; omega) (by rw [el]; simp; omega) (fun h => ⟨by rw [el]; simp; omega, by simp [hc]⟩);rw [el, ← e] at this;exact this
theorem onR_ok (l : List Int) : 0 ≤ (onR l).1 ∧ (onR l).1 ≤ l.length ∧ 0 ≤ (onR l).2 ∧ (onR l).2 ≤ l.length ∧ ((onR l).2 ≠ 0 → (onR l).1 < l.length ∧ l.getD (onR l).1.toNat 0 ≠ 0) := by
 obtain ⟨b, h, r⟩ := on_inv l [] (0, 0) (by simp) (by simp) (by simp) (by simp) (fun h => absurd rfl h);simp only [List.length_nil, List.nil_append] at h r;unfold onR;rw [h];exact r
theorem only_eq {r : api_LinRow} (h : r.Coefs.length < 16777216) : depend_only r = some ((onR r.Coefs).1, (onR r.Coefs).2 == 1) ∧ ref27_alone r = some ((onR r.Coefs).1, ((onR r.Coefs).2 == 1) && !r.Equal) := by
 have key : ∀ step : Int × Int × Int → Option (Sum (Int × Int × Int) (Int × Int)), (∀ (i : Nat) (hi : i < r.Coefs.length) (b : Int × Int), step (b.1, b.2, (i : Int)) = some (.inl (if r.Coefs[i] = 0 then (b.1, b.2, ((i + 1 : Nat) : Int)) else ((i : Int), w (b.2 + 1), ((i + 1 : Nat) : Int))))) → (∀ b : Int × Int, step (b.1, b.2, (r.Coefs.length : Int)) = some (.inr b)) → loopO step (0, 0, 0) = some (onR r.Coefs) := by
  intro step hs he;rw [loop_scan (ρ := Empty) (step := step) r.Coefs (fun i (b : Int × Int) => (b.1, b.2, i)) (fun e => e.elim) (fun b => b) onF (fun i b => 0 ≤ b.2 ∧ b.2 ≤ i) (a := (0, 0)) rfl ?_ ?_ ⟨by simp, by simp⟩ (by omega)]
  ·unfold onR;generalize scanE onF 0 r.Coefs (0, 0) = q;cases q with
   | inl e => exact e.elim
   | inr b => rfl
  ·intro i hi b hb;rw [hs i hi b];unfold onF;by_cases e : r.Coefs[i] = 0
   ·simp only [e, if_true];exact ⟨trivial, fun b' h' => by cases h'; omega⟩
   ·simp only [e, if_false];rw [w_id (by omega) (by omega)];exact ⟨rfl, fun b' h' => by cases h'; exact ⟨by omega, by simp; omega⟩⟩
  ·intro b _; exact he b
 constructor
 ·unfold depend_only;rw [key (depend_only.s1 r) ?_ ?_]
  ·rfl
  ·intro i hi b;simp only [depend_only.s1, lt_len hi, if_true, at_lt hi, Option.bind_some];by_cases e : r.Coefs[i] = 0
   ·simp only [e, not_true, if_false, if_true]; rw [wn (by omega)]
   ·simp only [e, not_false_eq_true, if_true, if_false]; rw [wn (by omega)]
  ·intro b; simp only [depend_only.s1, not_lt_len, if_false]
 ·unfold ref27_alone;rw [key (ref27_alone.s1 r) ?_ ?_]
  ·simp only [Option.bind_some];by_cases e : (onR r.Coefs).2 = 1
   ·simp only [e, if_true, beq_self_eq_true, Bool.true_and]
   ·have e' : ((onR r.Coefs).2 == 1) = false := by simpa using e
    simp only [e, e', if_false, Bool.false_and]
  ·intro i hi b;simp only [ref27_alone.s1, lt_len hi, if_true, at_lt hi, Option.bind_some];by_cases e : r.Coefs[i] = 0
   ·simp only [e, not_true, if_false, if_true]; rw [wn (by omega)]
   ·simp only [e, not_false_eq_true, if_true, if_false]; rw [wn (by omega)]
  ·intro b; simp only [ref27_alone.s1, not_lt_len, if_false]
end Go.Sh
namespace Go.Sh
open Go.Lx
set_option linter.unusedVariables false
set_option linter.unusedSimpArgs false
set_option linter.deprecated false
def foldI {α β : Type} (f : Nat → β → α → β) : Nat → List α → β → β
 | _, [], b => b
 | i, x :: xs, b => foldI f (i + 1) xs (f i b x)
theorem scan_foldI {α β : Type} (f : Nat → β → α → β) : ∀ (xs : List α) (i : Nat) (b : β), scanE (ρ := Empty) (fun i b x => .inr (f i b x)) i xs b = .inr (foldI f i xs b)
 | [], i, b => rfl
 | x :: xs, i, b => by simp only [scanE, foldI]; exact scan_foldI f xs (i + 1) _
theorem foldI_pair {α β γ : Type} (f : Nat → β → α → β) (g : Nat → γ → α → γ) : ∀ (xs : List α) (i : Nat) (b : β × γ), foldI (fun i (b : β × γ) x => (f i b.1 x, g i b.2 x)) i xs b = (foldI f i xs b.1, foldI g i xs b.2)
 | [], i, b => rfl
 | x :: xs, i, b => by simp only [foldI]; exact foldI_pair f g xs (i + 1) _
theorem foldI_map {α β : Type} (f : Nat → Nat → β → α → β) : ∀ (xs : List α) (i : Nat) (l : List β), foldI (fun i (l : List β) x => l.mapIdx fun v s => f v i s x) i xs l = l.mapIdx fun v s => foldI (f v) i xs s
 | [], i, l => by
  simp only [foldI];apply List.ext_getElem <;> simp
 | x :: xs, i, l => by
  simp only [foldI];rw [foldI_map f xs (i + 1)];apply List.ext_getElem <;> simp
theorem mapIdx_one {β : Type} {f : Nat → β → β} {l : List β} {k : Nat} (hk : k < l.length) (h : ∀ v s, v ≠ k → f v s = s) : l.mapIdx f = l.set k (f k l[k]) := by
 apply List.ext_getElem
 ·simp
 ·intro i h1 h2;rw [List.getElem_mapIdx, List.getElem_set];by_cases e : k = i
  ·subst e; simp
  ·rw [if_neg e]; exact h _ _ (fun q => e q.symm)
theorem mapIdx_same {β : Type} {f : Nat → β → β} {l : List β} (h : ∀ v s, f v s = s) : l.mapIdx f = l := by
 apply List.ext_getElem
 ·simp
 ·intro i h1 h2;rw [List.getElem_mapIdx]; exact h _ _
theorem mapIdx_rep {β γ : Type} (z : β) (n : Nat) (g : Nat → β → γ) : (List.replicate n z).mapIdx g = (List.range n).map fun v => g v z := by
 apply List.ext_getElem <;> simp
def al (r : api_LinRow) : Bool := ((onR r.Coefs).2 == 1) && !r.Equal
def av (r : api_LinRow) : Int := (onR r.Coefs).1
def cf (r : api_LinRow) : Int := r.Coefs.getD (av r).toNat 0
def loM (r : api_LinRow) : Int := w (0 - fl r.Const (cf r))
def hiM (r : api_LinRow) : Int := fl r.Const (w (0 - cf r))
def upL (v i : Nat) (s : depend_side) (r : api_LinRow) : depend_side := if al r = true ∧ av r = v ∧ cf r > 0 then (if ((!s.known) || (decide (loM r > s.n))) = true then ⟨true, loM r, i⟩ else s) else s
def upH (v i : Nat) (s : depend_side) (r : api_LinRow) : depend_side := if al r = true ∧ av r = v ∧ ¬ cf r > 0 then (if ((!s.known) || (decide (hiM r < s.n))) = true then ⟨true, hiM r, i⟩ else s) else s
def sd0 : depend_side := ⟨false, 0, 0⟩
def bL (rows : List api_LinRow) (v : Nat) : depend_side := foldI (upL v) 0 rows sd0
def bH (rows : List api_LinRow) (v : Nat) : depend_side := foldI (upH v) 0 rows sd0
theorem row_al {x : api_LinSystem} (vs : VS x) {r : api_LinRow} (hr : r ∈ x.Rows) (h : al r = true) : ∃ (k : Nat) (hk : k < r.Coefs.length), av r = k ∧ r.Coefs[k] = cf r ∧ cf r ≠ 0 ∧ -1000 ≤ cf r ∧ cf r ≤ 1000 := by
 obtain ⟨f1, f2, f3⟩ := vs.f r hr;obtain ⟨o1, o2, o3, o4, o5⟩ := onR_ok r.Coefs;unfold al at h;simp only [Bool.and_eq_true, beq_iff_eq] at h;have o6 := o5 (by omega);have hk : (av r).toNat < r.Coefs.length := by unfold av; omega
 have e : r.Coefs[(av r).toNat] = cf r := by unfold cf; simp [List.getD, hk]
 have hb := f2 _ (List.getElem_mem hk);rw [e] at hb;exact ⟨(av r).toNat, hk, by unfold av; omega, e, o6.2, hb.1, hb.2⟩
theorem boxOf_eq {x : api_LinSystem} (vs : VS x) {n : Nat} (hn : x.Vars = n) : depend_boxOf x = some ⟨(List.range n).map (bL x.Rows), (List.range n).map (bH x.Rows)⟩ := by
 have hv := vs.v8;have hrn := vs.n;have hmk : mkSl x.Vars (depend_side.mk false 0 0) = some (List.replicate n sd0) := by
  unfold mkSl;rw [if_pos (by omega), hn];simp [sd0]
 unfold depend_boxOf;rw [hmk];simp only [Option.bind_some];rw [loop_scan (ρ := Empty) (step := depend_boxOf.s1 x) x.Rows (fun i (b : List depend_side × List depend_side) => (i, b.1, b.2)) (fun e => e.elim) (fun b => b) (fun i b r => .inr (b.1.mapIdx fun v s => upL v i s r, b.2.mapIdx fun v s => upH v i s r)) (fun i b => b.1.length = n ∧ b.2.length = n) (a := (List.replicate n sd0, List.replicate n sd0)) rfl ?_ ?_ ⟨by simp, by simp⟩ (by omega)]
 ·rw [scan_foldI (fun i (b : List depend_side × List depend_side) r => (b.1.mapIdx fun v s => upL v i s r, b.2.mapIdx fun v s => upH v i s r)), foldI_pair (fun i (l : List depend_side) r => l.mapIdx fun v s => upL v i s r) (fun i (l : List depend_side) r => l.mapIdx fun v s => upH v i s r), foldI_map upL, foldI_map upH, mapIdx_rep, mapIdx_rep];rfl
 ·intro i hi b hb;refine ⟨?_, fun b' h' => by cases h'; simp [hb.1, hb.2]⟩;have hr := List.getElem_mem hi;obtain ⟨f1, f2, f3, f4⟩ := vs.f _ hr;simp only [depend_boxOf.s1, lt_len hi, if_true, at_lt hi, Option.bind_some];rw [(only_eq (by omega)).1];simp only [Option.bind_some];by_cases ha : al x.Rows[i] = true
  ·have c0 : (x.Rows[i].Equal || !((onR x.Rows[i].Coefs).2 == 1)) = false := by
    unfold al at ha;simp only [Bool.and_eq_true, Bool.not_eq_true'] at ha;simp [ha.1, ha.2]
   obtain ⟨k, hk, e1, e2, e3, e4, e5⟩ := row_al vs hr ha;have e1' : (onR x.Rows[i].Coefs).1 = (k : Int) := e1;have hk1 : k < b.1.length := by omega
   have hk2 : k < b.2.length := by omega
   have hL := mapIdx_one (f := fun v s => upL v i s x.Rows[i]) hk1 (fun v s hne => by
    have : ¬ (al x.Rows[i] = true ∧ av x.Rows[i] = (v : Int) ∧ cf x.Rows[i] > 0) := by rw [e1]; omega
    simp only [upL, this, if_false])
   have hH := mapIdx_one (f := fun v s => upH v i s x.Rows[i]) hk2 (fun v s hne => by
    have : ¬ (al x.Rows[i] = true ∧ av x.Rows[i] = (v : Int) ∧ ¬ cf x.Rows[i] > 0) := by rw [e1]; omega
    simp only [upH, this, if_false])
   simp only [c0, Bool.false_eq_true, if_false, e1', at_lt hk, Option.bind_some, e2];by_cases hc : cf x.Rows[i] > 0
   ·have hH2 : upH k i b.2[k] x.Rows[i] = b.2[k] := by simp [upH, hc]
    have hL2 : upL k i b.1[k] x.Rows[i] = if ((!b.1[k].known) || (decide (loM x.Rows[i] > b.1[k].n))) = true then ⟨true, loM x.Rows[i], i⟩ else b.1[k] := by simp only [upL, ha, e1, hc, and_self, if_true]
    rw [hL, hH, hH2, hL2, List.set_getElem_self];simp only [hc, if_true];rw [floor_eq hc ⟨f3, f4⟩];simp only [Option.bind_some, at_lt hk1];have hlm : w (0 - fl x.Rows[i].Const (cf x.Rows[i])) = loM x.Rows[i] := rfl;rw [wn (by omega), hlm];by_cases k1 : b.1[k].known = true
    ·by_cases k2 : loM x.Rows[i] > b.1[k].n
     ·simp only [k1, k2, not_true, if_false, if_true, Bool.not_true, decide_true, Bool.false_or, Int.toNat_natCast]
     ·simp only [k1, k2, not_true, if_false, Bool.not_true, decide_false, Bool.false_or, Bool.false_eq_true, List.set_getElem_self]
    ·have k1' : b.1[k].known = false := by simpa using k1
     simp only [k1', Bool.false_eq_true, not_false_eq_true, if_true, Bool.not_false, Bool.true_or, Int.toNat_natCast]
   ·have hL2 : upL k i b.1[k] x.Rows[i] = b.1[k] := by simp [upL, hc]
    have hH2 : upH k i b.2[k] x.Rows[i] = if ((!b.2[k].known) || (decide (hiM x.Rows[i] < b.2[k].n))) = true then ⟨true, hiM x.Rows[i], i⟩ else b.2[k] := by simp only [upH, ha, e1, hc, not_false_eq_true, and_self, if_true]
    rw [hL, hH, hH2, hL2, List.set_getElem_self];simp only [hc, if_false];have hq : w (0 - cf x.Rows[i]) = -cf x.Rows[i] := by rw [w_id (by omega) (by omega)]; omega
    rw [floor_eq (by rw [hq]; omega) ⟨f3, f4⟩];simp only [Option.bind_some, at_lt hk2];have hlm : fl x.Rows[i].Const (w (0 - cf x.Rows[i])) = hiM x.Rows[i] := rfl;rw [wn (by omega), hlm];by_cases k1 : b.2[k].known = true
    ·by_cases k2 : hiM x.Rows[i] < b.2[k].n
     ·simp only [k1, k2, not_true, if_false, if_true, Bool.not_true, decide_true, Bool.false_or, Int.toNat_natCast]
     ·simp only [k1, k2, not_true, if_false, Bool.not_true, decide_false, Bool.false_or, Bool.false_eq_true, List.set_getElem_self]
    ·have k1' : b.2[k].known = false := by simpa using k1
     simp only [k1', Bool.false_eq_true, not_false_eq_true, if_true, Bool.not_false, Bool.true_or, Int.toNat_natCast]
  ·have c0 : (x.Rows[i].Equal || !((onR x.Rows[i].Coefs).2 == 1)) = true := by
    unfold al at ha;cases h1 : x.Rows[i].Equal <;> cases h2 : ((onR x.Rows[i].Coefs).2 == 1) <;> simp [h1, h2] at ha ⊢
   rw [mapIdx_same (f := fun v s => upL v i s x.Rows[i]) (fun v s => by simp [upL, ha]), mapIdx_same (f := fun v s => upH v i s x.Rows[i]) (fun v s => by simp [upH, ha])];simp only [c0, if_true];rw [wn (by omega)]
 ·intro b _; simp only [depend_boxOf.s1, not_lt_len, if_false]
def kn (s : depend_side × depend_side) : Bool := s.1.known && s.2.known
def hul (s : depend_side × depend_side) : api_Hull := ⟨s.1.n, s.2.n⟩
def bx (x : api_LinSystem) (n : Nat) : List (depend_side × depend_side) := (List.range n).map fun v => (bL x.Rows v, bH x.Rows v)
theorem refSide_eq {x : api_LinSystem} (vs : VS x) {n : Nat} (hn : x.Vars = n) {v : Nat} (hv : v < n) (o : List api_Hull) : loopO (ref27_Box.s2 x ((v : Int), o)) (false, false, 0, 0, 0) = some ((bL x.Rows v).known, (bH x.Rows v).known, (bL x.Rows v).n, (bH x.Rows v).n) := by
 have hrn := vs.n;have hv8 := vs.v8;rw [loop_scan (ρ := Empty) (step := ref27_Box.s2 x ((v : Int), o)) x.Rows (fun i (b : depend_side × depend_side) => (b.1.known, b.2.known, i, b.1.n, b.2.n)) (fun e => e.elim) (fun b => (b.1.known, b.2.known, b.1.n, b.2.n)) (fun i b r => .inr (upL v i b.1 r, upH v i b.2 r)) (fun _ _ => True) (a := (sd0, sd0)) (s := (false, false, 0, 0, 0)) rfl ?_ ?_ trivial (by omega)]
 ·rw [scan_foldI (fun i (b : depend_side × depend_side) r => (upL v i b.1 r, upH v i b.2 r)), foldI_pair (upL v) (upH v)];rfl
 ·intro i hi b _;refine ⟨?_, fun _ _ => trivial⟩;have hr := List.getElem_mem hi;obtain ⟨f1, f2, f3, f4⟩ := vs.f _ hr;simp only [ref27_Box.s2, lt_len hi, if_true, at_lt hi, Option.bind_some];rw [(only_eq (by omega)).2];simp only [Option.bind_some];change (if ((!al x.Rows[i]) || (av x.Rows[i] != (v : Int))) = true then _ else _) = _;by_cases hs : al x.Rows[i] = true ∧ av x.Rows[i] = (v : Int)
  ·obtain ⟨ha, hv'⟩ := hs;obtain ⟨k, hk, e1, e2, e3, e4, e5⟩ := row_al vs hr ha;have hkv : k = v := by omega
   subst hkv;simp only [ha, hv', Bool.not_true, bne_self_eq_false, Bool.or_self, Bool.false_eq_true, if_false, at_lt hk, Option.bind_some, e2];by_cases hc : cf x.Rows[i] > 0
   ·simp only [hc, if_true];rw [ceil_eq hc e5 ⟨f3, f4⟩];have hlm : w (0 - fl x.Rows[i].Const (cf x.Rows[i])) = loM x.Rows[i] := rfl;have hH : upH k i b.2 x.Rows[i] = b.2 := by simp [upH, hc]
    have hL : upL k i b.1 x.Rows[i] = if ((!b.1.known) || (decide (loM x.Rows[i] > b.1.n))) = true then ⟨true, loM x.Rows[i], i⟩ else b.1 := by simp only [upL, ha, hv', hc, and_self, if_true]
    rw [hH, hL, hlm];simp only [Option.bind_some];rw [wn (by omega)];by_cases c2 : ((!b.1.known) || (decide (loM x.Rows[i] > b.1.n))) = true
    ·simp only [c2, if_true]
    ·have k1 : b.1.known = true := by
      simp only [Bool.or_eq_true, not_or, Bool.not_eq_true', Bool.not_eq_false] at c2;exact c2.1
     simp only [if_neg c2];rw [k1]
   ·simp only [hc, if_false];have hq : w (0 - cf x.Rows[i]) = -cf x.Rows[i] := by rw [w_id (by omega) (by omega)]; omega
    rw [refFloor_eq (by rw [hq]; omega) ⟨f3, f4⟩];have hlm : fl x.Rows[i].Const (w (0 - cf x.Rows[i])) = hiM x.Rows[i] := rfl;have hL : upL k i b.1 x.Rows[i] = b.1 := by simp [upL, hc]
    have hH : upH k i b.2 x.Rows[i] = if ((!b.2.known) || (decide (hiM x.Rows[i] < b.2.n))) = true then ⟨true, hiM x.Rows[i], i⟩ else b.2 := by simp only [upH, ha, hv', hc, not_false_eq_true, and_self, if_true]
    rw [hH, hL, hlm];simp only [Option.bind_some];rw [wn (by omega)];by_cases c2 : ((!b.2.known) || (decide (hiM x.Rows[i] < b.2.n))) = true
    ·simp only [c2, if_true]
    ·have k1 : b.2.known = true := by
      simp only [Bool.or_eq_true, not_or, Bool.not_eq_true', Bool.not_eq_false] at c2;exact c2.1
     simp only [if_neg c2];rw [k1]
  ·have c0 : ((!al x.Rows[i]) || (av x.Rows[i] != (v : Int))) = true := by
    cases h1 : al x.Rows[i]
    ·rfl
    ·have : av x.Rows[i] ≠ (v : Int) := fun h => hs ⟨h1, h⟩
     simp [this]
   have hL : upL v i b.1 x.Rows[i] = b.1 := by
    have : ¬ (al x.Rows[i] = true ∧ av x.Rows[i] = (v : Int) ∧ cf x.Rows[i] > 0) := fun h => hs ⟨h.1, h.2.1⟩
    simp only [upL, this, if_false]
   have hH : upH v i b.2 x.Rows[i] = b.2 := by
    have : ¬ (al x.Rows[i] = true ∧ av x.Rows[i] = (v : Int) ∧ ¬ cf x.Rows[i] > 0) := fun h => hs ⟨h.1, h.2.1⟩
    simp only [upH, this, if_false]
   simp only [c0, if_true, hL, hH];rw [wn (by omega)]
 ·intro b _; simp only [ref27_Box.s2, not_lt_len, if_false]
def bxF (i : Nat) (b : List api_Hull) (s : depend_side × depend_side) : Sum (List api_Hull × Int) (List api_Hull) := if kn s = true then .inr (b ++ [hul s]) else .inl ([], 21)
theorem scan_bx : ∀ (l : List (depend_side × depend_side)) (i : Nat) (b : List api_Hull), scanE bxF i l b = if l.all kn = true then .inr (b ++ l.map hul) else .inl ([], 21)
 | [], i, b => by simp [scanE]
 | s :: l, i, b => by
  simp only [scanE, bxF, List.all_cons];by_cases e : kn s = true
  ·simp only [e, if_true, Bool.true_and];rw [scan_bx l (i + 1)];simp
  ·have e' : kn s = false := by simpa using e
   simp only [e', Bool.false_eq_true, if_false, Bool.false_and]
def bxR (x : api_LinSystem) : List api_Hull × Int := if ¬ (csR x).2 = 0 then ([], (csR x).2) else if (bx x x.Vars.toNat).all kn = true then ((bx x x.Vars.toNat).map hul, 0) else ([], 21)
theorem refBox_eq {x : api_LinSystem} (S : Small x) : ref27_Box x = some (bxR x) := by
 unfold ref27_Box bxR;rw [refSystemErr_eq S];simp only [Option.bind_some];by_cases e : (csR x).2 = 0
 ·have vs := csR_ok e;have hv1 := vs.v1;have hv8 := vs.v8;have hn : x.Vars = ((x.Vars.toNat : Nat) : Int) := by omega
  simp only [e, not_true, if_false];generalize hm : x.Vars.toNat = n at hn ⊢;have hl : (bx x n).length = n := by simp [bx]
  rw [loop_scan (step := ref27_Box.s1 x) (bx x n) (fun i b => (i, b)) (fun r => .inr r) (fun b => .inl b) bxF (fun i b => b.length ≤ i) (a := []) rfl ?_ ?_ (by simp) (by omega)]
  ·rw [scan_bx];by_cases ek : (bx x n).all kn = true
   ·simp only [ek, if_true, Option.bind_some, List.nil_append]
   ·simp only [ek, if_false, Option.bind_some, Bool.false_eq_true]
  ·intro i hi b hb;have hin : i < n := by omega
   have hlt : ((i : Int) < x.Vars) = True := eq_true (by omega);have hbx : (bx x n)[i] = (bL x.Rows i, bH x.Rows i) := by simp [bx]
   constructor
   ·simp only [ref27_Box.s1, hlt, if_true];rw [refSide_eq vs hn hin, hbx];simp only [Option.bind_some, bxF, kn, hul];by_cases k1 : ((bL x.Rows i).known && (bH x.Rows i).known) = true
    ·have k2 : ((!(bL x.Rows i).known) || (!(bH x.Rows i).known)) = false := by
      rw [← Bool.not_and, k1]; rfl
     simp only [k1, k2, Bool.false_eq_true, if_false, if_true];rw [app_one (by omega), wn (by omega)];rfl
    ·have k1' : ((bL x.Rows i).known && (bH x.Rows i).known) = false := by rw [Bool.eq_false_iff]; exact k1
     have k2 : ((!(bL x.Rows i).known) || (!(bH x.Rows i).known)) = true := by
      rw [← Bool.not_and, k1']; rfl
     simp only [k1', k2, if_true, if_false, Bool.false_eq_true]
   ·intro b' h';unfold bxF at h';split at h'
    ·cases h'; simp; omega
    ·cases h'
  ·intro b _;have hlt : (((bx x n).length : Int) < x.Vars) = False := eq_false (by omega);simp only [ref27_Box.s1, hlt, if_false]
 ·simp only [e, not_false_eq_true, if_true]
end Go.Sh
namespace Go.Sh
open Go.Lx
set_option linter.unusedVariables false
set_option linter.unusedSimpArgs false
set_option linter.deprecated false
theorem openC_eq {p : List depend_side} (h : p.length < 16777216) : slices_ContainsFunc_depend_side__depend_openBox_c1 p = some (p.any fun s => !s.known) := by
 unfold slices_ContainsFunc_depend_side__depend_openBox_c1 slices_IndexFunc_depend_side__depend_openBox_c1;obtain ⟨k, hk⟩ := loop_any (step := slices_IndexFunc_depend_side__depend_openBox_c1.s1 p) p (fun s => !s.known) (fun i => Sum.inr i) (Sum.inl ()) (s := 0) rfl (fun i hi => by
  simp only [slices_IndexFunc_depend_side__depend_openBox_c1.s1, lt_len hi, if_true, at_lt hi, Option.bind_some, depend_openBox_c1];by_cases e : (!p[i].known) = true
  ·simp only [e, if_true]
  ·simp only [e, if_false, Bool.false_eq_true]; rw [wn (by omega)]) (by simp only [slices_IndexFunc_depend_side__depend_openBox_c1.s1, not_lt_len, if_false]) (by omega)
 rw [hk];by_cases e : p.any (fun s => !s.known) = true
 ·simp only [e, if_true, Option.bind_some];have : (k : Int) ≥ 0 := by omega
  simp [this]
 ·simp only [e, if_false, Option.bind_some, Bool.false_eq_true];simp at e ⊢
def boxO (x : api_LinSystem) : depend_box := ⟨(List.range x.Vars.toNat).map (bL x.Rows), (List.range x.Vars.toNat).map (bH x.Rows)⟩
theorem any_kn (x : api_LinSystem) (n : Nat) : (((List.range n).map (bL x.Rows)).any (fun s => !s.known) || ((List.range n).map (bH x.Rows)).any (fun s => !s.known)) = !(bx x n).all kn := by
 unfold bx
 induction List.range n with
 | nil => rfl
 | cons v l ih =>
  simp only [List.map_cons, List.any_cons, List.all_cons, Bool.not_and] at ih ⊢;rw [← ih];simp only [kn];cases (bL x.Rows v).known <;> cases (bH x.Rows v).known <;> simp
theorem openBox_eq {x : api_LinSystem} (S : Small x) : depend_openBox x = some (if ¬ (csR x).2 = 0 then (⟨[], []⟩, (csR x).2) else (boxO x, if (bx x x.Vars.toNat).all kn = true then 0 else 21)) := by
 unfold depend_openBox;rw [systemErr_eq S];simp only [Option.bind_some];by_cases e : (csR x).2 = 0
 ·have vs := csR_ok e;have hv1 := vs.v1;have hv8 := vs.v8;simp only [e, not_true, if_false];rw [boxOf_eq vs (n := x.Vars.toNat) (by omega)];simp only [Option.bind_some];rw [openC_eq (by simp; omega)];simp only [Option.bind_some];have hk := any_kn x x.Vars.toNat;by_cases e1 : ((List.range x.Vars.toNat).map (bL x.Rows)).any (fun s => !s.known) = true
  ·rw [e1, Bool.true_or] at hk;have hk' : (bx x x.Vars.toNat).all kn = false := by rw [← Bool.not_eq_true']; exact hk.symm
   simp only [e1, hk', not_true, if_false, Bool.false_eq_true];rw [broken1];rfl
  ·have e1' : ((List.range x.Vars.toNat).map (bL x.Rows)).any (fun s => !s.known) = false := by rw [Bool.eq_false_iff]; exact e1
   rw [e1', Bool.false_or] at hk;simp only [e1', Bool.false_eq_true, not_false_eq_true, if_true];rw [openC_eq (by simp; omega)];simp only [Option.bind_some];rw [broken1, hk, Bool.not_not];rfl
 ·simp only [e, not_false_eq_true, if_true]
theorem boxOfR_eq {x : api_LinSystem} (S : Small x) : depend_BoxOf x = some (bxR x) := by
 unfold depend_BoxOf bxR;rw [openBox_eq S];simp only [Option.bind_some];by_cases e : (csR x).2 = 0
 ·have vs := csR_ok e;have hv1 := vs.v1;have hv8 := vs.v8;simp only [e, not_true, if_false];by_cases ek : (bx x x.Vars.toNat).all kn = true
  ·simp only [ek, if_true, not_true, if_false];have hl : (bx x x.Vars.toNat).length = x.Vars.toNat := by simp [bx]
   rw [loop_map (step := depend_BoxOf.s1 x (boxO x, 0)) (bx x x.Vars.toNat) hul (fun i b => (i, b)) (fun b => b) rfl ?_ ?_ (by omega)]
   ·rfl
   ·intro i hi b hb;have hlt : ((i : Int) < x.Vars) = True := eq_true (by omega);have h1 : i < (boxO x).low.length := by simp [boxO]; omega
    have h2 : i < (boxO x).high.length := by simp [boxO]; omega
    simp only [depend_BoxOf.s1, hlt, if_true, at_lt h1, at_lt h2, Option.bind_some];rw [app_one (by omega), wn (by omega)];simp only [Option.bind_some]
    congr 4
    simp [boxO, bx, hul]
   ·intro b;have hlt : (((bx x x.Vars.toNat).length : Int) < x.Vars) = False := eq_false (by omega);simp only [depend_BoxOf.s1, hlt, if_false]
  ·have e21 : ¬ (21 : Int) = 0 := by omega
   simp only [ek, if_false, Bool.false_eq_true, e21, not_false_eq_true, if_true]
 ·simp only [e, not_false_eq_true, if_true]
def emH (h : api_Hull) : Bool := decide (h.Low > h.High)
theorem empty_eq {l : List (depend_side × depend_side)} (hn : l.length < 16777216) : ∃ k : Int, depend_box_empty ⟨l.map (·.1), l.map (·.2)⟩ = some (k, (l.map hul).any emH) := by
 unfold depend_box_empty;obtain ⟨k, hk⟩ := loop_any (τ := Sum Unit (Int × Bool)) (step := depend_box_empty.s1 ⟨l.map (·.1), l.map (·.2)⟩) l (fun s => emH (hul s)) (fun i => Sum.inr (i, true)) (Sum.inl ()) (s := 0) rfl (fun i hi => by
  have h1 : i < (l.map (·.1)).length := by simpa using hi
  have h2 : i < (l.map (·.2)).length := by simpa using hi
  have hlt : ((i : Int) < ((l.map (·.1)).length : Int)) = True := eq_true (by omega);simp only [depend_box_empty.s1, hlt, if_true, at_lt h1, at_lt h2, Option.bind_some, List.getElem_map, emH, hul];by_cases e : l[i].1.n > l[i].2.n
  ·simp only [e, decide_true, if_true]
  ·simp only [e, decide_false, if_false, Bool.false_eq_true]; rw [wn (by omega)]) (by
   have hlt : ((l.length : Int) < ((l.map (·.1)).length : Int)) = False := eq_false (by simp);simp only [depend_box_empty.s1, hlt, if_false]) (by omega)
 rw [hk, List.any_map];by_cases e : l.any (fun s => emH (hul s)) = true
 ·have e' : l.any (emH ∘ hul) = true := e;exact ⟨k, by simp only [e, e', if_true, Option.bind_some]⟩
 ·have e0 : l.any (fun s => emH (hul s)) = false := by rw [Bool.eq_false_iff]; exact e
  have e' : l.any (emH ∘ hul) = false := e0;exact ⟨0, by simp only [e0, e', if_false, Option.bind_some, Bool.false_eq_true]⟩
theorem isEmpty_eq {l : List api_Hull} (hn : l.length < 16777216) : ref27_IsEmpty l = some (l.any emH) := by
 unfold ref27_IsEmpty;rw [loop_find (step := ref27_IsEmpty.s1 l) l (fun h => if emH h = true then some true else none) (fun r => .inr r) (.inl ()) rfl ?_ ?_ (by omega), findSome_const]
 ·by_cases e : l.any emH = true
  ·simp only [e, if_true, Option.bind_some]
  ·have e' : l.any emH = false := by rw [Bool.eq_false_iff]; exact e
   simp only [e', if_false, Option.bind_some, Bool.false_eq_true]
 ·intro i hi;simp only [ref27_IsEmpty.s1, lt_len hi, if_true, at_lt hi, Option.bind_some, emH];by_cases e : l[i].Low > l[i].High
  ·simp only [e, decide_true, if_true]
  ·simp only [e, decide_false, if_false, Bool.false_eq_true]; rw [wn (by omega)]
 ·simp only [ref27_IsEmpty.s1, not_lt_len, if_false]
theorem ends_eq {l : List (depend_side × depend_side)} {r : api_LinRow} (h : r.Coefs.length ≤ l.length) (hn : l.length < 16777216) :
  depend_box_ends ⟨l.map (·.1), l.map (·.2)⟩ r = some (lo ⟨r.Coefs, r.Const⟩ (l.map hul), hi ⟨r.Coefs, r.Const⟩ (l.map hul)) := by
 unfold depend_box_ends lo hi;have hz : (r.Coefs.zip (l.map hul)).length = r.Coefs.length := by simp; omega
 rw [loop_fold (step := depend_box_ends.s1 ⟨l.map (·.1), l.map (·.2)⟩ r) (r.Coefs.zip (l.map hul)) (fun i (b : Int × Int) => (b.1, b.2, i)) (fun b => (b.1, b.2)) (fun b t => (w (b.1 + mn (w (t.1 * t.2.Low)) (w (t.1 * t.2.High))), w (b.2 + mx (w (t.1 * t.2.Low)) (w (t.1 * t.2.High))))) (fun _ _ => True) (a := (r.Const, r.Const)) rfl ?_ ?_ trivial (by omega)]
 ·have key : ∀ (T : List (Int × api_Hull)) (a b : Int), T.foldl (fun (b : Int × Int) t => (w (b.1 + mn (w (t.1 * t.2.Low)) (w (t.1 * t.2.High))), w (b.2 + mx (w (t.1 * t.2.Low)) (w (t.1 * t.2.High))))) (a, b) =
    (T.foldl (fun b t => w (b + mn (w (t.1 * t.2.Low)) (w (t.1 * t.2.High)))) a, T.foldl (fun b t => w (b + mx (w (t.1 * t.2.Low)) (w (t.1 * t.2.High)))) b) := by
   intro T
   induction T with
   | nil => intros; rfl
   | cons t T ih => intro a b; simp only [List.foldl_cons]; exact ih _ _
  rw [key];rfl
 ·intro i hi b _;refine ⟨?_, trivial⟩;rw [hz] at hi;have h2 : i < (l.map hul).length := by simp; omega
  have h3 : i < (l.map (·.1)).length := by simp; omega
  have h4 : i < (l.map (·.2)).length := by simp; omega
  simp only [depend_box_ends.s1, lt_len hi, if_true, at_lt hi, at_lt h3, at_lt h4, Option.bind_some, List.getElem_zip, List.getElem_map, hul];rw [wn (by omega)]
 ·intro b _; rw [hz]; simp only [depend_box_ends.s1, not_lt_len, if_false]
theorem boxO_eq (x : api_LinSystem) : boxO x = ⟨(bx x x.Vars.toNat).map (·.1), (bx x x.Vars.toNat).map (·.2)⟩ := by
 simp [boxO, bx]
def raR (x : api_LinSystem) (row : Int) : api_Hull × Int :=
 if ¬ (bxR x).2 = 0 then (⟨0, 0⟩, (bxR x).2) else if depend_inside row 0 (w ((x.Rows.length : Int) - 1)) = true then
  (if (bxR x).1.any emH = true then (⟨0, 0⟩, 17) else match at_ x.Rows row with | some r => (⟨lo ⟨r.Coefs, r.Const⟩ (bxR x).1, hi ⟨r.Coefs, r.Const⟩ (bxR x).1⟩, 0) | none => (⟨0, 0⟩, 0)) else (⟨0, 0⟩, 6)
theorem row_in {x : api_LinSystem} (vs : VS x) {row : Int} (h : depend_inside row 0 (w ((x.Rows.length : Int) - 1)) = true) : ∃ (k : Nat) (hk : k < x.Rows.length), row = k := by
 have := vs.n;rw [w_id (by omega) (by omega)] at h;unfold depend_inside at h;simp only [Bool.and_eq_true, decide_eq_true_eq] at h;exact ⟨row.toNat, by omega, by omega⟩
theorem rangeOf_eq {x : api_LinSystem} (S : Small x) (row : Int) : depend_RangeOf x row = some (raR x row) := by
 unfold depend_RangeOf;rw [openBox_eq S, broken1];simp only [Option.bind_some, cmpOr2];by_cases e : (csR x).2 = 0
 ·have vs := csR_ok e;have hv1 := vs.v1;have hv8 := vs.v8;have hl : (bx x x.Vars.toNat).length = x.Vars.toNat := by simp [bx]
  by_cases ek : (bx x x.Vars.toNat).all kn = true
  ·have hb : bxR x = ((bx x x.Vars.toNat).map hul, 0) := by simp only [bxR, e, ek, not_true, if_false, if_true]
   simp only [e, not_true, if_false, ek, if_true, raR, hb];by_cases hr : depend_inside row 0 (w ((x.Rows.length : Int) - 1)) = true
   ·obtain ⟨k, hk, rfl⟩ := row_in vs hr;simp only [hr, if_true, not_true, if_false];obtain ⟨q, hq⟩ := empty_eq (l := bx x x.Vars.toNat) (by omega);rw [boxO_eq, hq];simp only [Option.bind_some];by_cases hem : ((bx x x.Vars.toNat).map hul).any emH = true
    ·simp only [hem, if_true]
    ·simp only [hem, if_false, Bool.false_eq_true, at_lt hk, Option.bind_some];rw [ends_eq (by have := (vs.f _ (List.getElem_mem hk)).1; omega) (by omega)];rfl
   ·have e6 : ¬ (6 : Int) = 0 := by omega
    simp only [hr, if_false, Bool.false_eq_true, e6, not_false_eq_true, if_true]
  ·have hb : bxR x = ([], 21) := by simp only [bxR, e, ek, not_true, if_false, Bool.false_eq_true]
   have e21 : ¬ (21 : Int) = 0 := by omega
   simp only [e, not_true, if_false, ek, raR, hb, Bool.false_eq_true, e21, not_false_eq_true, if_true]
 ·have hb : bxR x = ([], (csR x).2) := by simp only [bxR, e, not_false_eq_true, if_true]
  simp only [e, not_false_eq_true, if_true, raR, hb, if_false]
end Go.Sh
namespace Go.Sh
open Go.Lx
set_option linter.unusedVariables false
set_option linter.unusedSimpArgs false
set_option linter.deprecated false
theorem gcd_step (a b : Nat) : Nat.gcd b (a % b) = Nat.gcd a b := by
 rw [Nat.gcd_comm a b, Nat.gcd_rec b a, Nat.gcd_comm]
theorem tmod_nat (a b : Nat) : ((a : Int).tmod (b : Int)) = ((a % b : Nat) : Int) := rfl
theorem euclid (a b : Nat) (hb : b ≤ 1000000) : loopO depend_divisor.s2 ((a : Int), (b : Int)) = some ((Nat.gcd a b : Nat) : Int) := by
 obtain ⟨r, h1, h2⟩ := loopO_inv (step := depend_divisor.s2) (fun x => ∃ i j : Nat, x = ((i : Int), (j : Int)) ∧ Nat.gcd i j = Nat.gcd a b) (fun x => x.2.toNat) (fun r => r = ((Nat.gcd a b : Nat) : Int))
  (fun x hx => by
   obtain ⟨i, j, rfl, h⟩ := hx;by_cases e : j = 0
   ·subst e;refine .inr ⟨(i : Int), ?_, ?_⟩
    ·simp [depend_divisor.s2]
    ·rw [← h, Nat.gcd_zero_right]
   ·refine .inl ⟨((j : Int), ((i % j : Nat) : Int)), ?_, ⟨j, i % j, rfl, by rw [gcd_step, h]⟩, ?_⟩
    ·have e' : ¬ (j : Int) = 0 := by omega
     simp only [depend_divisor.s2, e', if_false, rem, tmod_nat, Option.bind_some]
    ·have := Nat.mod_lt i (show 0 < j by omega)
     show ((i % j : Nat) : Int).toNat < (j : Int).toNat
     omega)
  (x := ((a : Int), (b : Int))) ⟨a, b, rfl, rfl⟩ (by show ((b : Int)).toNat < FUEL; unfold FUEL; omega)
 rw [h1, h2]
theorem size_eq {p : Int} (h : p.natAbs ≤ 1000000) : base_Size p = (p.natAbs : Int) := by
 unfold base_Size;by_cases e : p < 0
 ·rw [if_pos e, w_id (by omega) (by omega)]; omega
 ·rw [if_neg e]; omega
theorem gcdN : ∀ (n : Nat) (a b : Int), b.natAbs < n → a.natAbs ≤ 1000000 → b.natAbs ≤ 1000000 → base_Gcd.N n a b = some ((Nat.gcd a.natAbs b.natAbs : Nat) : Int)
 | 0, a, b, h, _, _ => by omega
 | n + 1, a, b, h, ha, hb => by
  show base_Gcd.F (base_Gcd.N n) a b = _
  unfold base_Gcd.F;rw [size_eq ha, size_eq hb];generalize a.natAbs = i at ha ⊢;generalize b.natAbs = j at h hb ⊢;by_cases e : (((i : Int) == 0) || ((j : Int) == 0)) = true
  ·rw [if_pos e, w_id (by omega) (by omega)];simp only [Bool.or_eq_true, beq_iff_eq] at e
   congr 1
   rcases e with e | e
   ·have : i = 0 := by omega
    subst this; simp
   ·have : j = 0 := by omega
    subst this; simp
  ·rw [if_neg e];simp only [Bool.or_eq_true, beq_iff_eq, not_or] at e;have e' : ¬ (j : Int) = 0 := e.2;have hlt := Nat.mod_lt i (show 0 < j by omega);simp only [rem, e', if_false, tmod_nat, Option.bind_some];rw [gcdN n _ _ (by simp only [Int.natAbs_natCast]; omega) (by simp only [Int.natAbs_natCast]; omega) (by simp only [Int.natAbs_natCast]; omega)];simp only [Int.natAbs_natCast, Option.bind_some, gcd_step]
theorem gcd_eq {a b : Int} (ha : a.natAbs ≤ 1000000) (hb : b.natAbs ≤ 1000000) : base_Gcd a b = some ((Nat.gcd a.natAbs b.natAbs : Nat) : Int) := by
 show base_Gcd.N FUEL a b = _
 exact gcdN _ _ _ (by unfold FUEL; omega) ha hb
def dv (r : api_LinRow) : Nat := r.Coefs.foldl (fun g c => Nat.gcd g c.natAbs) 0
theorem gcd_le {g c : Nat} (hg : g ≤ 1000) (hc : c ≤ 1000) : Nat.gcd g c ≤ 1000 := by
 by_cases e : g = 0
 ·subst e; simpa using hc
 ·have := Nat.gcd_le_left c (show 0 < g by omega); omega
theorem divisor_eq {r : api_LinRow} (hn : r.Coefs.length < 16777216) (h : ∀ c, c ∈ r.Coefs → -1000 ≤ c ∧ c ≤ 1000) : depend_divisor r = some (dv r : Int) := by
 unfold depend_divisor dv;rw [loop_fold (step := depend_divisor.s1 r) r.Coefs (fun i (g : Nat) => ((g : Int), i)) (fun g => (g : Int)) (fun g c => Nat.gcd g c.natAbs) (fun _ g => g ≤ 1000) (a := 0) (s := (0, 0)) rfl ?_ ?_ (by omega) (by omega)]
 ·rfl
 ·intro i hi g hg;have hc := h _ (List.getElem_mem hi);have hc2 : r.Coefs[i].natAbs ≤ 1000 := by omega
  refine ⟨?_, gcd_le hg hc2⟩;have e : mx r.Coefs[i] (w (0 - r.Coefs[i])) = (r.Coefs[i].natAbs : Int) := by
   rw [w_id (by omega) (by omega)];unfold mx;split <;> omega
  simp only [depend_divisor.s1, lt_len hi, if_true, at_lt hi, Option.bind_some, e];rw [euclid _ _ (by omega)];simp only [Option.bind_some];rw [wn (by omega)]
 ·intro g _; simp only [depend_divisor.s1, not_lt_len, if_false]
def gf (r : api_LinRow) : Bool := r.Equal && ((((dv r : Int) == 0) && (r.Const != 0)) || ((!((dv r : Int) == 0)) && (r.Const.tmod (dv r : Int) != 0)))
theorem gcdFails_eq {r : api_LinRow} (hn : r.Coefs.length < 16777216) (h : ∀ c, c ∈ r.Coefs → -1000 ≤ c ∧ c ≤ 1000) : depend_gcdFails r = some (gf r) := by
 unfold depend_gcdFails gf;rw [divisor_eq hn h];simp only [Option.bind_some];generalize dv r = g;cases r.Equal
 ·simp
 ·simp only [if_true, Bool.true_and];by_cases e : (g : Int) = 0
  ·have e2 : ¬ (g : Int) > 0 := by omega
   by_cases e3 : r.Const = 0
   ·simp [e, e3]
   ·simp [e, e3]
  ·have e2 : (g : Int) > 0 := by omega
   have e3 : ((g : Int) == 0) = false := by simpa using e
   simp only [e3, Bool.false_and, Bool.false_eq_true, if_false, e2, if_true, rem, e, Option.bind_some, Bool.not_false, Bool.true_and, Bool.false_or]
def ixF (i : Nat) (b : Unit) (r : api_LinRow) : Sum Nat Unit := if gf r = true then .inl i else .inr b
def ixR (x : api_LinSystem) : Int := match scanE ixF 0 x.Rows () with | .inl k => (k : Int) | .inr _ => -1
theorem index_eq {x : api_LinSystem} (vs : VS x) : slices_IndexFunc_api_LinRow__depend_gcdFails x.Rows = some (ixR x) := by
 have hn := vs.n;have hv := vs.v8;unfold slices_IndexFunc_api_LinRow__depend_gcdFails ixR;rw [loop_scan (step := slices_IndexFunc_api_LinRow__depend_gcdFails.s1 x.Rows) x.Rows (fun i (_ : Unit) => i) (fun k : Nat => .inr (k : Int)) (fun _ => .inl ()) ixF (fun _ _ => True) (a := ()) rfl ?_ ?_ trivial (by omega)]
 ·cases scanE ixF 0 x.Rows () <;> rfl
 ·intro i hi b _;refine ⟨?_, fun _ _ => trivial⟩;obtain ⟨f1, f2, f3⟩ := vs.f _ (List.getElem_mem hi);simp only [slices_IndexFunc_api_LinRow__depend_gcdFails.s1, lt_len hi, if_true, at_lt hi, Option.bind_some];rw [gcdFails_eq (by omega) f2];simp only [Option.bind_some, ixF];by_cases e : gf x.Rows[i] = true
  ·simp only [e, if_true]
  ·simp only [e, if_false, Bool.false_eq_true]; rw [wn (by omega)]
 ·intro b _; simp only [slices_IndexFunc_api_LinRow__depend_gcdFails.s1, not_lt_len, if_false]
theorem refIndex_eq {x : api_LinSystem} (vs : VS x) : ref27_GcdFails x = some (ixR x) := by
 have hn := vs.n;have hv := vs.v8;unfold ref27_GcdFails ixR;rw [loop_scan (step := ref27_GcdFails.s1 x) x.Rows (fun i (_ : Unit) => i) (fun k : Nat => .inr (k : Int)) (fun _ => .inl ()) ixF (fun _ _ => True) (a := ()) rfl ?_ ?_ trivial (by omega)]
 ·cases scanE ixF 0 x.Rows () <;> rfl
 ·intro i hi b _;refine ⟨?_, fun _ _ => trivial⟩;obtain ⟨f1, f2, f3⟩ := vs.f _ (List.getElem_mem hi);have hd : loopO (ref27_GcdFails.s2 x i) (0, 0) = some (dv x.Rows[i] : Int) := by
   unfold dv;rw [loop_fold (step := ref27_GcdFails.s2 x i) x.Rows[i].Coefs (fun k (g : Nat) => ((g : Int), k)) (fun g => (g : Int)) (fun g c => Nat.gcd g c.natAbs) (fun _ g => g ≤ 1000) (a := 0) (s := (0, 0)) rfl ?_ ?_ (by omega) (by omega)]
   ·intro k hk g hg;have hc := f2 _ (List.getElem_mem hk);have hc2 : x.Rows[i].Coefs[k].natAbs ≤ 1000 := by omega
    refine ⟨?_, gcd_le hg hc2⟩;have hlt : ((k : Int) < x.Vars) = True := eq_true (by omega);simp only [ref27_GcdFails.s2, hlt, if_true, at_lt hi, at_lt hk, Option.bind_some];rw [gcd_eq (by simp only [Int.natAbs_natCast]; omega) (by omega)];simp only [Option.bind_some, Int.natAbs_natCast];rw [wn (by omega)]
   ·intro g _;have hlt : ((x.Rows[i].Coefs.length : Int) < x.Vars) = False := eq_false (by omega);simp only [ref27_GcdFails.s2, hlt, if_false]
  simp only [ref27_GcdFails.s1, lt_len hi, if_true, hd, at_lt hi, Option.bind_some, ixF, gf];by_cases hE : x.Rows[i].Equal = true
  case neg =>
   have hE' : x.Rows[i].Equal = false := by simpa using hE
   simp only [hE', Bool.false_eq_true, if_false, Bool.false_and]; rw [wn (by omega)]
  ·simp only [hE, if_true, Bool.true_and];by_cases e : (dv x.Rows[i] : Int) = 0
   ·simp only [e, beq_self_eq_true, Bool.true_and, Bool.not_true, Bool.false_and, Bool.or_false, not_true, if_false];by_cases e3 : (x.Rows[i].Const != 0) = true
    ·simp only [e3, if_true]
    ·simp only [e3, if_false, Bool.false_eq_true]; rw [wn (by omega)]
   ·have e3 : ((dv x.Rows[i] : Int) == 0) = false := by simpa using e
    simp only [e3, Bool.false_and, Bool.false_eq_true, if_false, e, not_false_eq_true, if_true, rem, Option.bind_some, Bool.not_false, Bool.true_and, Bool.false_or];by_cases e4 : x.Rows[i].Const.tmod (dv x.Rows[i] : Int) = 0
    ·simp only [e4, not_true, if_false, bne_self_eq_false, Bool.false_eq_true]; rw [wn (by omega)]
    ·have e5 : (x.Rows[i].Const.tmod (dv x.Rows[i] : Int) != 0) = true := by simpa using e4
     simp only [e4, e5, not_false_eq_true, if_true]
 ·intro b _; simp only [ref27_GcdFails.s1, not_lt_len, if_false]
def gcR (x : api_LinSystem) : Int × Int := if ¬ (csR x).2 = 0 then (0, (csR x).2) else (mx 0 (ixR x), if decide (ixR x ≥ 0) = true then 0 else 12)
theorem gcdFailsOf_eq {x : api_LinSystem} (S : Small x) : depend_GcdFails x = some (gcR x) := by
 unfold depend_GcdFails gcR;rw [systemErr_eq S];simp only [Option.bind_some];by_cases e : (csR x).2 = 0
 ·simp only [e, not_true, if_false];rw [index_eq (csR_ok e)];simp only [Option.bind_some];rw [broken1];rfl
 ·simp only [e, not_false_eq_true, if_true]
theorem ixR_ge (x : api_LinSystem) : ixR x = -1 ∨ 0 ≤ ixR x := by
 unfold ixR;split
 ·exact .inr (by omega)
 ·exact .inl rfl
theorem j3_true {x : api_LinSystem} {pt : List Int} (hp : pt.length < 16777216) : law27_DependRows.j3 x pt (hoR x pt) (gcR x) (csR x) () = some true := by
 unfold law27_DependRows.j3;by_cases e : (csR x).2 = 0
 ·have vs := csR_ok e;have hn := vs.n;simp only [e, not_true, if_false];rw [refIndex_eq vs];simp only [Option.bind_some];have hc : (((decide (ixR x < 0)) && (((gcR x).2 != 12) || ((gcR x).1 != 0))) || ((decide (ixR x ≥ 0)) && (((gcR x).2 != 0) || ((gcR x).1 != ixR x)))) = false := by
   simp only [gcR, e, not_true, if_false];rcases ixR_ge x with h | h
   ·rw [h]; rfl
   ·have h1 : ¬ ixR x < 0 := by omega
    have h2 : ixR x ≥ 0 := h;have h3 : mx 0 (ixR x) = ixR x := by unfold mx; split <;> omega
    simp only [h1, h2, h3, decide_true, decide_false, if_true, Bool.false_and, bne_self_eq_false, Bool.or_self, Bool.and_false]
  simp only [hc, Bool.false_eq_true, if_false];by_cases e2 : (pt.length : Int) = x.Vars
  ·simp only [e2, not_true, if_false];rw [loop_find (step := law27_DependRows.s4 pt (hoR x pt)) pt (fun z => if (!depend_inside z (-100000) 100000) = true then some () else none) (fun _ => .inr (((hoR x pt).2 == 2) && (!(hoR x pt).1))) (.inl ()) rfl ?_ ?_ (by omega), findSome_const]
   ·have hod : pt.any (fun z => !depend_inside z (-100000) 100000) = oddP pt := rfl;rw [hod];by_cases e3 : oddP pt = true
    ·have hh : hoR x pt = (false, 2) := by simp only [hoR, e, e2, e3, not_true, if_false, if_true]
     simp only [e3, if_true, Option.bind_some, hh];rfl
    ·have hh : hoR x pt = (!x.Rows.any (badR pt), 0) := by simp only [hoR, e, e2, e3, not_true, if_false, Bool.false_eq_true]
     simp only [e3, if_false, Option.bind_some, Bool.false_eq_true, hh, if_true];rw [solves_eq (by omega) (fun r hr => by have := (vs.f r hr).1; omega) hp];simp only [Option.bind_some, beq_self_eq_true]
   ·intro i hi;simp only [law27_DependRows.s4, lt_len hi, if_true, at_lt hi, Option.bind_some, within_eq];by_cases e5 : depend_inside pt[i] (-100000) 100000 = true
    ·simp only [e5, not_true, if_false, Bool.not_true, Bool.false_eq_true]; rw [wn (by omega)]
    ·have e' : depend_inside pt[i] (-100000) 100000 = false := by simpa using e5
     simp [e']
   ·simp only [law27_DependRows.s4, not_lt_len, if_false]
  ·have hh : hoR x pt = (false, 10) := by simp only [hoR, e, e2, not_true, if_false, not_false_eq_true, if_true]
   simp only [e2, not_false_eq_true, if_true, hh];rfl
 ·have h1 : hoR x pt = (false, (csR x).2) := by simp only [hoR, e, not_false_eq_true, if_true]
  have h2 : gcR x = (0, (csR x).2) := by simp only [gcR, e, not_false_eq_true, if_true]
  simp only [e, not_false_eq_true, if_true, h1, h2, beq_self_eq_true, Bool.not_false, Bool.and_self]
theorem bxR_len (x : api_LinSystem) : (bxR x).1.length ≤ x.Vars.toNat ∧ ((bxR x).2 = 0 → (csR x).2 = 0) := by
 unfold bxR;by_cases e : (csR x).2 = 0
 ·simp only [e, not_true, if_false];split
  ·exact ⟨by simp [bx], fun _ => trivial⟩
  ·exact ⟨by simp, fun _ => trivial⟩
 ·simp only [e, not_false_eq_true, if_true];exact ⟨by simp, fun h => h⟩
theorem bxR_len2 {x : api_LinSystem} (h : (bxR x).2 = 0) : (bxR x).1.length = x.Vars.toNat := by
 have e := (bxR_len x).2 h;unfold bxR at h ⊢;simp only [e, not_true, if_false] at h ⊢;split
 ·simp [bx]
 ·rename_i h1; rw [if_neg h1] at h; cases h
theorem bxR_small (x : api_LinSystem) : (bxR x).1.length < 16777216 := by
 by_cases e : (csR x).2 = 0
 ·have := (csR_ok e).v8;have := (bxR_len x).1;omega
 ·simp [bxR, e]
theorem DependRows_true (x : api_LinSystem) (pt : List Int) (row : Int) : law27_DependRows x pt row = some true := by
 unfold law27_DependRows;rw [awake_eq];simp only [Option.bind_some, not_true, if_false];obtain ⟨r, hr, hf⟩ := small_some x;rw [hr];simp only [Option.bind_some];by_cases hb : ((!r) || (decide ((pt.length : Int) > 10))) = true
 ·rw [if_pos hb]
 rw [if_neg hb];simp only [Bool.or_eq_true, Bool.not_eq_true', decide_eq_true_eq, not_or, Bool.not_eq_false] at hb;obtain ⟨ht, hp⟩ := hb;have S := hf ht;rw [copySystem_eq S];simp only [Option.bind_some];rw [checkSystem_eq S, boxOfR_eq S, copyInts_eq (by omega)];simp only [Option.bind_some];rw [holds_eq S (by omega), rangeOf_eq S, gcdFailsOf_eq S, refCheckSystem_eq S, refBox_eq S];simp only [Option.bind_some, bne_self_eq_false, Bool.or_self, Bool.false_eq_true, if_false, not_true];rw [hulls_self (bxR_small x)];simp only [Option.bind_some, not_true, if_false, within_eq];have J := j3_true (x := x) (pt := pt) (by omega);by_cases e : (bxR x).2 = 0
 ·have ec := (bxR_len x).2 e;have vs := csR_ok ec;have hv8 := vs.v8;by_cases hin : depend_inside row 0 (w ((x.Rows.length : Int) - 1)) = true
  ·obtain ⟨k, hk, rfl⟩ := row_in vs hin;simp only [e, hin, beq_self_eq_true, Bool.not_true, Bool.and_false, Bool.false_eq_true, if_false, law27_DependRows.j1, if_true];rw [isEmpty_eq (bxR_small x)];simp only [Option.bind_some];by_cases hem : (bxR x).1.any emH = true
   ·have hra : raR x k = (⟨0, 0⟩, 17) := by simp only [raR, e, hin, hem, not_true, if_false, if_true]
    have e17 : ¬ (17 : Int) = 0 := by omega
    simp only [hem, if_true, law27_DependRows.j2, hra, e17, not_false_eq_true, not_true, if_false, beq_self_eq_true, Bool.and_self, J]
   ·have hra : raR x k = (⟨lo ⟨x.Rows[k].Coefs, x.Rows[k].Const⟩ (bxR x).1, hi ⟨x.Rows[k].Coefs, x.Rows[k].Const⟩ (bxR x).1⟩, 0) := by simp only [raR, e, hin, hem, at_lt hk, not_true, if_false, if_true, Bool.false_eq_true]
    simp only [hem, if_false, Bool.false_eq_true, law27_DependRows.j2, hra, not_true, at_lt hk, Option.bind_some, if_true, ref27_Range];rw [between_eq (x := ⟨x.Rows[k].Coefs, x.Rows[k].Const⟩) (by have := bxR_len2 e; have := (vs.f _ (List.getElem_mem hk)).1; show x.Rows[k].Coefs.length ≤ _; omega) (bxR_small x)];simp only [Option.bind_some, beq_self_eq_true, Bool.and_self, not_true, if_false, J]
  ·have hin' : depend_inside row 0 (w ((x.Rows.length : Int) - 1)) = false := by rw [Bool.eq_false_iff]; exact hin
   have hra : raR x row = (⟨0, 0⟩, 6) := by simp only [raR, e, hin', not_true, if_false, Bool.false_eq_true]
   have e6 : ¬ (6 : Int) = 0 := by omega
   simp only [e, hin', beq_self_eq_true, Bool.not_false, Bool.and_self, if_true, law27_DependRows.j1, e6, if_false, law27_DependRows.j2, not_false_eq_true, hra, not_true, J]
 ·have e' : ((bxR x).2 == 0) = false := by simpa using e
  have hra : raR x row = (⟨0, 0⟩, (bxR x).2) := by simp only [raR, e, not_false_eq_true, if_true]
  simp only [e', Bool.false_and, Bool.false_eq_true, if_false, law27_DependRows.j1, e, law27_DependRows.j2, not_false_eq_true, if_true, hra, not_true, beq_self_eq_true, Bool.and_self, J]
end Go.Sh
