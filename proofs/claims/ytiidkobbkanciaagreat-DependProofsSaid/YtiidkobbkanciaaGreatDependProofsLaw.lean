/- What the functions compute answers as the statement says. -/
import Derived.Test.YtiidkobbkanciaaGreatDependProofsSh
set_option linter.all false
namespace Go.Sh
open Go.Lx
set_option linter.unusedVariables false
set_option linter.unusedSimpArgs false
theorem awake_eq : law27_awake = some true := by decide +kernel
theorem lt_len {i n : Nat} (h : i < n) : ((i : Int) < (n : Int)) = True := eq_true (by omega)
theorem not_lt_len (n : Nat) : ((n : Int) < (n : Int)) = False := eq_false (by omega)
theorem copyInts_eq {p : List Int} (h : p.length ≤ 16777216) : base_CopyInts p = some p := by
 unfold base_CopyInts; rw [mkSl_len h]; simp [copied_all]
theorem findSome_const {α ρ : Type} {p : α → Bool} {c : ρ} : ∀ xs : List α, xs.findSome? (fun x => if p x = true then some c else none) = if xs.any p = true then some c else none
 | [] => rfl
 | x :: xs => by
  simp only [List.findSome?_cons, List.any_cons];by_cases e : p x = true
  ·simp [e]
  ·simp only [e, if_false, Bool.false_or]; exact findSome_const xs
theorem cmpOr2 (a b : Int) : cmp_Or_api_Errno [a, b] = some (if a = 0 then b else a) := by
 unfold cmp_Or_api_Errno;rw [loop_find (step := cmp_Or_api_Errno.s1 [a, b]) [a, b] (fun x => if x = 0 then none else some x) (fun c => Sum.inr c) (Sum.inl ()) rfl ?_ ?_ (by simp)]
 ·by_cases h1 : a = 0
  ·by_cases h2 : b = 0
   ·simp [h1, h2]
   ·simp [h1, h2]
  ·simp [h1]
 ·intro i hi;simp only [cmp_Or_api_Errno.s1, lt_len hi, if_true, at_lt hi, Option.bind_some];by_cases e : [a, b][i] = 0
  ·simp only [e, not_true, if_false, if_true]; rw [wn (by simp at hi; omega)]
  ·simp only [e, not_false_eq_true, if_true, if_false]
 ·simp only [cmp_Or_api_Errno.s1, not_lt_len, if_false]
theorem within_eq (a b c : Int) : base_Within a b c = depend_inside a b c := by
 unfold base_Within depend_inside;simp only [Bool.not_or, ← decide_not]
 congr 1 <;> exact decide_eq_decide.2 (by omega)
theorem brokenG : ∀ (l : List depend_rule), l.length < 100 → depend_broken l = some (match l.findSome? (fun r => if r.holds = true then none else some r.code) with | some c => c | none => 0) := by
 intro l hl;unfold depend_broken;rw [loop_find (step := depend_broken.s1 l) l (fun r => if r.holds = true then none else some r.code) (fun c => Sum.inr c) (Sum.inl ()) rfl ?_ ?_ (by omega)]
 ·cases l.findSome? (fun r => if r.holds = true then none else some r.code) <;> rfl
 ·intro i hi;simp only [depend_broken.s1, lt_len hi, if_true, at_lt hi, Option.bind_some];by_cases h : l[i].holds = true
  ·simp only [h, not_true, if_false, if_true]; rw [wn (by omega)]
  ·simp only [h, not_false_eq_true, if_true, if_false, Bool.false_eq_true]
 ·simp only [depend_broken.s1, not_lt_len, if_false]
theorem broken1 (b : Bool) (c : Int) : depend_broken [depend_rule.mk b c] = some (if b = true then 0 else c) := by
 rw [brokenG _ (by simp)]; cases b <;> rfl
theorem broken2 (a b : Bool) (c d : Int) : depend_broken [depend_rule.mk a c, depend_rule.mk b d] = some (if a = true then (if b = true then 0 else d) else c) := by
 rw [brokenG _ (by simp)]; cases a <;> cases b <;> rfl
theorem broken3 (a b c : Bool) (x y z : Int) : depend_broken [depend_rule.mk a x, depend_rule.mk b y, depend_rule.mk c z] = some (if a = true then (if b = true then (if c = true then 0 else z) else y) else x) := by
 rw [brokenG _ (by simp)]; cases a <;> cases b <;> cases c <;> rfl
end Go.Sh
namespace Go.Sh
open Go.Lx
set_option linter.unusedVariables false
set_option linter.unusedSimpArgs false
def hi (x : api_Affine) (l : List api_Hull) : Int := (x.Coefs.zip l).foldl (fun b t => w (b + mx (w (t.1 * t.2.Low)) (w (t.1 * t.2.High)))) x.Const
section
variable {p : List api_Loop}
end
end Go.Sh
namespace Go.Sh
open Go.Lx
set_option linter.unusedVariables false
set_option linter.unusedSimpArgs false
end Go.Sh
namespace Go.Sh
open Go.Lx
set_option linter.unusedVariables false
set_option linter.unusedSimpArgs false
set_option linter.deprecated false
structure Small (x : api_LinSystem) : Prop where
 n : x.Rows.length ≤ 62
 f : ∀ r, r ∈ x.Rows → r.Coefs.length ≤ 10
theorem small_some (x : api_LinSystem) : ∃ r, law27_small x = some r ∧ (r = true → Small x) := by
 unfold law27_small;by_cases h0 : (x.Rows.length : Int) > 62
 ·exact ⟨false, by rw [if_pos h0], fun h => by cases h⟩
 rw [if_neg h0];rw [loop_find (step := law27_small.s1 x) x.Rows (fun r => if (r.Coefs.length : Int) > 10 then some false else none) (fun r => .inr r) (.inl ()) rfl ?_ ?_ (by omega)]
 ·cases h1 : x.Rows.findSome? (fun r => if (r.Coefs.length : Int) > 10 then some false else none) with
  | some r =>
   refine ⟨r, rfl, fun hr => ?_⟩;obtain ⟨y, _, hy⟩ := List.exists_of_findSome?_eq_some h1;split at hy
   ·cases hy; cases hr
   ·cases hy
  | none =>
   refine ⟨true, rfl, fun _ => ⟨by omega, fun r hr => ?_⟩⟩;have := List.findSome?_eq_none_iff.1 h1 r hr;split at this
   ·cases this
   ·omega
 ·intro i hi;simp only [law27_small.s1, lt_len hi, if_true, at_lt hi, Option.bind_some];by_cases hs : (x.Rows[i].Coefs.length : Int) > 10
  ·simp only [hs, if_true]
  ·simp only [hs, if_false]; rw [wn (by omega)]
 ·simp only [law27_small.s1, not_lt_len, if_false]
theorem copySystem_eq {x : api_LinSystem} (S : Small x) : ref27_CopySystem x = some x := by
 have hn := S.n;unfold ref27_CopySystem;rw [loop_map (step := ref27_CopySystem.s1 x) x.Rows id (fun i b => (i, b)) (fun b => b) rfl ?_ ?_ (by omega)]
 ·simp
 ·intro i hi b hb;have h1 := S.f _ (List.getElem_mem hi);simp only [ref27_CopySystem.s1, lt_len hi, if_true, at_lt hi, Option.bind_some];rw [copyInts_eq (by omega)];simp only [Option.bind_some];rw [app_one (by omega), wn (by omega)];rfl
 ·intro b; simp only [ref27_CopySystem.s1, not_lt_len, if_false]
def oddR (l : List Int) : Bool := l.any fun c => !depend_inside c (-1000) 1000
def rErr (r : api_LinRow) (k : Int) : Int := if (r.Coefs.length : Int) = k then (if oddR r.Coefs = true then 2 else if depend_inside r.Const (-100000) 100000 = true then 0 else 2) else 10
theorem oddR_eq {p : List Int} (h : p.length < 16777216) : slices_ContainsFunc_int__depend_rowErr_c1 p = some (oddR p) := by
 unfold slices_ContainsFunc_int__depend_rowErr_c1 slices_IndexFunc_int__depend_rowErr_c1;obtain ⟨k, hk⟩ := loop_any (step := slices_IndexFunc_int__depend_rowErr_c1.s1 p) p (fun c => !depend_inside c (-1000) 1000) (fun i => Sum.inr i) (Sum.inl ()) (s := 0) rfl (fun i hi => by
  simp only [slices_IndexFunc_int__depend_rowErr_c1.s1, lt_len hi, if_true, at_lt hi, Option.bind_some, depend_rowErr_c1];by_cases e : (!depend_inside p[i] (-1000) 1000) = true
  ·simp only [e, if_true]
  ·simp only [e, if_false, Bool.false_eq_true]; rw [wn (by omega)]) (by simp only [slices_IndexFunc_int__depend_rowErr_c1.s1, not_lt_len, if_false]) (by omega)
 rw [hk];unfold oddR;by_cases e : p.any (fun c => !depend_inside c (-1000) 1000) = true
 ·simp only [e, if_true, Option.bind_some];have : (k : Int) ≥ 0 := by omega
  simp [this]
 ·simp only [e, if_false, Option.bind_some, Bool.false_eq_true];simp at e ⊢
theorem rowErr_eq {r : api_LinRow} (h : r.Coefs.length < 16777216) (k : Int) : depend_rowErr r k = some (rErr r k) := by
 unfold depend_rowErr rErr;rw [oddR_eq h];simp only [Option.bind_some];by_cases e : oddR r.Coefs = true
 ·simp only [e, not_true, if_false, if_true];rw [broken2];by_cases h2 : (r.Coefs.length : Int) = k <;> simp [h2]
 ·simp only [e, not_false_eq_true, if_true, if_false, Bool.false_eq_true];rw [broken2];by_cases h2 : (r.Coefs.length : Int) = k <;> simp [h2]
theorem rErr_ok {r : api_LinRow} {k : Int} (h : rErr r k = 0) : (r.Coefs.length : Int) = k ∧ (∀ c, c ∈ r.Coefs → -1000 ≤ c ∧ c ≤ 1000) ∧ -100000 ≤ r.Const ∧ r.Const ≤ 100000 := by
 unfold rErr at h;split at h
 ·rename_i h1
  split at h
  ·cases h
  ·rename_i h2
   split at h
   ·rename_i h3
    refine ⟨h1, ?_, by simpa [depend_inside] using h3⟩;intro c hc;have : oddR r.Coefs = false := by simpa using h2
    have := List.any_eq_false.1 this c hc;simp only [Bool.not_eq_true', Bool.not_eq_false] at this;simpa [depend_inside] using this
   ·cases h
 ·cases h
def rwF (k : Int) (i : Nat) (b : Unit) (r : api_LinRow) : Sum (Int × Int) Unit := if rErr r k = 0 then .inr b else .inl ((i : Int), rErr r k)
def csR (x : api_LinSystem) : Int × Int :=
 if depend_inside x.Vars 1 8 = true then (if (x.Rows.length : Int) ≤ 60 then (match scanE (rwF x.Vars) 0 x.Rows () with | .inl r => r | .inr _ => (0, 0)) else (0, 8)) else (0, 2)
theorem checkSystem_eq {x : api_LinSystem} (S : Small x) : depend_CheckSystem x = some (csR x) := by
 have hn := S.n;unfold depend_CheckSystem csR;rw [broken2];simp only [Option.bind_some];by_cases e1 : depend_inside x.Vars 1 8 = true
 ·by_cases e2 : (x.Rows.length : Int) ≤ 60
  ·simp only [e1, e2, decide_true, if_true, not_true, if_false];unfold depend_firstBad_api_LinRow__depend_CheckSystem_c1;rw [loop_scan (step := depend_firstBad_api_LinRow__depend_CheckSystem_c1.s1 x.Rows x) x.Rows (fun i (_ : Unit) => i) (fun r => .inr r) (fun _ => .inl ()) (rwF x.Vars) (fun _ _ => True) (a := ()) rfl ?_ ?_ trivial (by omega)]
   ·cases scanE (rwF x.Vars) 0 x.Rows () <;> rfl
   ·intro i hi b _;refine ⟨?_, fun _ _ => trivial⟩;have := S.f _ (List.getElem_mem hi);simp only [depend_firstBad_api_LinRow__depend_CheckSystem_c1.s1, lt_len hi, if_true, at_lt hi, Option.bind_some, depend_CheckSystem_c1];rw [rowErr_eq (by omega)];simp only [Option.bind_some, rwF];by_cases e : rErr x.Rows[i] x.Vars = 0
    ·simp only [e, not_true, if_false, if_true]; rw [wn (by omega)]
    ·simp only [e, not_false_eq_true, if_true, if_false]
   ·intro b _; simp only [depend_firstBad_api_LinRow__depend_CheckSystem_c1.s1, not_lt_len, if_false]
  ·simp only [e1, e2, decide_false, if_true, Bool.false_eq_true, if_false]; rfl
 ·simp only [e1, if_false, Bool.false_eq_true]; rfl
theorem refCheckSystem_eq {x : api_LinSystem} (S : Small x) : ref27_CheckSystem x = some (csR x) := by
 have hn := S.n;unfold ref27_CheckSystem csR;simp only [within_eq];by_cases e1 : depend_inside x.Vars 1 8 = true
 ·simp only [e1, not_true, if_false, if_true];by_cases e2 : (x.Rows.length : Int) ≤ 60
  ·have e2' : ¬ (x.Rows.length : Int) > 60 := by omega
   simp only [e2, e2', if_true, if_false];rw [loop_scan (step := ref27_CheckSystem.s1 x) x.Rows (fun i (_ : Unit) => i) (fun r => .inr r) (fun _ => .inl ()) (rwF x.Vars) (fun _ _ => True) (a := ()) rfl ?_ ?_ trivial (by omega)]
   ·cases scanE (rwF x.Vars) 0 x.Rows () <;> rfl
   ·intro i hi b _;refine ⟨?_, fun _ _ => trivial⟩;have hl := S.f _ (List.getElem_mem hi);simp only [ref27_CheckSystem.s1, lt_len hi, if_true, at_lt hi, Option.bind_some, within_eq, rwF, rErr];by_cases e3 : (x.Rows[i].Coefs.length : Int) = x.Vars
    ·simp only [e3, not_true, if_false, if_true];rw [loop_find (step := ref27_CheckSystem.s2 x i) x.Rows[i].Coefs (fun c => if (!depend_inside c (-1000) 1000) = true then some () else none) (fun _ => .inr ((i : Int), 2)) (.inl ()) rfl ?_ ?_ (by omega), findSome_const]
     ·unfold oddR;by_cases e4 : x.Rows[i].Coefs.any (fun c => !depend_inside c (-1000) 1000) = true
      ·simp only [e4, if_true, Option.bind_some];rfl
      ·simp only [e4, if_false, Option.bind_some, Bool.false_eq_true];by_cases e5 : depend_inside x.Rows[i].Const (-100000) 100000 = true
       ·simp only [e5, not_true, if_false, if_true]; rw [wn (by omega)]
       ·simp only [e5, not_false_eq_true, if_true, if_false, Bool.false_eq_true];rfl
     ·intro k hk;have hkv : ((k : Int) < x.Vars) = True := eq_true (by omega);simp only [ref27_CheckSystem.s2, hkv, if_true, at_lt hi, at_lt hk, Option.bind_some, within_eq];by_cases e : depend_inside x.Rows[i].Coefs[k] (-1000) 1000 = true
      ·simp only [e, not_true, if_false, Bool.not_true, Bool.false_eq_true]; rw [wn (by omega)]
      ·have e' : depend_inside x.Rows[i].Coefs[k] (-1000) 1000 = false := by simpa using e
       simp [e']
     ·have hkv : ((x.Rows[i].Coefs.length : Int) < x.Vars) = False := eq_false (by omega);simp only [ref27_CheckSystem.s2, hkv, if_false]
    ·simp only [e3, not_false_eq_true, if_true, if_false];rfl
   ·intro b _; simp only [ref27_CheckSystem.s1, not_lt_len, if_false]
  ·have e2' : (x.Rows.length : Int) > 60 := by omega
   simp only [e2, e2', if_true, if_false]
 ·simp only [e1, not_false_eq_true, if_true, if_false, Bool.false_eq_true]
structure VS (x : api_LinSystem) : Prop where
 v1 : 1 ≤ x.Vars
 v8 : x.Vars ≤ 8
 n : x.Rows.length ≤ 60
 f : ∀ r, r ∈ x.Rows → (r.Coefs.length : Int) = x.Vars ∧ (∀ c, c ∈ r.Coefs → -1000 ≤ c ∧ c ≤ 1000) ∧ -100000 ≤ r.Const ∧ r.Const ≤ 100000
theorem rw_ne (k : Int) : ∀ (l : List api_LinRow) (i : Nat) (r : Int × Int), scanE (rwF k) i l () = .inl r → r.2 ≠ 0
 | [], i, r, h => by cases h
 | a :: l, i, r, h => by
  simp only [scanE, rwF] at h;by_cases e : rErr a k = 0
  ·simp only [e, if_true] at h;exact rw_ne k l (i + 1) r h
  ·simp only [e, if_false] at h;cases h;exact e
theorem rw_ok (k : Int) : ∀ (l : List api_LinRow) (i : Nat), scanE (rwF k) i l () = .inr () → ∀ a, a ∈ l → rErr a k = 0
 | [], i, _, a, h => by cases h
 | b :: l, i, h, a, ha => by
  simp only [scanE, rwF] at h;by_cases e : rErr b k = 0
  ·simp only [e, if_true] at h;rcases List.mem_cons.1 ha with rfl | ha
   ·exact e
   ·exact rw_ok k l (i + 1) h a ha
  ·simp only [e, if_false] at h;cases h
theorem csR_ok {x : api_LinSystem} (h : (csR x).2 = 0) : VS x := by
 unfold csR at h;split at h
 ·rename_i h1
  split at h
  ·rename_i h2
   have h3 : 1 ≤ x.Vars ∧ x.Vars ≤ 8 := by
    unfold depend_inside at h1;simpa only [Bool.and_eq_true, decide_eq_true_eq] using h1
   split at h
   ·rename_i r hr
    exact absurd h (rw_ne _ _ _ _ hr)
   ·rename_i u hr
    exact ⟨h3.1, h3.2, by omega, fun r hr' => rErr_ok (rw_ok _ _ _ hr r hr')⟩
  ·cases h
 ·cases h
theorem systemErr_eq {x : api_LinSystem} (S : Small x) : depend_systemErr x = some (csR x).2 := by
 unfold depend_systemErr; rw [checkSystem_eq S]; rfl
theorem refSystemErr_eq {x : api_LinSystem} (S : Small x) : ref27_SystemErr x = some (csR x).2 := by
 unfold ref27_SystemErr; rw [refCheckSystem_eq S]; rfl
def atv (r : api_LinRow) (pt : List Int) : Int := (r.Coefs.zip pt).foldl (fun b t => w (b + w (t.1 * t.2))) r.Const
theorem at_eq1 {r : api_LinRow} {pt : List Int} (h : r.Coefs.length ≤ pt.length) (hp : pt.length < 16777216) : depend_at r pt = some (atv r pt) := by
 have hz : (r.Coefs.zip pt).length = r.Coefs.length := by simp; omega
 unfold depend_at atv;rw [loop_fold (step := depend_at.s1 r pt) (r.Coefs.zip pt) (fun i (b : Int) => (b, i)) (fun b => b) (fun b t => w (b + w (t.1 * t.2))) (fun _ _ => True) (a := r.Const) rfl ?_ ?_ trivial (by omega)]
 ·rfl
 ·intro i hi b _;refine ⟨?_, trivial⟩;rw [hz] at hi;have h2 : i < pt.length := by omega
  simp only [depend_at.s1, lt_len hi, if_true, at_lt hi, at_lt h2, Option.bind_some, List.getElem_zip];rw [wn (by omega)]
 ·intro b _; rw [hz]; simp only [depend_at.s1, not_lt_len, if_false]
def badR (pt : List Int) (r : api_LinRow) : Bool := (decide (atv r pt < 0)) || (r.Equal && (decide (atv r pt > 0)))
theorem fails_eq {l : List api_LinRow} {pt : List Int} (hn : l.length < 16777216) (h : ∀ r, r ∈ l → r.Coefs.length ≤ pt.length) (hp : pt.length < 16777216) : slices_ContainsFunc_api_LinRow__depend_Holds_c2 l pt = some (l.any (badR pt)) := by
 unfold slices_ContainsFunc_api_LinRow__depend_Holds_c2 slices_IndexFunc_api_LinRow__depend_Holds_c2;obtain ⟨k, hk⟩ := loop_any (step := slices_IndexFunc_api_LinRow__depend_Holds_c2.s1 l pt) l (badR pt) (fun i => Sum.inr i) (Sum.inl ()) (s := 0) rfl (fun i hi => by
  simp only [slices_IndexFunc_api_LinRow__depend_Holds_c2.s1, lt_len hi, if_true, at_lt hi, Option.bind_some, depend_Holds_c2];rw [at_eq1 (h _ (List.getElem_mem hi)) hp];simp only [Option.bind_some];by_cases e : badR pt l[i] = true
  ·have e' := e;unfold badR at e';simp only [e, e', if_true]
  ·have e' := e;unfold badR at e';simp only [e, e', if_false, Bool.false_eq_true]; rw [wn (by omega)]) (by simp only [slices_IndexFunc_api_LinRow__depend_Holds_c2.s1, not_lt_len, if_false]) (by omega)
 rw [hk];by_cases e : l.any (badR pt) = true
 ·simp only [e, if_true, Option.bind_some];have : (k : Int) ≥ 0 := by omega
  simp [this]
 ·simp only [e, if_false, Option.bind_some, Bool.false_eq_true];simp at e ⊢
def oddP (l : List Int) : Bool := l.any fun c => !depend_inside c (-100000) 100000
theorem oddP_eq {p : List Int} (h : p.length < 16777216) : slices_ContainsFunc_int__depend_Holds_c1 p = some (oddP p) := by
 unfold slices_ContainsFunc_int__depend_Holds_c1 slices_IndexFunc_int__depend_Holds_c1;obtain ⟨k, hk⟩ := loop_any (step := slices_IndexFunc_int__depend_Holds_c1.s1 p) p (fun c => !depend_inside c (-100000) 100000) (fun i => Sum.inr i) (Sum.inl ()) (s := 0) rfl (fun i hi => by
  simp only [slices_IndexFunc_int__depend_Holds_c1.s1, lt_len hi, if_true, at_lt hi, Option.bind_some, depend_Holds_c1];by_cases e : (!depend_inside p[i] (-100000) 100000) = true
  ·simp only [e, if_true]
  ·simp only [e, if_false, Bool.false_eq_true]; rw [wn (by omega)]) (by simp only [slices_IndexFunc_int__depend_Holds_c1.s1, not_lt_len, if_false]) (by omega)
 rw [hk];unfold oddP;by_cases e : p.any (fun c => !depend_inside c (-100000) 100000) = true
 ·simp only [e, if_true, Option.bind_some];have : (k : Int) ≥ 0 := by omega
  simp [this]
 ·simp only [e, if_false, Option.bind_some, Bool.false_eq_true];simp at e ⊢
def hoR (x : api_LinSystem) (pt : List Int) : Bool × Int :=
 if ¬ (csR x).2 = 0 then (false, (csR x).2) else if ¬ (pt.length : Int) = x.Vars then (false, 10) else if oddP pt = true then (false, 2) else (!x.Rows.any (badR pt), 0)
theorem holds_eq {x : api_LinSystem} (S : Small x) {pt : List Int} (hp : pt.length < 16777216) : depend_Holds x pt = some (hoR x pt) := by
 unfold depend_Holds hoR;rw [oddP_eq hp, systemErr_eq S];simp only [Option.bind_some];rw [broken2];simp only [Option.bind_some, cmpOr2];by_cases e1 : (csR x).2 = 0
 ·have vs := csR_ok e1;simp only [e1, if_true, not_true, if_false];by_cases e2 : (pt.length : Int) = x.Vars
  ·simp only [e2, beq_self_eq_true, if_true, not_true, if_false];by_cases e3 : oddP pt = true
   ·simp only [e3, Bool.not_true, Bool.false_eq_true, if_false, if_true]; rfl
   ·have e3' : oddP pt = false := by simpa using e3
    simp only [e3', Bool.not_false, if_true, not_true, if_false, Bool.false_eq_true];rw [fails_eq (by have := vs.n; omega) (fun r hr => by have := (vs.f r hr).1; omega) hp];rfl
  ·have e2' : ((pt.length : Int) == x.Vars) = false := by simpa using e2
   simp only [e2, e2', Bool.false_eq_true, if_false, not_false_eq_true, if_true]; rfl
 ·simp only [e1, if_false, not_false_eq_true, if_true]
end Go.Sh
namespace Go.Sh
open Go.Lx
set_option linter.unusedVariables false
set_option linter.unusedSimpArgs false
set_option linter.deprecated false
end Go.Sh
namespace Go.Sh
open Go.Lx
set_option linter.unusedVariables false
set_option linter.unusedSimpArgs false
set_option linter.deprecated false
def foldI {α β : Type} (f : Nat → β → α → β) : Nat → List α → β → β
 | _, [], b => b
 | i, x :: xs, b => foldI f (i + 1) xs (f i b x)
theorem scan_foldI {α β : Type} (f : Nat → β → α → β) : ∀ (xs : List α) (i : Nat) (b : β), scanE (ρ := Empty) (fun i b x => .inr (f i b x)) i xs b = .inr (foldI f i xs b)
 | [], i, b => rfl
 | x :: xs, i, b => by simp only [scanE, foldI]; exact scan_foldI f xs (i + 1) _
theorem foldI_pair {α β γ : Type} (f : Nat → β → α → β) (g : Nat → γ → α → γ) : ∀ (xs : List α) (i : Nat) (b : β × γ), foldI (fun i (b : β × γ) x => (f i b.1 x, g i b.2 x)) i xs b = (foldI f i xs b.1, foldI g i xs b.2)
 | [], i, b => rfl
 | x :: xs, i, b => by simp only [foldI]; exact foldI_pair f g xs (i + 1) _
theorem foldI_map {α β : Type} (f : Nat → Nat → β → α → β) : ∀ (xs : List α) (i : Nat) (l : List β), foldI (fun i (l : List β) x => l.mapIdx fun v s => f v i s x) i xs l = l.mapIdx fun v s => foldI (f v) i xs s
 | [], i, l => by
  simp only [foldI];apply List.ext_getElem <;> simp
 | x :: xs, i, l => by
  simp only [foldI];rw [foldI_map f xs (i + 1)];apply List.ext_getElem <;> simp
theorem mapIdx_one {β : Type} {f : Nat → β → β} {l : List β} {k : Nat} (hk : k < l.length) (h : ∀ v s, v ≠ k → f v s = s) : l.mapIdx f = l.set k (f k l[k]) := by
 apply List.ext_getElem
 ·simp
 ·intro i h1 h2;rw [List.getElem_mapIdx, List.getElem_set];by_cases e : k = i
  ·subst e; simp
  ·rw [if_neg e]; exact h _ _ (fun q => e q.symm)
theorem mapIdx_rep {β γ : Type} (z : β) (n : Nat) (g : Nat → β → γ) : (List.replicate n z).mapIdx g = (List.range n).map fun v => g v z := by
 apply List.ext_getElem <;> simp
end Go.Sh
namespace Go.Sh
open Go.Lx
set_option linter.unusedVariables false
set_option linter.unusedSimpArgs false
set_option linter.deprecated false
def b01 (c : Prop) [Decidable c] : Nat := if c then 1 else 0
def nm (v : Int) (x : api_LinNode) : Nat := if x.Kind = 2 then b01 (x.Left = v) + b01 (x.Right = v) else 0
def cnt (p : List api_LinNode) (v : Int) : Nat := p.foldl (fun c x => c + nm v x) 0
theorem nm_le (v : Int) (x : api_LinNode) : nm v x ≤ 2 := by
 unfold nm b01;split
 ·split <;> split <;> omega
 ·omega
theorem count_loop (v : Int) (x : api_LinNode) (c : Nat) (hc : c < 1000) : loopO (depend_nodeErr.s2 v x) ((c : Int), 0) = some (((c + b01 (x.Left = v) + b01 (x.Right = v) : Nat)) : Int) := by
 refine loopO_of (n := 3) ?_ (by unfold FUEL; omega);have h1 : depend_nodeErr.s2 v x ((c : Int), 0) = some (.inl (((c + b01 (x.Left = v) : Nat) : Int), 1)) := by
  unfold depend_nodeErr.s2 b01;rw [if_pos (show (0 : Int) < 2 by omega), if_pos rfl];by_cases e : x.Left = v
  ·simp only [e, if_true]; rw [wn (by omega)]; rfl
  ·simp only [e, if_false]; rfl
 have h2 : ∀ d : Nat, d < 2000 → depend_nodeErr.s2 v x ((d : Int), 1) = some (.inl (((d + b01 (x.Right = v) : Nat) : Int), 2)) := by
  intro d hd;unfold depend_nodeErr.s2 b01;rw [if_pos (show (1 : Int) < 2 by omega), if_neg (show ¬ (1 : Int) = 0 by omega), if_pos rfl];by_cases e : x.Right = v
  ·simp only [e, if_true]; rw [wn (by omega)]; rfl
  ·simp only [e, if_false]; rfl
 have h3 : ∀ d : Int, depend_nodeErr.s2 v x (d, 2) = some (.inr d) := by
  intro d;unfold depend_nodeErr.s2;rw [if_neg (show ¬ (2 : Int) < 2 by omega)]
 have hb : b01 (x.Left = v) ≤ 1 := by unfold b01; split <;> omega
 simp only [iterO, h1, h2 _ (show c + b01 (x.Left = v) < 2000 by omega), h3]
theorem cnt_loop {p : List api_LinNode} (hn : p.length ≤ 30) (v : Int) : loopO (depend_nodeErr.s1 p v) (0, 0) = some ((cnt p v : Nat) : Int) := by
 unfold cnt;rw [loop_fold (step := depend_nodeErr.s1 p v) p (fun i (c : Nat) => ((c : Int), i)) (fun c => (c : Int)) (fun c x => c + nm v x) (fun i c => c ≤ 2 * i) (a := 0) (s := (0, 0)) rfl ?_ ?_ (by omega) (by omega)]
 ·intro i hi c hc;have := nm_le v p[i];refine ⟨?_, by omega⟩;simp only [depend_nodeErr.s1, lt_len hi, if_true, at_lt hi, Option.bind_some, nm];by_cases e : p[i].Kind = 2
  ·simp only [e, not_true, if_false, if_true];rw [count_loop _ _ _ (by omega)];simp only [Option.bind_some];rw [wn (by omega), Nat.add_assoc]
  ·simp only [e, not_false_eq_true, if_true, if_false]; rw [wn (by omega)]; rfl
 ·intro c _; simp only [depend_nodeErr.s1, not_lt_len, if_false]
def fm (x : api_LinNode) : Bool := ((((x.Kind == 1) || (x.Divisor == 0)) && ((x.Kind == 2) || ((((x.Var == 0) && (x.At == 0)) && (x.Left == 0)) && (x.Right == 0)))) && ((!(x.Kind == 2)) || ((x.Weights.length : Int) == 0)))
def rg (n i : Nat) (x : api_LinNode) : Bool := ((!(x.Kind == 2)) || ((depend_inside x.Left ((i + 1 : Nat) : Int) ((n : Int) - 1)) && (depend_inside x.Right ((i + 1 : Nat) : Int) ((n : Int) - 1))))
def nErr (p : List api_LinNode) (i : Nat) (x : api_LinNode) : Int :=
 if depend_inside x.Kind 0 2 = true then (if fm x = true then (if rg p.length i x = true then (if (((i : Int) == 0) || ((cnt p i : Int) == 1)) = true then 0 else 19) else 2) else 3) else 15
theorem nodeErr_eq {p : List api_LinNode} (hn : p.length ≤ 30) {i : Nat} (hi : i < p.length) : depend_nodeErr p i = some (nErr p i p[i]) := by
 unfold depend_nodeErr nErr;rw [at_lt hi];simp only [Option.bind_some];by_cases e : depend_inside p[i].Kind 0 2 = true
 ·simp only [e, not_true, if_false, if_true];rw [cnt_loop hn];simp only [Option.bind_some];rw [wn (by omega), w_id (n := (p.length : Int) - 1) (by omega) (by omega), broken3];rfl
 ·simp only [e, not_false_eq_true, if_true, if_false, Bool.false_eq_true]
theorem formErr27_eq (x : api_LinNode) : ref27_formErr x = if depend_inside x.Kind 0 2 = true then (if fm x = true then 0 else 3) else 15 := by
 unfold ref27_formErr fm depend_inside;by_cases h0 : x.Kind = 0
 ·by_cases a : x.Divisor = 0 <;> by_cases b : x.Var = 0 <;> by_cases c : x.At = 0 <;> by_cases d : x.Left = 0 <;> by_cases e : x.Right = 0 <;> simp [h0, a, b, c, d, e]
 ·by_cases h1 : x.Kind = 1
  ·by_cases b : x.Var = 0 <;> by_cases c : x.At = 0 <;> by_cases d : x.Left = 0 <;> by_cases e : x.Right = 0 <;> simp [h1, b, c, d, e]
  ·by_cases h2 : x.Kind = 2
   ·by_cases a : x.Divisor = 0
    ·by_cases b : x.Weights = []
     ·simp [h2, a, b]
     ·simp [h2, a, b]
    ·simp [h2, a]
   ·have h3 : ¬ (0 ≤ x.Kind ∧ x.Kind ≤ 2) := by omega
    by_cases h4 : 0 ≤ x.Kind
    ·have h5 : ¬ x.Kind ≤ 2 := by omega
     simp [h0, h1, h2, h4, h5]
    ·simp [h0, h1, h2, h4]
def neF (p : List api_LinNode) (i : Nat) (b : Unit) (x : api_LinNode) : Sum (Int × Int) Unit := if nErr p i x = 0 then .inr b else .inl ((i : Int), nErr p i x)
theorem first_eq {p : List api_LinNode} (hn : p.length ≤ 30) : depend_firstBad_api_LinNode__depend_CheckProof_c1 p p = some (match scanE (neF p) 0 p () with | .inl r => r | .inr _ => (0, 0)) := by
 unfold depend_firstBad_api_LinNode__depend_CheckProof_c1;rw [loop_scan (step := depend_firstBad_api_LinNode__depend_CheckProof_c1.s1 p p) p (fun i (_ : Unit) => i) (fun r => .inr r) (fun _ => .inl ()) (neF p) (fun _ _ => True) (a := ()) rfl ?_ ?_ trivial (by omega)]
 ·cases scanE (neF p) 0 p () <;> rfl
 ·intro i hi b _;refine ⟨?_, fun _ _ => trivial⟩;simp only [depend_firstBad_api_LinNode__depend_CheckProof_c1.s1, lt_len hi, if_true, at_lt hi, Option.bind_some, depend_CheckProof_c1];rw [nodeErr_eq hn hi];simp only [Option.bind_some, neF];by_cases e : nErr p i p[i] = 0
  ·simp only [e, not_true, if_false, if_true]; rw [wn (by omega)]
  ·simp only [e, not_false_eq_true, if_true, if_false]
 ·intro b _; simp only [depend_firstBad_api_LinNode__depend_CheckProof_c1.s1, not_lt_len, if_false]
def pF (i : Nat) (x : api_LinNode) (v : Nat) (s : Int) : Int := if x.Kind = 2 ∧ (x.Left = v ∨ x.Right = v) then (i : Int) else s
def par (p : List api_LinNode) (v : Nat) : Int := foldI (fun i s x => pF i x v s) 0 p (-1)
theorem foldI_cnt (v : Int) : ∀ (l : List api_LinNode) (i c : Nat), foldI (fun (_ : Nat) (s : Int) x => s + (nm v x : Int)) i l (c : Int) = ((l.foldl (fun c x => c + nm v x) c : Nat) : Int)
 | [], i, c => rfl
 | x :: l, i, c => by
  simp only [foldI, List.foldl_cons];rw [← foldI_cnt v l (i + 1) (c + nm v x)]
  congr 1
def bumpO (i : Nat) (n : Int) (o : List Int) : List Int := o.mapIdx fun v s => if n = (v : Int) then (i : Int) else s
def bumpC (n : Int) (o : List Int) : List Int := o.mapIdx fun v s => s + (b01 (n = (v : Int)) : Int)
theorem bump_eq {p : List api_LinNode} {i : Nat} {k : Int} {n : Int} {o c : List Int} (ho : o.length = p.length) (hc : c.length = p.length) (hp : p.length ≤ 30) (hcb : ∀ z, z ∈ c → 0 ≤ z ∧ z ≤ 1000) (x : Int × List Int × List Int) (hk : w (k + 1) = k + 1) :
  ref27_parents.j4 p ((i : Int), x.2.1, x.2.2) (k, o, c) n = some (.inl (k + 1, bumpO i n o, bumpC n c)) := by
 unfold ref27_parents.j4;rw [within_eq, w_id (n := (p.length : Int) - 1) (by omega) (by omega)];by_cases h : depend_inside n 0 ((p.length : Int) - 1) = true
 ·have h' := h;unfold depend_inside at h';simp only [Bool.and_eq_true, decide_eq_true_eq] at h';obtain ⟨m, rfl⟩ : ∃ m : Nat, n = (m : Int) := ⟨n.toNat, by omega⟩
  have hm1 : m < o.length := by omega
  have hm2 : m < c.length := by omega
  have hz := hcb _ (List.getElem_mem hm2);simp only [h, if_true, at_lt hm1, at_lt hm2, Option.bind_some, Int.toNat_natCast, hk];rw [w_id (n := c[m] + 1) (by omega) (by omega)]
  congr 4
  ·unfold bumpO;rw [mapIdx_one (k := m) hm1 (fun v s hne => by rw [if_neg (by omega)])];simp
  ·unfold bumpC;rw [mapIdx_one (k := m) hm2 (fun v s hne => by unfold b01; rw [if_neg (by omega)]; simp)];simp [b01]
 ·have h' : depend_inside n 0 ((p.length : Int) - 1) = false := by simpa using h
  simp only [h', Bool.false_eq_true, if_false, hk];have hno : ∀ v : Nat, v < p.length → ¬ n = (v : Int) := by
   intro v hv he;subst he;unfold depend_inside at h;simp only [Bool.and_eq_true, decide_eq_true_eq] at h;omega
  congr 4
  ·unfold bumpO;apply List.ext_getElem
   ·simp
   ·intro j h1 h2;rw [List.getElem_mapIdx, if_neg (hno j (by omega))]
  ·unfold bumpC;apply List.ext_getElem
   ·simp
   ·intro j h1 h2;rw [List.getElem_mapIdx];unfold b01;rw [if_neg (hno j (by omega))];simp
theorem parents_eq {p : List api_LinNode} (hn : p.length ≤ 30) : ref27_parents p = some ((List.range p.length).map (par p), (List.range p.length).map fun v : Nat => (cnt p (v : Int) : Int)) := by
 unfold ref27_parents;have hmk : mkSl (p.length : Int) (0 : Int) = some (List.replicate p.length 0) := by
  unfold mkSl;rw [if_pos (by omega)];simp
 rw [hmk];simp only [Option.bind_some];have h1 : loopO (ref27_parents.s1 p) (0, List.replicate p.length 0) = some (List.replicate p.length (-1)) := by
  rw [loop_set (step := ref27_parents.s1 p) (List.replicate p.length 0) (fun _ _ => -1) (fun i b => (i, b)) (fun b => b) rfl ?_ ?_ (by simp; omega)]
  ·congr 1
   apply List.ext_getElem <;> simp
  ·intro i hi b hb hbi;have hip : i < p.length := by simpa using hi
   have hib : i < b.length := by omega
   simp only [ref27_parents.s1, lt_len hip, if_true, at_lt hib, Option.bind_some, Int.toNat_natCast];rw [wn (by omega)]
  ·intro b hb;have : (((List.replicate p.length (0 : Int)).length : Int) < (p.length : Int)) = False := eq_false (by simp);simp only [ref27_parents.s1, this, if_false]
 rw [h1];simp only [Option.bind_some];rw [loop_scan (ρ := Empty) (step := ref27_parents.s2 p) p (fun i (b : List Int × List Int) => (i, b.1, b.2)) (fun e => e.elim) (fun b => b) (fun i b x => .inr (b.1.mapIdx fun v s => pF i x v s, b.2.mapIdx fun v s => s + (nm v x : Int))) (fun i b => b.1.length = p.length ∧ b.2.length = p.length ∧ ∀ z, z ∈ b.2 → 0 ≤ z ∧ z ≤ 2 * i) (a := (List.replicate p.length (-1), List.replicate p.length 0)) rfl ?_ ?_ ?_ (by omega)]
 ·rw [scan_foldI (fun i (b : List Int × List Int) x => (b.1.mapIdx fun v s => pF i x v s, b.2.mapIdx fun v s => s + (nm v x : Int))), foldI_pair (fun i (l : List Int) x => l.mapIdx fun v s => pF i x v s) (fun i (l : List Int) x => l.mapIdx fun v s => s + (nm v x : Int)), foldI_map (fun v i s x => pF i x v s), foldI_map (fun v i s x => s + (nm v x : Int)), mapIdx_rep, mapIdx_rep];simp only [Option.bind_some]
  congr 2
  apply List.map_congr_left;intro v hv;exact foldI_cnt v p 0 0
 ·intro i hi b hb;obtain ⟨b1, b2, b3⟩ := hb;constructor
  ·simp only [ref27_parents.s2, lt_len hi, if_true, at_lt hi, Option.bind_some];by_cases e : p[i].Kind = 2
   ·simp only [e, not_true, if_false];have l3 : loopO (ref27_parents.s3 p ((i : Int), b.1, b.2)) (0, b.1, b.2) = some (bumpO i p[i].Right (bumpO i p[i].Left b.1), bumpC p[i].Right (bumpC p[i].Left b.2)) := by
     refine loopO_of (n := 3) ?_ (by unfold FUEL; omega);have g1 : ref27_parents.s3 p ((i : Int), b.1, b.2) (0, b.1, b.2) = some (.inl (1, bumpO i p[i].Left b.1, bumpC p[i].Left b.2)) := by
      unfold ref27_parents.s3;rw [if_pos (show (0 : Int) < 2 by omega), at_lt hi];simp only [Option.bind_some];rw [if_neg (show ¬ (0 : Int) = 1 by omega)];exact bump_eq (k := 0) b1 b2 hn (fun z hz => by have := b3 z hz; omega) ((i : Int), b.1, b.2) (by rfl)
     have g2 : ref27_parents.s3 p ((i : Int), b.1, b.2) (1, bumpO i p[i].Left b.1, bumpC p[i].Left b.2) = some (.inl (2, bumpO i p[i].Right (bumpO i p[i].Left b.1), bumpC p[i].Right (bumpC p[i].Left b.2))) := by
      unfold ref27_parents.s3;rw [if_pos (show (1 : Int) < 2 by omega), at_lt hi];simp only [Option.bind_some, if_true];exact bump_eq (k := 1) (by simp [bumpO, b1]) (by simp [bumpC, b2]) hn (fun z hz => by
       unfold bumpC at hz;obtain ⟨j, hj, rfl⟩ := List.mem_iff_getElem.1 hz;rw [List.getElem_mapIdx];have := b3 _ (List.getElem_mem (by simpa using hj : j < b.2.length));unfold b01;split <;> simp <;> omega) ((i : Int), b.1, b.2) (by rfl)
     have g3 : ∀ y, ref27_parents.s3 p ((i : Int), b.1, b.2) (2, y) = some (.inr y) := by
      intro y;unfold ref27_parents.s3;rw [if_neg (show ¬ (2 : Int) < 2 by omega)]
     simp only [iterO, g1, g2, g3]
    rw [l3];simp only [Option.bind_some];rw [wn (by omega)]
    congr 4
    ·unfold bumpO;apply List.ext_getElem
     ·simp
     ·intro j h1 h2;simp only [List.getElem_mapIdx, pF, e, true_and];by_cases c1 : p[i].Right = (j : Int)
      ·simp [c1]
      ·by_cases c2 : p[i].Left = (j : Int)
       ·simp [c1, c2]
       ·simp [c1, c2]
    ·unfold bumpC;apply List.ext_getElem
     ·simp
     ·intro j h1 h2;simp only [List.getElem_mapIdx, nm, e, if_true];omega
   ·simp only [e, not_false_eq_true, if_true];rw [wn (by omega)]
    congr 4
    ·apply List.ext_getElem
     ·simp
     ·intro j h1 h2;simp [pF, e]
    ·apply List.ext_getElem
     ·simp
     ·intro j h1 h2;simp [nm, e]
  ·intro b' h';cases h';refine ⟨by simp [b1], by simp [b2], fun z hz => ?_⟩;obtain ⟨j, hj, rfl⟩ := List.mem_iff_getElem.1 hz;rw [List.getElem_mapIdx];have := b3 _ (List.getElem_mem (by simpa using hj : j < b.2.length));have := nm_le j p[i];omega
 ·intro b _; simp only [ref27_parents.s2, not_lt_len, if_false]
 ·refine ⟨by simp, by simp, fun z hz => ?_⟩;have := List.eq_of_mem_replicate hz;omega
end Go.Sh
namespace Go.Sh
open Go.Lx
set_option linter.unusedVariables false
set_option linter.unusedSimpArgs false
set_option linter.deprecated false
def names (x : api_LinNode) (v : Nat) : Prop := x.Kind = 2 ∧ (x.Left = v ∨ x.Right = v)
theorem par_fold (v : Nat) : ∀ (l : List api_LinNode) (i : Nat) (s : Int), (foldI (fun i s x => pF i x v s) i l s = s ∧ ∀ k (h : k < l.length), ¬ names l[k] v) ∨ ∃ k, ∃ h : k < l.length, foldI (fun i s x => pF i x v s) i l s = ((i + k : Nat) : Int) ∧ names l[k] v
 | [], i, s => .inl ⟨rfl, fun k h => by simp at h⟩
 | x :: l, i, s => by
  simp only [foldI];rcases par_fold v l (i + 1) (pF i x v s) with ⟨h1, h2⟩ | ⟨k, h, h1, h2⟩
  ·by_cases e : x.Kind = 2 ∧ (x.Left = v ∨ x.Right = v)
   ·refine .inr ⟨0, by simp, ?_, e⟩;rw [h1]; unfold pF; rw [if_pos e]; simp
   ·refine .inl ⟨?_, ?_⟩
    ·rw [h1]; unfold pF; rw [if_neg e]
    ·intro k hk;cases k with
     | zero => exact e
     | succ k => exact h2 k (by simpa using hk)
  ·refine .inr ⟨k + 1, by simpa using h, ?_, h2⟩;rw [h1, show i + 1 + k = i + (k + 1) by omega]
theorem par_spec (p : List api_LinNode) (v : Nat) : (par p v = -1 ∧ ∀ k (h : k < p.length), ¬ names p[k] v) ∨ ∃ k, ∃ h : k < p.length, par p v = (k : Int) ∧ names p[k] v := by
 rcases par_fold v p 0 (-1) with h | ⟨k, h, h1, h2⟩
 ·exact .inl h
 ·exact .inr ⟨k, h, by rw [Nat.zero_add] at h1; exact h1, h2⟩
theorem foldl_sum (v : Int) : ∀ (l : List api_LinNode) (c : Nat), l.foldl (fun c x => c + nm v x) c = c + (l.map (nm v)).sum
 | [], c => by simp
 | x :: l, c => by rw [List.foldl_cons, foldl_sum v l]; simp; omega
theorem le_sum : ∀ (l : List Nat) (i : Nat) (h : i < l.length), l[i] ≤ l.sum
 | x :: l, 0, _ => by simp
 | x :: l, i + 1, h => by
  have := le_sum l i (by simpa using h);simp; omega
theorem two_sum : ∀ (l : List Nat) (i j : Nat) (hi : i < l.length) (hj : j < l.length), i < j → l[i] + l[j] ≤ l.sum
 | x :: l, 0, j + 1, _, hj, _ => by
  have := le_sum l j (by simpa using hj);simp; omega
 | x :: l, i + 1, j + 1, hi, hj, h => by
  have := two_sum l i j (by simpa using hi) (by simpa using hj) (by omega);simp; omega
structure P1 (p : List api_LinNode) : Prop where
 n : p.length ≤ 30
 ok : ∀ i (h : i < p.length), nErr p i p[i] = 0
theorem P1.get {p : List api_LinNode} (H : P1 p) {i : Nat} (hi : i < p.length) : (p[i].Kind = 0 ∨ p[i].Kind = 1 ∨ p[i].Kind = 2) ∧ (p[i].Kind = 2 → ((i : Int) + 1 ≤ p[i].Left ∧ p[i].Left < p.length) ∧ ((i : Int) + 1 ≤ p[i].Right ∧ p[i].Right < p.length)) ∧ (i = 0 ∨ cnt p i = 1) := by
 have h := H.ok i hi;unfold nErr at h;split at h
 case isFalse => cases h
 rename_i h1
 split at h
 case isFalse => cases h
 split at h
 case isFalse => cases h
 rename_i h3
 split at h
 case isFalse => cases h
 rename_i h4
 refine ⟨?_, ?_, ?_⟩
 ·unfold depend_inside at h1;simp only [Bool.and_eq_true, decide_eq_true_eq] at h1;omega
 ·intro hk;unfold rg depend_inside at h3;simp only [hk, beq_self_eq_true, Bool.not_true, Bool.false_or, Bool.and_eq_true, decide_eq_true_eq] at h3;omega
 ·simp only [Bool.or_eq_true, beq_iff_eq] at h4;omega
theorem P1.own {p : List api_LinNode} (H : P1 p) {j : Nat} (hj : j < p.length) {v : Nat} (h : names p[j] v) : par p v = (j : Int) ∧ p[j].Left ≠ p[j].Right ∧ j < v ∧ v < p.length := by
 obtain ⟨g1, g2, _⟩ := H.get hj;have g3 := g2 h.1;have hjv : j < v ∧ v < p.length := by rcases h.2 with e | e <;> omega
 have hc : cnt p v = 1 := by
  rcases (H.get hjv.2).2.2 with e | e
  ·omega
  ·exact e
 have hs : cnt p v = (p.map (nm v)).sum := by unfold cnt; rw [foldl_sum]; omega
 have one : ∀ k (hk : k < p.length), names p[k] v → 1 ≤ nm v p[k] := by
  intro k hk hnk;unfold nm b01;rw [if_pos hnk.1];rcases hnk.2 with e | e
  ·rw [if_pos e]; omega
  ·rw [if_pos e]; omega
 refine ⟨?_, ?_, hjv⟩
 ·rcases par_spec p v with ⟨_, h2⟩ | ⟨k, hk, h1, h2⟩
  ·exact absurd h (h2 j hj)
  ·by_cases e : k = j
   ·rw [h1, e]
   ·have a1 := one j hj h;have a2 := one k hk h2;have hk' : k < (p.map (nm v)).length := by simpa using hk
    have hj' : j < (p.map (nm v)).length := by simpa using hj
    rcases Nat.lt_or_gt_of_ne e with c | c
    ·have := two_sum (p.map (nm v)) k j hk' hj' c;simp only [List.getElem_map] at this;omega
    ·have := two_sum (p.map (nm v)) j k hj' hk' c;simp only [List.getElem_map] at this;omega
 ·intro e;have hj' : j < (p.map (nm v)).length := by simpa using hj
  have := le_sum (p.map (nm v)) j hj';simp only [List.getElem_map] at this;have h2 : nm v p[j] = 2 := by
   unfold nm b01;rw [if_pos h.1];rcases h.2 with c | c
   ·rw [if_pos c, if_pos (by omega)]
   ·rw [if_pos c, if_pos (by omega)]
  omega
theorem P1.par_lt {p : List api_LinNode} (H : P1 p) (v : Nat) : par p v < 0 ∨ ∃ j, ∃ hj : j < p.length, par p v = (j : Int) ∧ j < v ∧ v < p.length ∧ names p[j] v := by
 rcases par_spec p v with ⟨h1, _⟩ | ⟨k, hk, h1, h2⟩
 ·exact .inl (by omega)
 ·obtain ⟨_, _, a, b⟩ := H.own hk h2;exact .inr ⟨k, hk, h1, a, b, h2⟩
def d0 : api_LinNode := ⟨0, [], 0, 0, 0, 0, 0⟩
def aR (n : Nat) (up : api_LinNode) (v : Nat) : api_LinRow :=
 if up.Right = (v : Int) then ⟨(List.replicate n 0).set up.Var.toNat 1, w (w (0 - up.At) - 1), false⟩ else ⟨(List.replicate n 0).set up.Var.toNat (-1), up.At, false⟩
def chn (p : List api_LinNode) (n : Nat) : Nat → Nat → List api_LinRow
 | 0, _ => []
 | m + 1, v => if par p v < 0 then [] else chn p n m (par p v).toNat ++ [aR n ((p[(par p v).toNat]?).getD d0) v]
theorem chn_more {p : List api_LinNode} (H : P1 p) (n : Nat) : ∀ (m m' v : Nat), v < m → v < m' → chn p n m v = chn p n m' v
 | 0, _, _, h, _ => by omega
 | m + 1, 0, _, _, h => by omega
 | m + 1, m' + 1, v, h, h' => by
  simp only [chn];rcases H.par_lt v with e | ⟨j, hj, e, hjv, _⟩
  ·rw [if_pos e, if_pos e]
  ·rw [e];have hn : ¬ (j : Int) < 0 := by omega
   rw [if_neg hn, if_neg hn, chn_more H n m m' _ (by simp; omega) (by simp; omega)]
def C (p : List api_LinNode) (n v : Nat) : List api_LinRow := chn p n (v + 1) v
theorem C_root {p : List api_LinNode} {n v : Nat} (h : par p v < 0) : C p n v = [] := by
 unfold C chn; rw [if_pos h]
theorem C_step {p : List api_LinNode} (H : P1 p) {n v j : Nat} (hj : j < p.length) (h : par p v = (j : Int)) (hv : j < v) : C p n v = C p n j ++ [aR n p[j] v] := by
 have hn : ¬ (j : Int) < 0 := by omega
 have e : (p[((j : Int)).toNat]?).getD d0 = p[j] := by simp [hj]
 have : C p n v = chn p n v j ++ [aR n p[j] v] := by
  show chn p n (v + 1) v = _
  simp only [chn];rw [h, if_neg hn, e];simp
 rw [this, chn_more H n v (j + 1) j hv (by omega)];rfl
theorem C_len {p : List api_LinNode} (H : P1 p) (n : Nat) : ∀ (m v : Nat), v < m → (C p n v).length ≤ v
 | 0, _, h => by omega
 | m + 1, v, h => by
  rcases H.par_lt v with e | ⟨j, hj, e, hjv, _⟩
  ·rw [C_root e]; simp
  ·rw [C_step H hj e hjv];have := C_len H n m j (by omega);simp; omega
theorem aR_len (n : Nat) (up : api_LinNode) (v : Nat) : (aR n up v).Coefs.length = n := by
 unfold aR; split <;> simp
theorem C_coefs {p : List api_LinNode} (H : P1 p) (n : Nat) : ∀ (m v : Nat), v < m → ∀ r, r ∈ C p n v → r.Coefs.length = n
 | 0, _, h, _, _ => by omega
 | m + 1, v, h, r, hr => by
  rcases H.par_lt v with e | ⟨j, hj, e, hjv, _⟩
  ·rw [C_root e] at hr; cases hr
  ·rw [C_step H hj e hjv] at hr;rcases List.mem_append.1 hr with hr | hr
   ·exact C_coefs H n m j (by omega) r hr
   ·rw [List.mem_singleton.1 hr]; exact aR_len _ _ _
def Vok (x : api_LinSystem) (p : List api_LinNode) (i : Nat) : Prop := ∀ j (h : j < p.length), j < i → p[j].Kind = 2 → 0 ≤ p[j].Var ∧ p[j].Var < x.Vars
theorem app_lt' {α : Type} {xs ys : List α} (h : xs.length + ys.length ≤ 16777216) : app xs ys = some (xs ++ ys) := by unfold app; rw [if_pos h]
theorem known_eq {x : api_LinSystem} (vs : VS x) {n : Nat} (hn : x.Vars = n) {p : List api_LinNode} (H : P1 p) : ∀ (m v : Nat), v < m → v < p.length → Vok x p v → ref27_known.N m x p ((List.range p.length).map (par p)) v = some (x.Rows ++ C p n v)
 | 0, v, h, _, _ => by omega
 | m + 1, v, h, hv, hok => by
  have hr := vs.n;have hp := H.n;have hlv : v < ((List.range p.length).map (par p)).length := by simpa using hv
  have ha : at_ ((List.range p.length).map (par p)) (v : Int) = some (par p v) := by rw [at_lt hlv]; simp
  show ref27_known.F (ref27_known.N m) x p _ v = _
  unfold ref27_known.F;simp only [ha, Option.bind_some];rcases H.par_lt v with e | ⟨j, hj, e, hjv, hvl, hnm⟩
  ·rw [if_pos e, app_nil (by omega), C_root e];simp
  ·have hneg : ¬ (j : Int) < 0 := by omega
   obtain ⟨o1, o2⟩ := hok j hj hjv hnm.1;obtain ⟨k, hk⟩ : ∃ k : Nat, p[j].Var = (k : Int) := ⟨p[j].Var.toNat, by omega⟩
   have hkn : k < n := by omega
   have ih := known_eq vs hn H m j (by omega) hj (fun i hi hij => hok i hi (by omega));have hcl := C_len H n (j + 1) j (by omega);have hmk : mkSl x.Vars (0 : Int) = some (List.replicate n 0) := by
    unfold mkSl;have := vs.v8;rw [if_pos (by omega), hn];simp
   have k1 : k < (List.replicate n (0 : Int)).length := by simpa using hkn
   have k2 : k < ((List.replicate n (0 : Int)).set k (-1)).length := by simpa using hkn
   rw [e, if_neg hneg, at_lt hj];simp only [Option.bind_some];rw [ih, hmk];simp only [Option.bind_some, hk, at_lt k1];rw [C_step H hj e hjv];unfold aR;by_cases c : p[j].Right = (v : Int)
   ·rw [if_pos c, if_pos c];simp only [Int.toNat_natCast, at_lt k2, Option.bind_some, List.set_set, hk];rw [app_lt' (by simp; omega)];simp
   ·rw [if_neg c, if_neg c];simp only [Int.toNat_natCast, hk];rw [app_lt' (by simp; omega)];simp
def ad (wt : Int) (s c : List Int) : List Int := List.zipWith (fun s c => w (s + w (wt * c))) s c
def addF (nd : api_LinNode) (k : Nat) (b : Int × List Int) (r : api_LinRow) : Sum (Int × List Int) (Int × List Int) :=
 if ((!r.Equal) && ((decide (nd.Weights.getD k 0 < 0)) || ((nd.Kind == 1) && (nd.Weights.getD k 0 != 0)))) = true then .inl b else .inr (w (b.1 + w (nd.Weights.getD k 0 * r.Const)), ad (nd.Weights.getD k 0) b.2 r.Coefs)
theorem ad_len {wt : Int} {s c : List Int} (h : s.length = c.length) : (ad wt s c).length = s.length := by simp [ad, h]
theorem ad_idx {wt : Int} {s c : List Int} (h : s.length = c.length) : s.mapIdx (fun v s => w (s + w (wt * c.getD v 0))) = ad wt s c := by
 apply List.ext_getElem
 ·simp [ad, h]
 ·intro i h1 h2;have hi : i < c.length := by simp at h1; omega
  simp [ad, List.getD, hi]
theorem addDep_eq {wt : Int} {r : api_LinRow} {s : List Int} (h : s.length = r.Coefs.length) (hn : s.length < 16777216) : loopO (depend_checker_added.s2 wt r) (0, s) = some (ad wt s r.Coefs) := by
 rw [loop_set (step := depend_checker_added.s2 wt r) s (fun v s => w (s + w (wt * r.Coefs.getD v 0))) (fun i b => (i, b)) (fun b => b) rfl ?_ ?_ (by omega)]
 ·rw [ad_idx h]
 ·intro i hi b hb hbi;have h1 : i < r.Coefs.length := by omega
  have h2 : i < b.length := by omega
  have e1 : r.Coefs.getD i 0 = r.Coefs[i] := by simp [List.getD, h1]
  have e2 : b[i] = s[i] := by rw [List.getElem?_eq_getElem h2] at hbi; exact Option.some.inj hbi
  simp only [depend_checker_added.s2, lt_len h1, if_true, at_lt h1, at_lt h2, Option.bind_some, Int.toNat_natCast, e1, e2];rw [wn (by omega)]
 ·intro b hb;have : ((s.length : Int) < (r.Coefs.length : Int)) = False := eq_false (by omega);simp only [depend_checker_added.s2, this, if_false]
theorem addRef_eq {x : api_LinSystem} {K : List api_LinRow} {k : Nat} (hk : k < K.length) {c : Int} {s0 : List Int} {wt : Int} {s : List Int} (h : s.length = K[k].Coefs.length) (hv : x.Vars = (s.length : Int)) (hn : s.length < 16777216) : loopO (ref27_right.s2 x K ((k : Int), c, s0) wt) (0, s) = some (ad wt s K[k].Coefs) := by
 rw [loop_set (step := ref27_right.s2 x K ((k : Int), c, s0) wt) s (fun v s => w (s + w (wt * K[k].Coefs.getD v 0))) (fun i b => (i, b)) (fun b => b) rfl ?_ ?_ (by omega)]
 ·rw [ad_idx h]
 ·intro i hi b hb hbi;have h1 : i < K[k].Coefs.length := by omega
  have h2 : i < b.length := by omega
  have e1 : K[k].Coefs.getD i 0 = K[k].Coefs[i] := by simp [List.getD, h1]
  have e2 : b[i] = s[i] := by rw [List.getElem?_eq_getElem h2] at hbi; exact Option.some.inj hbi
  have hlt : ((i : Int) < x.Vars) = True := eq_true (by omega);simp only [ref27_right.s2, hlt, if_true, at_lt hk, at_lt h1, at_lt h2, Option.bind_some, Int.toNat_natCast, e1, e2];rw [wn (by omega)]
 ·intro b hb;have : ((s.length : Int) < x.Vars) = False := eq_false (by omega);simp only [ref27_right.s2, this, if_false]
theorem added_scan {nd : api_LinNode} {K : List api_LinRow} {n : Nat} (hw : nd.Weights.length = K.length) (hK : K.length ≤ 100) (hc : ∀ r, r ∈ K → r.Coefs.length = n) (hn : n ≤ 8) :
  loopO (depend_checker_added.s1 nd K) (0, 0, List.replicate n 0) = some (match scanE (addF nd) 0 K (0, List.replicate n 0) with | .inl b => .inr (⟨b.2, b.1, false⟩, false) | .inr b => .inl (b.1, b.2)) := by
 rw [loop_scan (step := depend_checker_added.s1 nd K) K (fun i (b : Int × List Int) => (i, b.1, b.2)) (fun b => .inr (⟨b.2, b.1, false⟩, false)) (fun b => .inl (b.1, b.2)) (addF nd) (fun _ b => b.2.length = n) (a := (0, List.replicate n 0)) (s := (0, 0, List.replicate n 0)) rfl ?_ ?_ (by simp) (by omega)]
 ·generalize scanE (addF nd) 0 K (0, List.replicate n 0) = q;cases q <;> rfl
 ·intro i hi b hb;have hi2 : i < nd.Weights.length := by omega
  have e1 : nd.Weights.getD i 0 = nd.Weights[i] := by simp [List.getD, hi2]
  have hr := hc _ (List.getElem_mem hi);constructor
  ·simp only [depend_checker_added.s1, lt_len hi2, if_true, at_lt hi2, at_lt hi, Option.bind_some, addF, e1];by_cases c : ((!K[i].Equal) && ((decide (nd.Weights[i] < 0)) || ((nd.Kind == 1) && (nd.Weights[i] != 0)))) = true
   ·simp only [c, if_true]
   ·simp only [c, if_false, Bool.false_eq_true];rw [addDep_eq (by omega) (by omega)];simp only [Option.bind_some];rw [wn (by omega)]
  ·intro b' h';unfold addF at h';split at h'
   ·cases h'
   ·cases h'; simp only; rw [ad_len (by omega)]; exact hb
 ·intro b _;have : ((K.length : Int) < (nd.Weights.length : Int)) = False := eq_false (by omega);simp only [depend_checker_added.s1, this, if_false]
theorem right_scan {x : api_LinSystem} {nd : api_LinNode} {K : List api_LinRow} {n : Nat} (hv : x.Vars = n) (hw : nd.Weights.length = K.length) (hK : K.length ≤ 100) (hc : ∀ r, r ∈ K → r.Coefs.length = n) (hn : n ≤ 8) :
  loopO (ref27_right.s1 x nd K) (0, 0, List.replicate n 0) = some (match scanE (addF nd) 0 K (0, List.replicate n 0) with | .inl b => .inr false | .inr b => .inl (b.1, b.2)) := by
 rw [loop_scan (step := ref27_right.s1 x nd K) K (fun i (b : Int × List Int) => (i, b.1, b.2)) (fun b => .inr false) (fun b => .inl (b.1, b.2)) (addF nd) (fun _ b => b.2.length = n) (a := (0, List.replicate n 0)) (s := (0, 0, List.replicate n 0)) rfl ?_ ?_ (by simp) (by omega)]
 ·generalize scanE (addF nd) 0 K (0, List.replicate n 0) = q;cases q <;> rfl
 ·intro i hi b hb;have hi2 : i < nd.Weights.length := by omega
  have e1 : nd.Weights.getD i 0 = nd.Weights[i] := by simp [List.getD, hi2]
  have hr := hc _ (List.getElem_mem hi);constructor
  ·simp only [ref27_right.s1, lt_len hi, if_true, at_lt hi2, at_lt hi, Option.bind_some, addF, e1];by_cases c : ((!K[i].Equal) && ((decide (nd.Weights[i] < 0)) || ((nd.Kind == 1) && (nd.Weights[i] != 0)))) = true
   ·simp only [c, if_true]
   ·simp only [c, if_false, Bool.false_eq_true];rw [addRef_eq hi (by omega) (by omega) (by omega)];simp only [Option.bind_some];rw [wn (by omega)]
  ·intro b' h';unfold addF at h';split at h'
   ·cases h'
   ·cases h'; simp only; rw [ad_len (by omega)]; exact hb
 ·intro b _; simp only [ref27_right.s1, not_lt_len, if_false]
end Go.Sh
namespace Go.Sh
open Go.Lx
set_option linter.unusedVariables false
set_option linter.unusedSimpArgs false
set_option linter.deprecated false
def fin (nd : api_LinNode) (b : Int × List Int) : Bool :=
 if nd.Kind = 0 then (decide (b.1 < 0)) && !b.2.any (· != 0) else (decide (nd.Divisor ≥ 2)) && ((b.1.tmod nd.Divisor != 0) && !b.2.any fun c => c.tmod nd.Divisor != 0)
def rgt (n : Nat) (nd : api_LinNode) (K : List api_LinRow) : Bool :=
 if nd.Weights.length = K.length then (match scanE (addF nd) 0 K (0, List.replicate n 0) with | .inl _ => false | .inr b => fin nd b) else false
def rB (x : api_LinSystem) (p : List api_LinNode) (n i : Nat) (nd : api_LinNode) : Bool :=
 if nd.Kind = 2 then depend_inside nd.Var 0 (x.Vars - 1) else rgt n nd (x.Rows ++ C p n i)
theorem c1_eq {p : List Int} (h : p.length < 16777216) : slices_ContainsFunc_int__depend_checker_isRight_c1 p = some (p.any (· != 0)) := by
 unfold slices_ContainsFunc_int__depend_checker_isRight_c1 slices_IndexFunc_int__depend_checker_isRight_c1;obtain ⟨k, hk⟩ := loop_any (step := slices_IndexFunc_int__depend_checker_isRight_c1.s1 p) p (· != 0) (fun i => Sum.inr i) (Sum.inl ()) (s := 0) rfl (fun i hi => by
  simp only [slices_IndexFunc_int__depend_checker_isRight_c1.s1, lt_len hi, if_true, at_lt hi, Option.bind_some, depend_checker_isRight_c1];by_cases e : (p[i] != 0) = true
  ·simp only [e, if_true]
  ·simp only [e, if_false, Bool.false_eq_true]; rw [wn (by omega)]) (by simp only [slices_IndexFunc_int__depend_checker_isRight_c1.s1, not_lt_len, if_false]) (by omega)
 rw [hk];by_cases e : p.any (· != 0) = true
 ·simp only [e, if_true, Option.bind_some];have : (k : Int) ≥ 0 := by omega
  simp [this]
 ·have e' : p.any (· != 0) = false := by rw [Bool.eq_false_iff]; exact e
  simp only [e', if_false, Option.bind_some, Bool.false_eq_true];rfl
theorem c2_eq {p : List Int} {nd : api_LinNode} (h : p.length < 16777216) (hd : nd.Divisor ≥ 2) : slices_ContainsFunc_int__depend_checker_isRight_c2 p nd = some (p.any fun c => c.tmod nd.Divisor != 0) := by
 have hd0 : ¬ nd.Divisor = 0 := by omega
 unfold slices_ContainsFunc_int__depend_checker_isRight_c2 slices_IndexFunc_int__depend_checker_isRight_c2;obtain ⟨k, hk⟩ := loop_any (step := slices_IndexFunc_int__depend_checker_isRight_c2.s1 p nd) p (fun c => c.tmod nd.Divisor != 0) (fun i => Sum.inr i) (Sum.inl ()) (s := 0) rfl (fun i hi => by
  simp only [slices_IndexFunc_int__depend_checker_isRight_c2.s1, lt_len hi, if_true, at_lt hi, Option.bind_some, depend_checker_isRight_c2, rem, hd0, if_false];by_cases e : (p[i].tmod nd.Divisor != 0) = true
  ·simp only [e, if_true]
  ·simp only [e, if_false, Bool.false_eq_true]; rw [wn (by omega)]) (by simp only [slices_IndexFunc_int__depend_checker_isRight_c2.s1, not_lt_len, if_false]) (by omega)
 rw [hk];by_cases e : p.any (fun c => c.tmod nd.Divisor != 0) = true
 ·simp only [e, if_true, Option.bind_some];have : (k : Int) ≥ 0 := by omega
  simp [this]
 ·have e' : p.any (fun c => c.tmod nd.Divisor != 0) = false := by rw [Bool.eq_false_iff]; exact e
  simp only [e', if_false, Option.bind_some, Bool.false_eq_true];rfl
theorem concat_eq {A B : List api_LinRow} (h : A.length + B.length ≤ 1000) : slices_Concat_api_LinRow [A, B] = some (A ++ B) := by
 unfold slices_Concat_api_LinRow;rw [loop_fold (step := slices_Concat_api_LinRow.s1 [A, B]) [A, B] (fun i (c : Nat) => ((c : Int), i)) (fun c => (c : Int)) (fun c x => c + x.length) (fun i c => c + (([A, B].drop i).map List.length).sum ≤ 1000) (a := 0) (s := (0, 0)) rfl ?_ ?_ (by simp; omega) (by simp)]
 ·simp only [Option.bind_some, List.foldl_cons, List.foldl_nil, slices_Grow_api_LinRow];rw [if_pos (by omega)];simp only [Option.bind_some];rw [loop_fold (step := slices_Concat_api_LinRow.s2 [A, B]) [A, B] (fun i (c : List api_LinRow) => (i, c)) (fun c => c) (fun c x => c ++ x) (fun i c => c.length + (([A, B].drop i).map List.length).sum ≤ 1000) (a := []) rfl ?_ ?_ (by simp; omega) (by simp)]
  ·simp
  ·intro i hi c hc;have hd : [A, B].drop i = [A, B][i] :: [A, B].drop (i + 1) := List.drop_eq_getElem_cons hi;rw [hd] at hc;simp only [List.map_cons, List.sum_cons] at hc;refine ⟨?_, by rw [List.length_append]; omega⟩;simp only [slices_Concat_api_LinRow.s2, lt_len hi, if_true, at_lt hi, Option.bind_some];rw [app_lt' (by omega)];simp only [Option.bind_some];rw [wn (by simp at hi; omega)]
  ·intro c _; simp only [slices_Concat_api_LinRow.s2, not_lt_len, if_false]
 ·intro i hi c hc;have hd : [A, B].drop i = [A, B][i] :: [A, B].drop (i + 1) := List.drop_eq_getElem_cons hi;rw [hd] at hc;simp only [List.map_cons, List.sum_cons] at hc;refine ⟨?_, by omega⟩;have hw : w ((c : Int) + ([A, B][i].length : Int)) = ((c + [A, B][i].length : Nat) : Int) := by rw [w_id (by omega) (by omega)]; omega
  simp only [slices_Concat_api_LinRow.s1, lt_len hi, if_true, at_lt hi, Option.bind_some, hw];rw [if_neg (by omega), wn (by simp at hi; omega)]
 ·intro c _; simp only [slices_Concat_api_LinRow.s1, not_lt_len, if_false]
theorem cloneR_eq {p : List api_LinRow} (h : p.length ≤ 16777216) : slices_Clone_api_LinRow p = some p := by
 unfold slices_Clone_api_LinRow; rw [app_nil h]; rfl
theorem scan_len {nd : api_LinNode} {n : Nat} : ∀ (K : List api_LinRow) (i : Nat) (b b' : Int × List Int), b.2.length = n → (∀ r, r ∈ K → r.Coefs.length = n) → scanE (addF nd) i K b = .inr b' → b'.2.length = n
 | [], i, b, b', h, _, e => by cases e; exact h
 | r :: K, i, b, b', h, hc, e => by
  simp only [scanE, addF] at e;split at e
  ·cases e
  ·rename_i b1 hb1
   split at hb1
   ·cases hb1
   ·cases hb1;exact scan_len K (i + 1) _ b' (by simp only; rw [ad_len (by rw [h, hc r (by simp)])]; exact h) (fun r hr => hc r (List.mem_cons_of_mem _ hr)) e
def nb (x : api_LinSystem) (p : List api_LinNode) (n i : Nat) (nd : api_LinNode) (b : List (List api_LinRow)) : List (List api_LinRow) :=
 if nd.Kind = 2 ∧ rB x p n i nd = true then (b.set nd.Left.toNat (C p n nd.Left.toNat)).set nd.Right.toNat (C p n nd.Right.toNat) else b
structure Q1 (x : api_LinSystem) (p : List api_LinNode) (n : Nat) : Prop where
 vs : VS x
 hn : x.Vars = n
 H : P1 p
theorem Q1.rows {x : api_LinSystem} {p : List api_LinNode} {n : Nat} (Q : Q1 x p n) {i : Nat} (hi : i < p.length) : (x.Rows ++ C p n i).length ≤ 100 ∧ ∀ r, r ∈ x.Rows ++ C p n i → r.Coefs.length = n := by
 have h1 := Q.vs.n;have h2 := Q.H.n;have h3 := C_len Q.H n (i + 1) i (by omega);have h4 := Q.hn;refine ⟨by rw [List.length_append]; omega, fun r hr => ?_⟩;rcases List.mem_append.1 hr with hr | hr
 ·have := (Q.vs.f r hr).1; omega
 ·exact C_coefs Q.H n (i + 1) i (by omega) r hr
theorem isRight_eq {x : api_LinSystem} {p : List api_LinNode} {n : Nat} (Q : Q1 x p n) {i : Nat} (hi : i < p.length) {b : List (List api_LinRow)} (hb : b.length = p.length) (hbi : b[i]'(by omega) = C p n i) :
  depend_checker_isRight i x.Vars x.Rows p b = some (rB x p n i p[i], nb x p n i p[i] b) := by
 have hvs := Q.vs;have hv1 := hvs.v1;have hv8 := hvs.v8;have hn := Q.hn;have hp := Q.H.n;have hib : i < b.length := by omega
 obtain ⟨r1, r2⟩ := Q.rows hi;have hcl := C_len Q.H n (i + 1) i (by omega);have hmk : mkSl x.Vars (0 : Int) = some (List.replicate n 0) := by
  unfold mkSl;rw [if_pos (by omega), hn];simp
 unfold depend_checker_isRight;rw [at_lt hi];simp only [Option.bind_some];rw [w_id (n := x.Vars - 1) (by omega) (by omega)];by_cases hk : p[i].Kind = 2
 ·simp only [hk, if_true];by_cases hin : depend_inside p[i].Var 0 (x.Vars - 1) = true
  ·have hin' := hin;unfold depend_inside at hin';simp only [Bool.and_eq_true, decide_eq_true_eq] at hin';obtain ⟨k, hkv⟩ : ∃ k : Nat, p[i].Var = (k : Int) := ⟨p[i].Var.toNat, by omega⟩
   have hkn : k < (List.replicate n (0 : Int)).length := by simp; omega
   obtain ⟨⟨l1, l2⟩, l3, l4⟩ := (Q.H.get hi).2.1 hk;obtain ⟨L, hL⟩ : ∃ L : Nat, p[i].Left = (L : Int) := ⟨p[i].Left.toNat, by omega⟩
   obtain ⟨R, hR⟩ : ∃ R : Nat, p[i].Right = (R : Int) := ⟨p[i].Right.toNat, by omega⟩
   obtain ⟨pL, ne, iL, nL⟩ := Q.H.own hi (v := L) ⟨hk, .inl hL⟩;obtain ⟨pR, _, iR, nR⟩ := Q.H.own hi (v := R) ⟨hk, .inr hR⟩;have cL := C_step Q.H (n := n) hi pL iL;have cR := C_step Q.H (n := n) hi pR iR;have aL : aR n p[i] L = ⟨(List.replicate n 0).set k (-1), p[i].At, false⟩ := by
    unfold aR;rw [if_neg (by omega), hkv];simp
   have aRR : aR n p[i] R = ⟨(List.replicate n 0).set k 1, w (w (0 - p[i].At) - 1), false⟩ := by
    unfold aR;rw [if_pos hR, hkv];simp
   have hLb : L < b.length := by omega
   have hRb : R < (b.set L (C p n L)).length := by simp; omega
   have hib2 : i < (b.set L (C p n L)).length := by simp; omega
   have hg : (b.set L (C p n L))[i]'hib2 = C p n i := by
    rw [List.getElem_set_ne (by omega)]; exact hbi
   have hrB : rB x p n i p[i] = true := by unfold rB; rw [if_pos hk, hin]
   have hnb : nb x p n i p[i] b = (b.set L (C p n L)).set R (C p n R) := by
    unfold nb;rw [if_pos ⟨hk, hrB⟩, hL, hR];simp
   have hink : depend_inside (k : Int) 0 (x.Vars - 1) = true := by rw [← hkv]; exact hin
   simp only [hkv, hink, not_true, if_false, hmk, Option.bind_some, at_lt hkn, at_lt hib, hbi, Int.toNat_natCast];rw [cloneR_eq (by omega)];simp only [Option.bind_some];rw [app_lt' (by simp; omega)];simp only [Option.bind_some, hL, hR, at_lt hLb, Int.toNat_natCast];rw [← aL, ← cL, at_lt hib2, hg];simp only [Option.bind_some];rw [cloneR_eq (by omega)];simp only [Option.bind_some];rw [app_lt' (by simp; omega)];simp only [Option.bind_some, at_lt hRb];rw [← aRR, ← cR, hrB, hnb]
  ·have hrB : rB x p n i p[i] = false := by unfold rB; rw [if_pos hk, Bool.eq_false_iff]; exact hin
   have hnb : nb x p n i p[i] b = b := by unfold nb; rw [if_neg (by rw [hrB]; simp)]
   simp only [hin, not_false_eq_true, if_true, hrB, hnb, Bool.false_eq_true]
 ·have hnb : nb x p n i p[i] b = b := by unfold nb; rw [if_neg (by intro h; exact hk h.1)]
  have hrB : rB x p n i p[i] = rgt n p[i] (x.Rows ++ C p n i) := by unfold rB; rw [if_neg hk]
  rw [hnb, hrB];simp only [hk, if_false];unfold depend_checker_added;simp only [at_lt hi, Option.bind_some, hmk, at_lt hib, hbi];rw [concat_eq (by rw [List.length_append] at r1; omega)];simp only [Option.bind_some];unfold rgt;by_cases hw : p[i].Weights.length = (x.Rows ++ C p n i).length
  ·have hw' : (p[i].Weights.length : Int) = ((x.Rows ++ C p n i).length : Int) := by omega
   simp only [hw', hw, not_true, if_false, if_true];rw [added_scan hw r1 r2 (by omega)];cases hs : scanE (addF p[i]) 0 (x.Rows ++ C p n i) (0, List.replicate n 0) with
   | inl q => simp only [Option.bind_some, Bool.false_eq_true, not_false_eq_true, if_true]
   | inr q =>
    have hql := scan_len _ _ _ _ (by simp) r2 hs;simp only [Option.bind_some, not_true, if_false, fin];by_cases hk0 : p[i].Kind = 0
    ·simp only [hk0, if_true];by_cases hc : q.1 < 0
     ·simp only [hc, if_true, decide_true, Bool.true_and];rw [c1_eq (by omega)];rfl
     ·simp only [hc, if_false, decide_false, Bool.false_and]
    ·simp only [hk0, if_false];by_cases hd : p[i].Divisor ≥ 2
     ·have hd0 : ¬ p[i].Divisor = 0 := by omega
      simp only [hd, if_true, decide_true, Bool.true_and, rem, hd0, if_false, Option.bind_some];by_cases hm : q.1.tmod p[i].Divisor = 0
      ·simp only [hm, not_true, if_false, bne_self_eq_false, Bool.false_and]
      ·have hm' : (q.1.tmod p[i].Divisor != 0) = true := by simpa using hm
       simp only [hm, not_false_eq_true, if_true, hm', Bool.true_and];rw [c2_eq (by omega) hd];rfl
     ·simp only [hd, if_false, decide_false, Bool.false_and]
  ·have hw' : ¬ (p[i].Weights.length : Int) = ((x.Rows ++ C p n i).length : Int) := by omega
   simp only [hw', hw, not_false_eq_true, if_true, if_false, Bool.false_eq_true, Option.bind_some]
theorem right_eq {x : api_LinSystem} {p : List api_LinNode} {n : Nat} (Q : Q1 x p n) {i : Nat} (hi : i < p.length) (hok : Vok x p i) :
  ref27_right x p ((List.range p.length).map (par p)) i = some (rB x p n i p[i]) := by
 have hvs := Q.vs;have hv1 := hvs.v1;have hv8 := hvs.v8;have hn := Q.hn;have hp := Q.H.n;obtain ⟨r1, r2⟩ := Q.rows hi;have hmk : mkSl x.Vars (0 : Int) = some (List.replicate n 0) := by
  unfold mkSl;rw [if_pos (by omega), hn];simp
 unfold ref27_right;rw [at_lt hi];simp only [Option.bind_some, within_eq];rw [w_id (n := x.Vars - 1) (by omega) (by omega)];by_cases hk : p[i].Kind = 2
 ·simp only [hk, if_true, rB]
 ·have hrB : rB x p n i p[i] = rgt n p[i] (x.Rows ++ C p n i) := by unfold rB; rw [if_neg hk]
  have hkn : ref27_known x p ((List.range p.length).map (par p)) i = some (x.Rows ++ C p n i) := by
   show ref27_known.N FUEL x p _ i = _
   exact known_eq hvs hn Q.H FUEL i (by unfold FUEL; omega) hi hok
  rw [hrB, hkn];simp only [hk, if_false, Option.bind_some];unfold rgt;by_cases hw : p[i].Weights.length = (x.Rows ++ C p n i).length
  ·have hw' : (p[i].Weights.length : Int) = ((x.Rows ++ C p n i).length : Int) := by omega
   simp only [hw', hw, not_true, if_false, if_true, hmk, Option.bind_some];rw [right_scan hn hw r1 r2 (by omega)];cases hs : scanE (addF p[i]) 0 (x.Rows ++ C p n i) (0, List.replicate n 0) with
   | inl q => simp only [Option.bind_some]
   | inr q =>
    have hql := scan_len _ _ _ _ (by simp) r2 hs;simp only [Option.bind_some, fin];have hkk := (Q.H.get hi).1;by_cases hk0 : p[i].Kind = 0
    ·have hk1 : ¬ (0 : Int) = 1 := by omega
     have hb1 : (((0 : Int) == 1) && (decide (p[i].Divisor < 2))) = false := by rfl
     simp only [hk0, hb1, Bool.false_eq_true, if_false, if_true, beq_self_eq_true, Bool.true_and, hk1];rw [loop_find (step := ref27_right.s3 x p[i] (q.1, q.2)) q.2 (fun c => if (c != 0) = true then some () else none) (fun _ => .inr false) (.inl ()) rfl ?_ ?_ (by omega), findSome_const]
     ·by_cases ha : q.2.any (· != 0) = true
      ·simp only [ha, if_true, Option.bind_some, Bool.not_true, Bool.and_false]
      ·have ha' : q.2.any (· != 0) = false := by rw [Bool.eq_false_iff]; exact ha
       simp only [ha', if_false, Option.bind_some, Bool.false_eq_true, Bool.not_false, Bool.and_true];by_cases hc : q.1 < 0
       ·simp only [hc, decide_true, if_true]
       ·simp only [hc, decide_false, if_false, Bool.false_eq_true]
     ·intro j hj;have hlt : ((j : Int) < x.Vars) = True := eq_true (by omega);simp only [ref27_right.s3, hlt, if_true, hk0, at_lt hj, Option.bind_some, hk1, if_false];by_cases hz : q.2[j] = 0
      ·simp only [hz, not_true, if_false, bne_self_eq_false, Bool.false_eq_true]; rw [wn (by omega)]
      ·have hz' : (q.2[j] != 0) = true := by simpa using hz
       simp only [hz, hz', not_false_eq_true, if_true]
     ·have hlt : ((q.2.length : Int) < x.Vars) = False := eq_false (by omega);simp only [ref27_right.s3, hlt, if_false]
    ·have hk1 : p[i].Kind = 1 := by omega
     have hk01 : ¬ (1 : Int) = 0 := by omega
     have hb0 : ((1 : Int) == 0) = false := by rfl
     simp only [hk1, hk01, hb0, if_false, if_true, beq_self_eq_true, Bool.true_and, Bool.false_and, Bool.false_eq_true];by_cases hd : p[i].Divisor ≥ 2
     ·have hd0 : ¬ p[i].Divisor = 0 := by omega
      have hd1 : ¬ p[i].Divisor < 2 := by omega
      simp only [hd, hd1, decide_true, decide_false, Bool.false_eq_true, if_false, Bool.true_and];rw [loop_find (step := ref27_right.s3 x p[i] (q.1, q.2)) q.2 (fun c => if (c.tmod p[i].Divisor != 0) = true then some () else none) (fun _ => .inr false) (.inl ()) rfl ?_ ?_ (by omega), findSome_const]
      ·by_cases ha : q.2.any (fun c => c.tmod p[i].Divisor != 0) = true
       ·simp only [ha, if_true, Option.bind_some, Bool.not_true, Bool.and_false]
       ·have ha' : q.2.any (fun c => c.tmod p[i].Divisor != 0) = false := by rw [Bool.eq_false_iff]; exact ha
        simp only [ha', if_false, Option.bind_some, Bool.false_eq_true, Bool.not_false, Bool.and_true, rem, hd0]
      ·intro j hj;have hlt : ((j : Int) < x.Vars) = True := eq_true (by omega);simp only [ref27_right.s3, hlt, if_true, hk1, hk01, if_false, at_lt hj, Option.bind_some, rem, hd0];by_cases hz : q.2[j].tmod p[i].Divisor = 0
       ·simp only [hz, not_true, if_false, bne_self_eq_false, Bool.false_eq_true]; rw [wn (by omega)]
       ·have hz' : (q.2[j].tmod p[i].Divisor != 0) = true := by simpa using hz
        simp only [hz, hz', not_false_eq_true, if_true]
      ·have hlt : ((q.2.length : Int) < x.Vars) = False := eq_false (by omega);simp only [ref27_right.s3, hlt, if_false]
     ·have hd1 : p[i].Divisor < 2 := by omega
      simp only [hd, hd1, decide_true, decide_false, if_true, Option.bind_some, Bool.false_and]
  ·have hw' : ¬ (p[i].Weights.length : Int) = ((x.Rows ++ C p n i).length : Int) := by omega
   simp only [hw', hw, not_false_eq_true, if_true, if_false, Bool.false_eq_true]
end Go.Sh
namespace Go.Sh
open Go.Lx
set_option linter.unusedVariables false
set_option linter.unusedSimpArgs false
set_option linter.deprecated false
def oddW (l : List Int) : Bool := l.any fun c => !depend_inside c (-1000000) 1000000
theorem oddW_eq {p : List Int} (h : p.length < 16777216) : slices_ContainsFunc_int__depend_CheckProof_c2_c1 p = some (oddW p) := by
 unfold slices_ContainsFunc_int__depend_CheckProof_c2_c1 slices_IndexFunc_int__depend_CheckProof_c2_c1;obtain ⟨k, hk⟩ := loop_any (step := slices_IndexFunc_int__depend_CheckProof_c2_c1.s1 p) p (fun c => !depend_inside c (-1000000) 1000000) (fun i => Sum.inr i) (Sum.inl ()) (s := 0) rfl (fun i hi => by
  simp only [slices_IndexFunc_int__depend_CheckProof_c2_c1.s1, lt_len hi, if_true, at_lt hi, Option.bind_some, depend_CheckProof_c2_c1];by_cases e : (!depend_inside p[i] (-1000000) 1000000) = true
  ·simp only [e, if_true]
  ·simp only [e, if_false, Bool.false_eq_true]; rw [wn (by omega)]) (by simp only [slices_IndexFunc_int__depend_CheckProof_c2_c1.s1, not_lt_len, if_false]) (by omega)
 rw [hk];unfold oddW;by_cases e : p.any (fun c => !depend_inside c (-1000000) 1000000) = true
 ·simp only [e, if_true, Option.bind_some];have : (k : Int) ≥ 0 := by omega
  simp [this]
 ·simp only [e, if_false, Option.bind_some, Bool.false_eq_true];simp at e ⊢
def pErr (x : api_LinSystem) (p : List api_LinNode) (n i : Nat) (nd : api_LinNode) : Int :=
 if (oddW nd.Weights || !depend_inside nd.At (-100000) 100000) = true then 2 else if rB x p n i nd = true then 0 else 19
theorem pErr_ok {x : api_LinSystem} {p : List api_LinNode} {n i : Nat} {nd : api_LinNode} (h : pErr x p n i nd = 0) : oddW nd.Weights = false ∧ depend_inside nd.At (-100000) 100000 = true ∧ rB x p n i nd = true := by
 unfold pErr at h;split at h
 ·cases h
 rename_i h1
 split at h
 ·rename_i h2
  simp only [Bool.or_eq_true, not_or, Bool.not_eq_true', Bool.not_eq_false, Bool.not_eq_true] at h1;exact ⟨h1.1, h1.2, h2⟩
 ·cases h
def fdF (x : api_LinSystem) (p : List api_LinNode) (n i : Nat) (b : List (List api_LinRow)) (nd : api_LinNode) : Sum (Int × Int × List (List api_LinRow)) (List (List api_LinRow)) :=
 if pErr x p n i nd = 0 then .inr (nb x p n i nd b) else .inl ((i : Int), pErr x p n i nd, b)
def frF (x : api_LinSystem) (p : List api_LinNode) (n i : Nat) (b : Unit) (nd : api_LinNode) : Sum (Int × Int) Unit :=
 if pErr x p n i nd = 0 then .inr () else .inl ((i : Int), pErr x p n i nd)
theorem scan_both (x : api_LinSystem) (p : List api_LinNode) (n : Nat) : ∀ (l : List api_LinNode) (i : Nat) (b : List (List api_LinRow)), (match scanE (fdF x p n) i l b with | .inl r => (r.1, r.2.1) | .inr _ => (0, 0)) = match scanE (frF x p n) i l () with | .inl r => r | .inr _ => (0, 0)
 | [], i, b => rfl
 | nd :: l, i, b => by
  simp only [scanE, fdF, frF];by_cases e : pErr x p n i nd = 0
  ·simp only [e, if_true];exact scan_both x p n l (i + 1) _
  ·simp only [e, if_false]
theorem fr_ne (x : api_LinSystem) (p : List api_LinNode) (n : Nat) : ∀ (l : List api_LinNode) (i : Nat) (r : Int × Int), scanE (frF x p n) i l () = .inl r → r.2 ≠ 0
 | [], i, r, h => by cases h
 | a :: l, i, r, h => by
  simp only [scanE, frF] at h;by_cases e : pErr x p n i a = 0
  ·simp only [e, if_true] at h;exact fr_ne x p n l (i + 1) r h
  ·simp only [e, if_false] at h;cases h;exact e
theorem fr_ok (x : api_LinSystem) (p : List api_LinNode) (n : Nat) : ∀ (l : List api_LinNode) (i : Nat), scanE (frF x p n) i l () = .inr () → ∀ k (h : k < l.length), pErr x p n (i + k) l[k] = 0
 | [], i, _, k, h => by simp at h
 | a :: l, i, h, k, hk => by
  simp only [scanE, frF] at h;by_cases e : pErr x p n i a = 0
  ·simp only [e, if_true] at h;cases k with
   | zero => exact e
   | succ k =>
    have := fr_ok x p n l (i + 1) h k (by simpa using hk);rw [show i + 1 + k = i + (k + 1) by omega] at this;exact this
  ·simp only [e, if_false] at h;cases h
theorem ne_ne (p : List api_LinNode) : ∀ (l : List api_LinNode) (i : Nat) (r : Int × Int), scanE (neF p) i l () = .inl r → r.2 ≠ 0
 | [], i, r, h => by cases h
 | a :: l, i, r, h => by
  simp only [scanE, neF] at h;by_cases e : nErr p i a = 0
  ·simp only [e, if_true] at h;exact ne_ne p l (i + 1) r h
  ·simp only [e, if_false] at h;cases h;exact e
theorem ne_ok (p : List api_LinNode) : ∀ (l : List api_LinNode) (i : Nat), scanE (neF p) i l () = .inr () → ∀ k (h : k < l.length), nErr p (i + k) l[k] = 0
 | [], i, _, k, h => by simp at h
 | a :: l, i, h, k, hk => by
  simp only [scanE, neF] at h;by_cases e : nErr p i a = 0
  ·simp only [e, if_true] at h;cases k with
   | zero => exact e
   | succ k =>
    have := ne_ok p l (i + 1) h k (by simpa using hk);rw [show i + 1 + k = i + (k + 1) by omega] at this;exact this
  ·simp only [e, if_false] at h;cases h
structure Inv2 (x : api_LinSystem) (p : List api_LinNode) (n i : Nat) (b : List (List api_LinRow)) : Prop where
 len : b.length = p.length
 get : ∀ v (h : v < b.length), par p v < (i : Int) → b[v] = C p n v
 ok : Vok x p i
theorem Vok.next {x : api_LinSystem} {p : List api_LinNode} {n i : Nat} (h : Vok x p i) (hi : i < p.length) (he : pErr x p n i p[i] = 0) : Vok x p (i + 1) := by
 intro j hj hji hk;by_cases e : j = i
 ·subst e;have h3 := (pErr_ok he).2.2;unfold rB depend_inside at h3;rw [if_pos hk] at h3;simp only [Bool.and_eq_true, decide_eq_true_eq] at h3;omega
 ·exact h j hj (by omega) hk
theorem Inv2.next {x : api_LinSystem} {p : List api_LinNode} {n i : Nat} {b : List (List api_LinRow)} (Q : Q1 x p n) (I : Inv2 x p n i b) (hi : i < p.length) (he : pErr x p n i p[i] = 0) : Inv2 x p n (i + 1) (nb x p n i p[i] b) := by
 have h3 := (pErr_ok he).2.2;refine ⟨?_, ?_, I.ok.next hi he⟩
 ·unfold nb; split <;> simp [I.len]
 ·intro v hv hp;by_cases hs : p[i].Kind = 2
  ·obtain ⟨⟨l1, l2⟩, l3, l4⟩ := (Q.H.get hi).2.1 hs;obtain ⟨L, hL⟩ : ∃ L : Nat, p[i].Left = (L : Int) := ⟨p[i].Left.toNat, by omega⟩
   obtain ⟨R, hR⟩ : ∃ R : Nat, p[i].Right = (R : Int) := ⟨p[i].Right.toNat, by omega⟩
   have hnb : nb x p n i p[i] b = (b.set L (C p n L)).set R (C p n R) := by
    unfold nb;rw [if_pos ⟨hs, h3⟩, hL, hR];simp
   have hvb : v < b.length := by rw [hnb] at hv; simpa using hv
   simp only [hnb, List.getElem_set];by_cases c1 : R = v
   ·subst c1; simp
   ·rw [if_neg c1];by_cases c2 : L = v
    ·subst c2; simp
    ·rw [if_neg c2];refine I.get v hvb ?_;rcases Q.H.par_lt v with e | ⟨j, hj, e, _, _, hnm⟩
     ·omega
     ·have : j ≠ i := by
       intro q;subst q;rcases hnm.2 with z | z <;> omega
      omega
  ·have hnb : nb x p n i p[i] b = b := by unfold nb; rw [if_neg (by intro h; exact hs h.1)]
   have hvb : v < b.length := by rw [hnb] at hv; exact hv
   simp only [hnb];refine I.get v hvb ?_;rcases Q.H.par_lt v with e | ⟨j, hj, e, _, _, hnm⟩
   ·omega
   ·have : j ≠ i := by
     intro q;subst q;exact hs hnm.1
    omega
theorem second_eq {x : api_LinSystem} {p : List api_LinNode} {n : Nat} (Q : Q1 x p n) (hwl : ∀ nd, nd ∈ p → nd.Weights.length < 16777216) :
  depend_firstBad_api_LinNode__depend_CheckProof_c2 p x.Vars x.Rows p (List.replicate p.length []) = some (match scanE (fdF x p n) 0 p (List.replicate p.length []) with | .inl r => r | .inr b => (0, 0, b)) := by
 have hp := Q.H.n;unfold depend_firstBad_api_LinNode__depend_CheckProof_c2;rw [loop_scan (step := depend_firstBad_api_LinNode__depend_CheckProof_c2.s1 p x.Vars x.Rows p) p (fun i b => (i, b)) (fun r => .inr r) (fun b => .inl b) (fdF x p n) (fun i b => Inv2 x p n i b) (a := List.replicate p.length []) rfl ?_ ?_ ?_ (by omega)]
 ·generalize scanE (fdF x p n) 0 p (List.replicate p.length []) = q;cases q <;> rfl
 ·intro i hi b I;have hib : i < b.length := by rw [I.len]; exact hi
  have hbi : b[i] = C p n i := I.get i hib (by
   rcases Q.H.par_lt i with e | ⟨j, hj, e, hji, _⟩ <;> omega)
  constructor
  ·simp only [depend_firstBad_api_LinNode__depend_CheckProof_c2.s1, lt_len hi, if_true, at_lt hi, Option.bind_some, depend_CheckProof_c2];rw [oddW_eq (hwl _ (List.getElem_mem hi))];simp only [Option.bind_some, fdF];by_cases c : (oddW p[i].Weights || !depend_inside p[i].At (-100000) 100000) = true
   ·have hpe : pErr x p n i p[i] = 2 := by unfold pErr; rw [if_pos c]
    simp only [c, if_true, hpe, Option.bind_some];rfl
   ·simp only [c, if_false, Bool.false_eq_true];rw [isRight_eq Q hi I.len hbi];simp only [Option.bind_some];rw [broken1];simp only [Option.bind_some];by_cases hr : rB x p n i p[i] = true
    ·have hpe : pErr x p n i p[i] = 0 := by unfold pErr; rw [if_neg c, if_pos hr]
     simp only [hr, if_true, hpe, not_true, if_false];rw [wn (by omega)]
    ·have hpe : pErr x p n i p[i] = 19 := by unfold pErr; rw [if_neg c, if_neg hr]
     have hnb : nb x p n i p[i] b = b := by unfold nb; rw [if_neg (by intro h; exact hr h.2)]
     simp only [hr, if_false, Bool.false_eq_true, hpe, hnb];rfl
  ·intro b' h';unfold fdF at h';split at h'
   ·rename_i he
    cases h';exact I.next Q hi he
   ·cases h'
 ·intro b _; simp only [depend_firstBad_api_LinNode__depend_CheckProof_c2.s1, not_lt_len, if_false]
 ·refine ⟨by simp, ?_, fun j _ h => by omega⟩;intro v hv hpv;rcases Q.H.par_lt v with e | ⟨j, hj, e, hji, _⟩
  ·rw [C_root e]; simp
  ·omega
theorem refSecond_eq {x : api_LinSystem} {p : List api_LinNode} {n : Nat} (Q : Q1 x p n) (hwl : ∀ nd, nd ∈ p → nd.Weights.length < 16777216) (c : List Int) :
  loopO (ref27_CheckProof.s3 x p ((List.range p.length).map (par p), c)) 0 = some (match scanE (frF x p n) 0 p () with | .inl r => .inr r | .inr _ => .inl ()) := by
 have hp := Q.H.n;rw [loop_scan (step := ref27_CheckProof.s3 x p ((List.range p.length).map (par p), c)) p (fun i (_ : Unit) => i) (fun r => .inr r) (fun _ => .inl ()) (frF x p n) (fun i _ => Vok x p i) (a := ()) rfl ?_ ?_ (fun j _ h => by omega) (by omega)]
 ·generalize scanE (frF x p n) 0 p () = q;cases q <;> rfl
 ·intro i hi b I;have hwi := hwl _ (List.getElem_mem hi);constructor
  ·simp only [ref27_CheckProof.s3, lt_len hi, if_true];rw [loop_find (step := ref27_CheckProof.s4 p i) p[i].Weights (fun c => if (!depend_inside c (-1000000) 1000000) = true then some () else none) (fun _ => .inr ((i : Int), 2)) (.inl ()) rfl ?_ ?_ (by omega), findSome_const]
   ·have hod : p[i].Weights.any (fun c => !depend_inside c (-1000000) 1000000) = oddW p[i].Weights := rfl;rw [hod];simp only [frF];by_cases c1 : oddW p[i].Weights = true
    ·have hpe : pErr x p n i p[i] = 2 := by unfold pErr; rw [if_pos (by rw [c1]; rfl)]
     simp only [c1, if_true, Option.bind_some, hpe];rfl
    ·simp only [c1, if_false, Option.bind_some, Bool.false_eq_true, at_lt hi, within_eq];by_cases c2 : depend_inside p[i].At (-100000) 100000 = true
     ·have cc : ¬ (oddW p[i].Weights || !depend_inside p[i].At (-100000) 100000) = true := by rw [c2]; simpa using c1
      simp only [c2, not_true, if_false];rw [right_eq Q hi I];simp only [Option.bind_some];by_cases hr : rB x p n i p[i] = true
      ·have hpe : pErr x p n i p[i] = 0 := by unfold pErr; rw [if_neg cc, if_pos hr]
       simp only [hr, not_true, if_false, hpe, if_true];rw [wn (by omega)]
      ·have hpe : pErr x p n i p[i] = 19 := by unfold pErr; rw [if_neg cc, if_neg hr]
       simp only [hr, Bool.false_eq_true, not_false_eq_true, if_true, hpe];rfl
     ·have hpe : pErr x p n i p[i] = 2 := by
       unfold pErr;rw [if_pos (by
        have c2' : depend_inside p[i].At (-100000) 100000 = false := by rw [Bool.eq_false_iff]; exact c2
        rw [c2']; simp)]
      simp only [c2, Bool.false_eq_true, not_false_eq_true, if_true, hpe];rfl
   ·intro k hk;simp only [ref27_CheckProof.s4, at_lt hi, Option.bind_some, lt_len hk, if_true, at_lt hk, within_eq];by_cases e : depend_inside p[i].Weights[k] (-1000000) 1000000 = true
    ·simp only [e, not_true, if_false, Bool.not_true, Bool.false_eq_true]; rw [wn (by omega)]
    ·have e' : depend_inside p[i].Weights[k] (-1000000) 1000000 = false := by rw [Bool.eq_false_iff]; exact e
     simp [e']
   ·simp only [ref27_CheckProof.s4, at_lt hi, Option.bind_some, not_lt_len, if_false]
  ·intro b' h';unfold frF at h';split at h'
   ·rename_i he
    exact Vok.next I hi he
   ·cases h'
 ·intro b _; simp only [ref27_CheckProof.s3, not_lt_len, if_false]
theorem refFirst_eq {p : List api_LinNode} (hn : p.length ≤ 30) (c : List Int) : loopO (ref27_CheckProof.s1 p (c, (List.range p.length).map fun v : Nat => (cnt p (v : Int) : Int))) 0 = some (match scanE (neF p) 0 p () with | .inl r => .inr r | .inr _ => .inl ()) := by
 rw [loop_scan (step := ref27_CheckProof.s1 p (c, (List.range p.length).map fun v : Nat => (cnt p (v : Int) : Int))) p (fun i (_ : Unit) => i) (fun r => .inr r) (fun _ => .inl ()) (neF p) (fun _ _ => True) (a := ()) rfl ?_ ?_ trivial (by omega)]
 ·generalize scanE (neF p) 0 p () = q;cases q <;> rfl
 ·intro i hi b _;refine ⟨?_, fun _ _ => trivial⟩;have hcl : i < ((List.range p.length).map fun v : Nat => (cnt p (v : Int) : Int)).length := by simpa using hi
  have hj2 : ref27_CheckProof.j2 (c, (List.range p.length).map fun v : Nat => (cnt p (v : Int) : Int)) (i : Int) () = some (if (((i : Int) == 0) || ((cnt p i : Int) == 1)) = true then .inl ((i + 1 : Nat) : Int) else .inr (.inr ((i : Int), 19))) := by
   unfold ref27_CheckProof.j2;by_cases h0 : i = 0
   ·subst h0;rw [if_neg (by simp)];rfl
   ·have h1 : (i : Int) > 0 := by omega
    have h2 : ((i : Int) == 0) = false := by simpa using h0
    rw [if_pos h1, at_lt hcl, wn (by omega), h2];simp only [Option.bind_some, List.getElem_map, List.getElem_range, Bool.false_or];by_cases h3 : (cnt p i : Int) = 1
    ·simp only [h3, not_true, if_false, beq_self_eq_true, if_true]
    ·have h4 : ((cnt p i : Int) == 1) = false := by simpa using h3
     simp only [h3, h4, not_false_eq_true, if_true, Bool.false_eq_true, if_false]
  simp only [ref27_CheckProof.s1, lt_len hi, if_true, at_lt hi, Option.bind_some, within_eq, neF];rw [formErr27_eq, wn (by omega), w_id (n := (p.length : Int) - 1) (by omega) (by omega), hj2];unfold nErr;by_cases e1 : depend_inside p[i].Kind 0 2 = true
  ·simp only [e1, if_true];by_cases e2 : fm p[i] = true
   ·simp only [e2, if_true, not_true, if_false];by_cases hk : p[i].Kind = 2
    ·simp only [hk, if_true, rg, beq_self_eq_true, Bool.not_true, Bool.false_or];by_cases e3 : depend_inside p[i].Left ((i + 1 : Nat) : Int) ((p.length : Int) - 1) = true
     ·by_cases e4 : depend_inside p[i].Right ((i + 1 : Nat) : Int) ((p.length : Int) - 1) = true
      ·simp only [e3, e4, not_true, if_false, Bool.and_self, if_true];by_cases e5 : (((i : Int) == 0) || ((cnt p i : Int) == 1)) = true
       ·simp only [e5, if_true]
       ·simp only [e5, if_false, Bool.false_eq_true]; rfl
      ·have e4' : depend_inside p[i].Right ((i + 1 : Nat) : Int) ((p.length : Int) - 1) = false := by rw [Bool.eq_false_iff]; exact e4
       simp only [e3, e4', not_true, if_false, Bool.false_eq_true, not_false_eq_true, if_true, Bool.and_false]; rfl
     ·have e3' : depend_inside p[i].Left ((i + 1 : Nat) : Int) ((p.length : Int) - 1) = false := by rw [Bool.eq_false_iff]; exact e3
      simp only [e3', Bool.false_eq_true, not_false_eq_true, if_true, Bool.false_and, if_false]; rfl
    ·have hk' : (p[i].Kind == 2) = false := by simpa using hk
     simp only [hk, if_false, rg, hk', Bool.not_false, Bool.true_or, if_true];by_cases e5 : (((i : Int) == 0) || ((cnt p i : Int) == 1)) = true
     ·simp only [e5, if_true]
     ·simp only [e5, if_false, Bool.false_eq_true]; rfl
   ·simp only [e2, if_false, Bool.false_eq_true]; rfl
  ·simp only [e1, if_false, Bool.false_eq_true]; rfl
 ·intro b _; simp only [ref27_CheckProof.s1, not_lt_len, if_false]
def cpR (x : api_LinSystem) (p : List api_LinNode) : Int × Int :=
 if ¬ (csR x).2 = 0 then (0, (csR x).2) else if p = [] then (0, 17) else match scanE (neF p) 0 p () with
 | .inl r => r
 | .inr _ => match scanE (frF x p x.Vars.toNat) 0 p () with | .inl r => r | .inr _ => ((p.length : Int), 0)
theorem refCheckProof_eq {x : api_LinSystem} (S : Small x) {p : List api_LinNode} (hn : p.length ≤ 30) (hwl : ∀ nd, nd ∈ p → nd.Weights.length < 16777216) : ref27_CheckProof x p = some (cpR x p) := by
 unfold ref27_CheckProof cpR;rw [refSystemErr_eq S];simp only [Option.bind_some];by_cases e : (csR x).2 = 0
 ·have vs := csR_ok e;have hv1 := vs.v1;simp only [e, not_true, if_false];by_cases hp : p = []
  ·simp only [hp, List.length_nil, if_true];rfl
  ·have hp' : ¬ (p.length : Int) = 0 := by
    have := List.length_pos_iff.2 hp;omega
   have hp2 : ¬ (p.length : Int) > 4000 := by omega
   simp only [hp, hp', hp2, if_false];rw [parents_eq hn];simp only [Option.bind_some];rw [refFirst_eq hn];cases hs : scanE (neF p) 0 p () with
   | inl r => simp only [Option.bind_some]
   | inr u =>
    have H : P1 p := ⟨hn, fun i hi => by have := ne_ok p p 0 hs i hi; rw [Nat.zero_add] at this; exact this⟩
    have Q : Q1 x p x.Vars.toNat := ⟨vs, by omega, H⟩
    simp only [Option.bind_some];rw [refSecond_eq Q hwl];cases scanE (frF x p x.Vars.toNat) 0 p () <;> rfl
 ·simp only [e, not_false_eq_true, if_true]
theorem checkProof_eq {x : api_LinSystem} (S : Small x) {p : List api_LinNode} (hn : p.length ≤ 30) (hwl : ∀ nd, nd ∈ p → nd.Weights.length < 16777216) : depend_CheckProof x p = some (cpR x p) := by
 unfold depend_CheckProof cpR;rw [systemErr_eq S];simp only [Option.bind_some];rw [broken2];simp only [Option.bind_some, cmpOr2];by_cases e : (csR x).2 = 0
 ·have vs := csR_ok e;have hv1 := vs.v1;simp only [e, if_true, not_true, if_false];by_cases hp : p = []
  ·subst hp;rfl
  ·have hp' : (p.length : Int) > 0 := by
    have := List.length_pos_iff.2 hp;omega
   have hp2 : (p.length : Int) ≤ 4000 := by omega
   simp only [hp, hp', hp2, decide_true, if_true, if_false, not_true];rw [first_eq hn];simp only [Option.bind_some];cases hs : scanE (neF p) 0 p () with
   | inl r =>
    have := ne_ne p p 0 r hs;simp only [this, not_false_eq_true, if_true]
   | inr u =>
    have H : P1 p := ⟨hn, fun i hi => by have := ne_ok p p 0 hs i hi; rw [Nat.zero_add] at this; exact this⟩
    have Q : Q1 x p x.Vars.toNat := ⟨vs, by omega, H⟩
    have hmk : mkSl (p.length : Int) ([] : List api_LinRow) = some (List.replicate p.length []) := by
     unfold mkSl;rw [if_pos (by omega)];simp
    simp only [not_true, if_false, hmk, Option.bind_some];rw [second_eq Q hwl];simp only [Option.bind_some];have hb := scan_both x p x.Vars.toNat p 0 (List.replicate p.length []);cases hd : scanE (fdF x p x.Vars.toNat) 0 p (List.replicate p.length []) with
    | inl r =>
     rw [hd] at hb;cases hf : scanE (frF x p x.Vars.toNat) 0 p () with
     | inl q =>
      rw [hf] at hb;have := fr_ne _ _ _ _ _ _ hf;simp only at hb;subst hb;simp only at this;simp only [this, not_false_eq_true, if_true]
     | inr q =>
      exfalso
      rw [hf] at hb;simp only [Prod.mk.injEq] at hb;have key : ∀ (l : List api_LinNode) (i : Nat) (b : List (List api_LinRow)) (r : Int × Int × List (List api_LinRow)), scanE (fdF x p x.Vars.toNat) i l b = .inl r → r.2.1 ≠ 0 := by
       intro l
       induction l with
       | nil => intro i b r h; cases h
       | cons a l ih =>
        intro i b r h;simp only [scanE, fdF] at h;by_cases e : pErr x p x.Vars.toNat i a = 0
        ·simp only [e, if_true] at h;exact ih _ _ _ h
        ·simp only [e, if_false] at h;cases h;exact e
      exact key _ _ _ _ hd hb.2
    | inr b =>
     rw [hd] at hb;cases hf : scanE (frF x p x.Vars.toNat) 0 p () with
     | inl q =>
      exfalso
      rw [hf] at hb;have := fr_ne _ _ _ _ _ _ hf;simp only at hb;rw [← hb] at this;exact this rfl
     | inr q => simp only [not_true, if_false]
 ·simp only [e, if_false, not_false_eq_true, if_true]
end Go.Sh
namespace Go.Sh
open Go.Lx
set_option linter.unusedVariables false
set_option linter.unusedSimpArgs false
set_option linter.deprecated false
def dot : List Int → List Int → Int
 | c :: cs, t :: pt => c * t + dot cs pt
 | _, _ => 0
def ev (r : api_LinRow) (pt : List Int) : Int := r.Const + dot r.Coefs pt
theorem mul_b {a b A B : Int} (ha : -A ≤ a ∧ a ≤ A) (hb : -B ≤ b ∧ b ≤ B) (hA : 0 ≤ A) (hB : 0 ≤ B) : -(A * B) ≤ a * b ∧ a * b ≤ A * B := by
 have h1 : (A - a) * (B - b) ≥ 0 := Int.mul_nonneg (by omega) (by omega);have h2 : (A + a) * (B + b) ≥ 0 := Int.mul_nonneg (by omega) (by omega);have h3 : (A - a) * (B + b) ≥ 0 := Int.mul_nonneg (by omega) (by omega);have h4 : (A + a) * (B - b) ≥ 0 := Int.mul_nonneg (by omega) (by omega);simp only [Int.sub_mul, Int.mul_sub, Int.add_mul, Int.mul_add] at h1 h2 h3 h4;generalize A * B = AB at *
 generalize a * b = ab at *
 generalize A * b = x at *
 generalize a * B = y at *
 omega
theorem atv_fold : ∀ (cs pt : List Int) (acc : Int) (K : Int), cs.length ≤ pt.length → (∀ c, c ∈ cs → -1000 ≤ c ∧ c ≤ 1000) → (∀ t, t ∈ pt → -100000 ≤ t ∧ t ≤ 100000) → -K ≤ acc → acc ≤ K → K + 100000000 * cs.length ≤ 1000000000000 → (cs.zip pt).foldl (fun b t => w (b + w (t.1 * t.2))) acc = acc + dot cs pt
 | [], pt, acc, K, _, _, _, _, _, _ => by simp [dot]
 | c :: cs, [], acc, K, h, _, _, _, _, _ => by simp at h
 | c :: cs, t :: pt, acc, K, hl, hc, ht, h1, h2, h3 => by
  have b1 := hc c (by simp);have b2 := ht t (by simp);have hm := mul_b (A := 1000) (B := 100000) b1 b2 (by omega) (by omega);simp only [List.zip_cons_cons, List.foldl_cons, dot];have e1 : w (c * t) = c * t := w_id (by omega) (by omega);simp only [List.length_cons] at h3 hl;have e2 : w (acc + c * t) = acc + c * t := w_id (by omega) (by omega);rw [e1, e2, atv_fold cs pt (acc + c * t) (K + 100000000) (by omega) (fun c h => hc c (List.mem_cons_of_mem _ h)) (fun t h => ht t (List.mem_cons_of_mem _ h)) (by omega) (by omega) (by omega)];omega
theorem atv_ev {r : api_LinRow} {pt : List Int} (h1 : r.Coefs.length ≤ pt.length) (h8 : r.Coefs.length ≤ 8) (hc : ∀ c, c ∈ r.Coefs → -1000 ≤ c ∧ c ≤ 1000) (hk : -100000 ≤ r.Const ∧ r.Const ≤ 100000) (ht : ∀ t, t ∈ pt → -100000 ≤ t ∧ t ≤ 100000) : atv r pt = ev r pt :=
 atv_fold r.Coefs pt r.Const 100000 h1 hc ht (by omega) (by omega) (by omega)
theorem dot_rep : ∀ (n : Nat) (pt : List Int), dot (List.replicate n 0) pt = 0
 | 0, pt => by simp [dot]
 | n + 1, [] => by simp [List.replicate_succ, dot]
 | n + 1, t :: pt => by
  simp only [List.replicate_succ, dot];rw [dot_rep n pt]; omega
theorem dot_set (z : Int) : ∀ (n k : Nat) (pt : List Int) (hk : k < n) (hp : k < pt.length), dot ((List.replicate n 0).set k z) pt = z * pt[k]
 | 0, k, _, h, _ => by omega
 | n + 1, 0, t :: pt, _, _ => by
  simp only [List.replicate_succ, List.set_cons_zero, dot, List.getElem_cons_zero];rw [dot_rep]; omega
 | n + 1, k + 1, t :: pt, h, hp => by
  simp only [List.replicate_succ, List.set_cons_succ, dot, List.getElem_cons_succ];rw [dot_set z n k pt (by omega) (by simpa using hp)]; omega
def hol (r : api_LinRow) (pt : List Int) : Prop := 0 ≤ ev r pt ∧ (r.Equal = true → ev r pt = 0)
def smr (r : api_LinRow) : Prop := (∀ c, c ∈ r.Coefs → -1000 ≤ c ∧ c ≤ 1000) ∧ -100001 ≤ r.Const ∧ r.Const ≤ 100001
theorem ad_dot {wt : Int} (hw : -1000000 ≤ wt ∧ wt ≤ 1000000) (B : Int) (hB : B ≤ 1000000000000) : ∀ (s cs pt : List Int), s.length = cs.length → (∀ c, c ∈ cs → -1000 ≤ c ∧ c ≤ 1000) → (∀ z, z ∈ s → -B ≤ z ∧ z ≤ B) → dot (ad wt s cs) pt = dot s pt + wt * dot cs pt ∧ (∀ z, z ∈ ad wt s cs → -(B + 1000000000) ≤ z ∧ z ≤ B + 1000000000)
 | [], [], pt, _, _, _ => by simp [ad, dot]
 | [], _ :: _, _, h, _, _ => by simp at h
 | _ :: _, [], _, h, _, _ => by simp at h
 | z :: s, c :: cs, pt, hl, hc, hz => by
  have b1 := hc c (by simp);have b2 := hz z (by simp);have hm := mul_b (A := 1000000) (B := 1000) hw b1 (by omega) (by omega);have e1 : w (wt * c) = wt * c := w_id (by omega) (by omega);have e2 : w (z + wt * c) = z + wt * c := w_id (by omega) (by omega);have ih := fun pt => ad_dot hw B hB s cs pt (by simpa using hl) (fun c h => hc c (List.mem_cons_of_mem _ h)) (fun z h => hz z (List.mem_cons_of_mem _ h))
  have hcons : ad wt (z :: s) (c :: cs) = (z + wt * c) :: ad wt s cs := by
   show w (z + w (wt * c)) :: _ = _
   rw [e1, e2]; rfl
  rw [hcons];constructor
  ·match pt with
   | [] => simp [dot]
   | t :: pt =>
    simp only [dot];rw [(ih pt).1, Int.add_mul, Int.mul_add, Int.mul_assoc];omega
  ·intro y hy;rcases List.mem_cons.1 hy with rfl | hy
   ·omega
   ·exact (ih pt).2 y hy
theorem sum_hol {nd : api_LinNode} {pt : List Int} (hw : ∀ z, z ∈ nd.Weights → -1000000 ≤ z ∧ z ≤ 1000000) {n : Nat} : ∀ (K : List api_LinRow) (i : Nat) (b b' : Int × List Int), i + K.length ≤ 100 → b.2.length = n → (∀ r, r ∈ K → r.Coefs.length = n ∧ smr r ∧ hol r pt) →
  (-(200000000000 * i) ≤ b.1 ∧ b.1 ≤ 200000000000 * i) → (∀ z, z ∈ b.2 → -(1000000000 * i) ≤ z ∧ z ≤ 1000000000 * i) → 0 ≤ b.1 + dot b.2 pt → (nd.Kind = 1 → b.1 + dot b.2 pt = 0) →
  scanE (addF nd) i K b = .inr b' → 0 ≤ b'.1 + dot b'.2 pt ∧ (nd.Kind = 1 → b'.1 + dot b'.2 pt = 0)
 | [], i, b, b', _, _, _, _, _, h1, h2, e => by cases e; exact ⟨h1, h2⟩
 | r :: K, i, b, b', hi, hl, hK, hb1, hb2, h1, h2, e => by
  obtain ⟨k1, ⟨k2, k3, k4⟩, k5, k6⟩ := hK r (by simp);simp only [List.length_cons] at hi;have hwt : -1000000 ≤ nd.Weights.getD i 0 ∧ nd.Weights.getD i 0 ≤ 1000000 := by
   by_cases hlt : i < nd.Weights.length
   ·have : nd.Weights.getD i 0 = nd.Weights[i] := by simp [List.getD, hlt]
    rw [this]; exact hw _ (List.getElem_mem hlt)
   ·have : nd.Weights.getD i 0 = 0 := by simp [List.getD, List.getElem?_eq_none (show nd.Weights.length ≤ i by omega)]
    rw [this]; omega
  simp only [scanE, addF] at e;generalize nd.Weights.getD i 0 = wt at hwt e;split at e
  ·cases e
  rename_i b1 hb
  split at hb
  ·cases hb
  rename_i hcond
  cases hb;have hm := mul_b (A := 1000000) (B := 100001) hwt ⟨k3, k4⟩ (by omega) (by omega);have e1 : w (wt * r.Const) = wt * r.Const := w_id (by omega) (by omega);have e2 : w (b.1 + w (wt * r.Const)) = b.1 + wt * r.Const := by rw [e1]; exact w_id (by omega) (by omega)
  obtain ⟨d1, d2⟩ := ad_dot hwt (1000000000 * i) (by omega) b.2 r.Coefs pt (by omega) k2 hb2;have hs : b.1 + wt * r.Const + dot (ad wt b.2 r.Coefs) pt = (b.1 + dot b.2 pt) + wt * ev r pt := by
   rw [d1]; unfold ev; rw [Int.mul_add]; omega
  have hnn : 0 ≤ wt * ev r pt ∧ (nd.Kind = 1 → wt * ev r pt = 0) := by
   by_cases hE : r.Equal = true
   ·rw [k6 hE, Int.mul_zero]; exact ⟨by omega, fun _ => rfl⟩
   ·have hE' : r.Equal = false := by simpa using hE
    simp only [hE', Bool.not_false, Bool.true_and, Bool.or_eq_true, decide_eq_true_eq, Bool.and_eq_true, beq_iff_eq, bne_iff_ne, ne_eq, not_or, not_and, Classical.not_not] at hcond;refine ⟨Int.mul_nonneg (by omega) k5, fun h => ?_⟩;rw [hcond.2 h, Int.zero_mul]
  refine sum_hol hw K (i + 1) _ b' (by omega) (by simp only; rw [ad_len (by omega)]; exact hl) (fun r hr => hK r (List.mem_cons_of_mem _ hr)) ?_ ?_ ?_ ?_ e
  ·simp only [e2]; omega
  ·intro z hz;have := d2 z hz;omega
  ·simp only [e2]; rw [hs]; omega
  ·intro h;simp only [e2]; rw [hs, h2 h, hnn.2 h]; rfl
theorem dot_zero : ∀ (s pt : List Int), s.any (· != 0) = false → dot s pt = 0
 | [], pt, _ => by simp [dot]
 | z :: s, [], _ => by simp [dot]
 | z :: s, t :: pt, h => by
  simp only [List.any_cons, Bool.or_eq_false_iff, bne_eq_false_iff_eq] at h;simp only [dot];rw [h.1, dot_zero s pt h.2]; simp
theorem dot_dvd {D : Int} : ∀ (s pt : List Int), s.any (fun c => c.tmod D != 0) = false → D ∣ dot s pt
 | [], pt, _ => by simp [dot]
 | z :: s, [], _ => by simp [dot]
 | z :: s, t :: pt, h => by
  simp only [List.any_cons, Bool.or_eq_false_iff, bne_eq_false_iff_eq] at h;simp only [dot];exact Int.dvd_add (Int.dvd_trans (Int.dvd_of_tmod_eq_zero h.1) (Int.dvd_mul_right z t)) (dot_dvd s pt h.2)
theorem leaf_false {n : Nat} {nd : api_LinNode} {K : List api_LinRow} {pt : List Int} (hk : nd.Kind = 0 ∨ nd.Kind = 1) (hw : ∀ z, z ∈ nd.Weights → -1000000 ≤ z ∧ z ≤ 1000000) (hl : K.length ≤ 100) (hK : ∀ r, r ∈ K → r.Coefs.length = n ∧ smr r ∧ hol r pt) (h : rgt n nd K = true) : False := by
 unfold rgt at h;split at h
 case isFalse => cases h
 split at h
 ·cases h
 rename_i b hs
 obtain ⟨h1, h2⟩ := sum_hol hw K 0 (0, List.replicate n 0) b (by omega) (by simp) hK (by simp) (fun z hz => by have := List.eq_of_mem_replicate hz; omega) (by simp [dot_rep]) (fun _ => by simp [dot_rep]) hs;unfold fin at h;by_cases h0 : nd.Kind = 0
 ·rw [if_pos h0] at h;simp only [Bool.and_eq_true, decide_eq_true_eq, Bool.not_eq_true'] at h;rw [dot_zero b.2 pt h.2] at h1;omega
 ·have hk1 : nd.Kind = 1 := by omega
  rw [if_neg h0] at h;simp only [Bool.and_eq_true, decide_eq_true_eq, Bool.not_eq_true', bne_iff_ne, ne_eq] at h;have hd := dot_dvd b.2 pt h.2.2;have e : b.1 = -(dot b.2 pt) := by have := h2 hk1; omega
  exact h.2.1 (by rw [e]; exact Int.tmod_eq_zero_of_dvd (Int.dvd_neg.2 hd))
theorem tree_false {x : api_LinSystem} {p : List api_LinNode} {n : Nat} (Q : Q1 x p n) (hok : ∀ i (h : i < p.length), pErr x p n i p[i] = 0) {pt : List Int} (hpl : pt.length = n) (hR : ∀ r, r ∈ x.Rows → smr r ∧ hol r pt) :
  ∀ (m i : Nat), i + m = p.length → ∀ (hi : i < p.length), (∀ r, r ∈ C p n i → smr r ∧ hol r pt) → False
 | 0, i, h, hi, _ => by omega
 | m + 1, i, h, hi, hC => by
  obtain ⟨w1, w2, w3⟩ := pErr_ok (hok i hi);obtain ⟨r1, r2⟩ := Q.rows hi;obtain ⟨g1, g2, _⟩ := Q.H.get hi;have hAt : -100000 ≤ p[i].At ∧ p[i].At ≤ 100000 := by
   unfold depend_inside at w2;simp only [Bool.and_eq_true, decide_eq_true_eq] at w2;omega
  by_cases hk : p[i].Kind = 2
  ·unfold rB depend_inside at w3;rw [if_pos hk] at w3;simp only [Bool.and_eq_true, decide_eq_true_eq] at w3;have hn := Q.hn;obtain ⟨k, hkv⟩ : ∃ k : Nat, p[i].Var = (k : Int) := ⟨p[i].Var.toNat, by omega⟩
   have hkn : k < n := by omega
   have hkp : k < pt.length := by omega
   obtain ⟨⟨l1, l2⟩, l3, l4⟩ := g2 hk;obtain ⟨L, hL⟩ : ∃ L : Nat, p[i].Left = (L : Int) := ⟨p[i].Left.toNat, by omega⟩
   obtain ⟨R, hR2⟩ : ∃ R : Nat, p[i].Right = (R : Int) := ⟨p[i].Right.toNat, by omega⟩
   obtain ⟨pL, ne, iL, nL⟩ := Q.H.own hi (v := L) ⟨hk, .inl hL⟩;obtain ⟨pR, _, iR, nR⟩ := Q.H.own hi (v := R) ⟨hk, .inr hR2⟩;have small1 : ∀ (z : Int), -1000 ≤ z ∧ z ≤ 1000 → ∀ c, c ∈ (List.replicate n (0 : Int)).set k z → -1000 ≤ c ∧ c ≤ 1000 := by
    intro z hz c hc;rcases List.mem_or_eq_of_mem_set hc with h | h
    ·have := List.eq_of_mem_replicate h; omega
    ·omega
   by_cases hx : pt[k] ≤ p[i].At
   ·refine tree_false Q hok hpl hR (p.length - L) L (by omega) nL (fun r hr => ?_);rw [C_step Q.H hi pL iL] at hr;rcases List.mem_append.1 hr with hr | hr
    ·exact hC r hr
    ·rw [List.mem_singleton.1 hr];unfold aR;rw [if_neg (by omega), hkv];simp only [Int.toNat_natCast];refine ⟨⟨small1 (-1) (by omega), by simp only; omega, by simp only; omega⟩, ?_, fun h => by cases h⟩;unfold ev;simp only;rw [dot_set (-1) n k pt hkn hkp];omega
   ·refine tree_false Q hok hpl hR (p.length - R) R (by omega) nR (fun r hr => ?_);rw [C_step Q.H hi pR iR] at hr;rcases List.mem_append.1 hr with hr | hr
    ·exact hC r hr
    ·rw [List.mem_singleton.1 hr];have e1 : w (0 - p[i].At) = -p[i].At := by rw [w_id (by omega) (by omega)]; omega
     have e2 : w (w (0 - p[i].At) - 1) = -p[i].At - 1 := by rw [e1, w_id (by omega) (by omega)]
     unfold aR;rw [if_pos hR2, hkv, e2];simp only [Int.toNat_natCast];refine ⟨⟨small1 1 (by omega), by simp only; omega, by simp only; omega⟩, ?_, fun h => by cases h⟩;unfold ev;simp only;rw [dot_set 1 n k pt hkn hkp];omega
  ·unfold rB at w3;rw [if_neg hk] at w3;refine leaf_false (n := n) (nd := p[i]) (K := x.Rows ++ C p n i) (pt := pt) (by omega) (fun z hz => ?_) r1 (fun r hr => ⟨r2 r hr, ?_⟩) w3
   ·have := List.any_eq_false.1 w1 z hz;simp only [Bool.not_eq_true', Bool.not_eq_false] at this;unfold depend_inside at this;simp only [Bool.and_eq_true, decide_eq_true_eq] at this;omega
   ·rcases List.mem_append.1 hr with hr | hr
    ·exact hR r hr
    ·exact hC r hr
 termination_by m i => p.length - i
theorem refutes {x : api_LinSystem} {p : List api_LinNode} {pt : List Int} (hn : p.length ≤ 30) (hc : (cpR x p).2 = 0) : ((hoR x pt).2 != 0 || !(hoR x pt).1) = true := by
 unfold cpR at hc;split at hc
 ·rename_i h; exact absurd hc h
 rename_i h1
 have e : (csR x).2 = 0 := Classical.not_not.1 h1;have vs := csR_ok e;have hv1 := vs.v1;have hv8 := vs.v8;split at hc
 ·cases hc
 rename_i hp
 split at hc
 ·rename_i r hs
  exact absurd hc (ne_ne p p 0 r hs)
 rename_i u hs
 split at hc
 ·rename_i r hf
  exact absurd hc (fr_ne _ _ _ _ _ _ hf)
 rename_i u2 hf
 have H : P1 p := ⟨hn, fun i hi => by have := ne_ok p p 0 hs i hi; rw [Nat.zero_add] at this; exact this⟩
 have Q : Q1 x p x.Vars.toNat := ⟨vs, by omega, H⟩
 have hok : ∀ i (h : i < p.length), pErr x p x.Vars.toNat i p[i] = 0 := fun i hi => by have := fr_ok _ _ _ p 0 hf i hi; rw [Nat.zero_add] at this; exact this
 unfold hoR;simp only [e, not_true, if_false];by_cases h2 : (pt.length : Int) = x.Vars
 ·simp only [h2, not_true, if_false];by_cases h3 : oddP pt = true
  ·simp only [h3, if_true]; rfl
  ·simp only [h3, if_false, Bool.false_eq_true];by_cases h4 : x.Rows.any (badR pt) = true
   ·simp only [h4]; rfl
   ·exfalso
    have hlen := List.length_pos_iff.2 hp;have hpt : ∀ t, t ∈ pt → -100000 ≤ t ∧ t ≤ 100000 := by
     intro t ht;have h3' : oddP pt = false := by rw [Bool.eq_false_iff]; exact h3
     have := List.any_eq_false.1 h3' t ht;simp only [Bool.not_eq_true', Bool.not_eq_false] at this;unfold depend_inside at this;simp only [Bool.and_eq_true, decide_eq_true_eq] at this;omega
    refine tree_false Q hok (pt := pt) (by omega) (fun r hr => ?_) p.length 0 (by omega) hlen (fun r hr => ?_)
    ·obtain ⟨f1, f2, f3⟩ := vs.f r hr;have h4' : x.Rows.any (badR pt) = false := by rw [Bool.eq_false_iff]; exact h4
     have hb := List.any_eq_false.1 h4' r hr;have ha := atv_ev (r := r) (pt := pt) (by omega) (by omega) f2 f3 hpt;unfold badR at hb;rw [ha] at hb;simp only [Bool.or_eq_true, decide_eq_true_eq, Bool.and_eq_true, not_or, not_and] at hb;refine ⟨⟨f2, by omega, by omega⟩, by omega, fun hE => ?_⟩;have := hb.2 hE;omega
    ·have hr0 : par p 0 < 0 := by
      rcases H.par_lt 0 with h | ⟨j, _, _, h, _⟩
      ·exact h
      ·omega
     rw [C_root hr0] at hr;cases hr
 ·simp only [h2, not_false_eq_true, if_true]; rfl
theorem copyProof_eq {p : List api_LinNode} (hn : p.length ≤ 30) (hwl : ∀ nd, nd ∈ p → nd.Weights.length < 16777216) : ref27_CopyProof p = some p := by
 unfold ref27_CopyProof;rw [loop_map (step := ref27_CopyProof.s1 p) p id (fun i b => (i, b)) (fun b => b) rfl ?_ ?_ (by omega)]
 ·simp
 ·intro i hi b hb;have h1 := hwl _ (List.getElem_mem hi);simp only [ref27_CopyProof.s1, lt_len hi, if_true, at_lt hi, Option.bind_some];rw [copyInts_eq (by omega)];simp only [Option.bind_some];rw [app_one (by omega), wn (by omega)];rfl
 ·intro b; simp only [ref27_CopyProof.s1, not_lt_len, if_false]
theorem DependProofs_true (x : api_LinSystem) (p : List api_LinNode) (pt : List Int) : law27_DependProofs x p pt = some true := by
 unfold law27_DependProofs;rw [awake_eq];simp only [Option.bind_some, not_true, if_false];obtain ⟨r, hr, hf⟩ := small_some x;rw [hr];simp only [Option.bind_some];by_cases hb : (((!r) || (decide ((p.length : Int) > 30))) || (decide ((pt.length : Int) > 10))) = true
 ·rw [if_pos hb]
 rw [if_neg hb];simp only [Bool.or_eq_true, Bool.not_eq_true', decide_eq_true_eq, not_or, Bool.not_eq_false] at hb;obtain ⟨⟨ht, hp⟩, hq⟩ := hb;have S := hf ht;have hn : p.length ≤ 30 := by omega
 rw [loop_find (step := law27_DependProofs.s1 p) p (fun nd => if (nd.Weights.length : Int) > 90 then some true else none) (fun r => .inr r) (.inl ()) rfl ?_ ?_ (by omega)]
 ·cases h1 : p.findSome? (fun nd => if (nd.Weights.length : Int) > 90 then some true else none) with
  | some r =>
   obtain ⟨y, _, hy⟩ := List.exists_of_findSome?_eq_some h1;split at hy
   ·cases hy; rfl
   ·cases hy
  | none =>
   have hwl : ∀ nd, nd ∈ p → nd.Weights.length < 16777216 := by
    intro nd hnd;have := List.findSome?_eq_none_iff.1 h1 nd hnd;split at this
    ·cases this
    ·omega
   simp only [Option.bind_some];rw [copySystem_eq S, copyProof_eq hn hwl];simp only [Option.bind_some];rw [checkProof_eq S hn hwl, refCheckProof_eq S hn hwl, copyInts_eq (by omega)];simp only [Option.bind_some];rw [holds_eq S (by omega)];by_cases e : (cpR x p).2 = 0
   ·have hre := refutes (x := x) (p := p) (pt := pt) hn e;simp only [e, not_true, if_false, bne_self_eq_false, Bool.or_self, Bool.false_eq_true, Option.bind_some, hre]
   ·simp only [e, not_false_eq_true, if_true, beq_self_eq_true, Bool.and_self]
 ·intro i hi;simp only [law27_DependProofs.s1, lt_len hi, if_true, at_lt hi, Option.bind_some];by_cases e : (p[i].Weights.length : Int) > 90
  ·simp only [e, if_true]
  ·simp only [e, if_false]; rw [wn (by omega)]
 ·simp only [law27_DependProofs.s1, not_lt_len, if_false]
end Go.Sh
