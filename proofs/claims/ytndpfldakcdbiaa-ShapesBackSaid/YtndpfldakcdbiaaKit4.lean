/- Values of the language, told by plain data; contracts of functions and operations, and how they are shown: part 4. -/
import Derived.Test.YtndpfldakcdbiaaKit3
import Derived.Shelf.SlIterI.Sorted
import Derived.Shelf.SortM.Plain
import Derived.Shelf.SortM.SortNone
set_option linter.all false
set_option linter.all false
namespace Go.Lx
open Go.RowKit Go.Proofs
def ins (x : Int) : List Int → List Int
  | [] => [x]
  | y :: ys => if x ≤ y then x :: y :: ys else y :: ins x ys
def isort : List Int → List Int
  | [] => []
  | x :: xs => ins x (isort xs)
theorem ins_perm (x : Int) : ∀ xs, (ins x xs).Perm (x :: xs)
  | [] => .refl _
  | y :: ys => by
    unfold ins
    split
    · exact .refl _
    · exact ((ins_perm x ys).cons y).trans (.swap x y ys)
theorem isort_perm : ∀ xs, (isort xs).Perm xs
  | [] => .refl _
  | x :: xs => (ins_perm x _).trans ((isort_perm xs).cons x)
theorem ins_sorted (x : Int) : ∀ {xs : List Int}, xs.Pairwise (· ≤ ·) → (ins x xs).Pairwise (· ≤ ·)
  | [], _ => by simp [ins]
  | y :: ys, h => by
    unfold ins
    rw [List.pairwise_cons] at h
    split
    · rename_i hle
      refine List.pairwise_cons.2 ⟨fun z hz => ?_, List.pairwise_cons.2 h⟩
      rcases List.mem_cons.1 hz with rfl | hz
      · exact hle
      · exact Int.le_trans hle (h.1 z hz)
    · rename_i hle
      refine List.pairwise_cons.2 ⟨fun z hz => ?_, ins_sorted x h.2⟩
      rcases List.mem_cons.1 ((ins_perm x ys).mem_iff.1 hz) with rfl | hz
      · omega
      · exact h.1 z hz
theorem isort_sorted : ∀ xs : List Int, (isort xs).Pairwise (· ≤ ·)
  | [] => .nil
  | x :: xs => ins_sorted x (isort_sorted xs)
theorem isort_unique {xs ys : List Int} (h : ys.Perm xs) (hs : ys.Pairwise (· ≤ ·)) : ys = isort xs :=
  List.Perm.eq_of_pairwise (le := (· ≤ ·)) (fun a b _ _ h1 h2 => Int.le_antisymm h1 h2) hs (isort_sorted xs) (h.trans (isort_perm xs).symm)
theorem mergeSort_isort (xs : List Int) : xs.mergeSort (fun x y => decide (x ≤ y)) = isort xs := by
  refine isort_unique (List.mergeSort_perm _ _) ?_
  have h := List.pairwise_mergeSort (le := fun x y : Int => decide (x ≤ y)) (fun a b c h1 h2 => by simp at *; omega) (fun a b => by simp; omega) xs
  exact h.imp (fun h => by simpa using h)
def sortedO (xs : List Int) : Option (List Int) := if xs.length ≤ 1000000 then some (isort xs) else none
theorem sortedO_ok {xs r : List Int} (h : sortedO xs = some r) : xs.length ≤ 1000000 ∧ r = isort xs := by
  unfold sortedO at h
  split at h
  · cases h; exact ⟨by assumption, rfl⟩
  · cases h
def GivesB (F : Fence) (n : Nat) (P : Program) (g : Nat) (lb : Array Value) (S : List Int → Prop) (N : Nat) (w : World) : Prop :=
  ∀ (l : Nat) (J : List Int → World → Prop) (W : World), Below w.heap.size w W → AbidesFrom W.heap.size J → (∀ pre W', J pre W' → Below w.heap.size w W') →
    (∀ pre x W1, J pre W1 → pre.length < N → YieldAt F (n - 1) P l #[Value.int .i64 x] W1 fun e W' => e = .returned (.bool true) ∧ J (pre ++ [x]) W' ∧ KeepsWalks W1 W') →
    J [] W →
    CallsIn F n P g (#[.func (.yield l) #[] #[]] ++ lb) W fun e W' => (∃ v, e = .returned v) ∧ ∃ xs, S xs ∧ J xs W'
def IntsAt (n₀ : Nat) (W : World) (sv : Value) (zs : List Int) : Prop :=
  ∃ a cap, sv = .slice a zs.length cap ∧ (zs = [] ∨ ∃ b off, a = some ⟨b, off, none⟩ ∧ b < n₀ ∧ ∀ j, j < zs.length → W.cell? ⟨b, off + j, none⟩ = some (.int .i64 (zs[j]?.getD 0)))
def ValuesIt (P : Program) (g : Nat) : Prop :=
  ∀ (n : Nat), 1 ≤ n → ∀ (Bs o : Nat) (sv : Value) (zs : List Int) (w : World), zs.length ≤ 1000000 → Bs < w.heap.size → w.cell? ⟨Bs, o, none⟩ = some sv → IntsAt w.heap.size w sv zs →
    GivesB Fence.wide n P g #[.pointer (some ⟨Bs, o, none⟩)] (fun ys => ys = zs) zs.length w
def upto {α : Type} (f : Nat → α) (k : Nat) : List α := (List.range k).map f
theorem upto_succ {α : Type} (f : Nat → α) (k : Nat) : upto f (k + 1) = upto f k ++ [f k] := by simp [upto, List.range_succ]
theorem upto_length {α : Type} (f : Nat → α) (k : Nat) : (upto f k).length = k := by simp [upto]
theorem upto_all (zs : List Int) : upto (fun j => zs[j]?.getD 0) zs.length = zs := by
  apply List.ext_getElem
  · simp [upto]
  · intro i h1 h2
    simp [upto, h2]
end Go.Lx
namespace Go.Proofs
open Go.RowKit Go.Maps Go.Sort Go.Shelf Go.Lx
variable {P : Program} {ρ : Ren}
set_option maxRecDepth 100000 in
set_option maxHeartbeats 2000000 in
theorem LxAppendSeq (L : SlLaysZI.n11 P ρ) (F : Fence) (n : Nat) (h11 : F.fn (ρ.f 11)) (hro : F.round = none) (hn : 2 ≤ n) (g : Nat) (lb : Array Value) (hFg : F.fn g) (eg : ∀ args w, (callFunc g args).run P w = .ok (.enter g args) w)
    (S : List Int → Prop) (N : Nat) (hN : N ≤ maxLen) (hNb : N * 8 ≤ 140737488355328) (w : World) (hseq : GivesB F (n - 1) P g lb S N w) :
    CallsIn F n P (ρ.f 11) #[.slice none 0 0, .func (.func g) #[] lb] w fun e w' => ∃ (v : Value) (ss : List Int), e = .returned v ∧ S ss ∧ w'.ownsRow w.heap.size (ρ.t 26) 1 v ss.length (ss.map encZ) ∧ (v = .slice none 0 0 ↔ ss = []) ∧ Below w.heap.size w w' := by
  have h1 : 1 ≤ n := by omega
  have mixed := L.mixed; have t0 := L.t0; have a0 := L.a0; have z0 := L.z0; have v0 := L.v0; have t24 := L.t24; have a24 := L.a24; have z24 := L.z24; have v24 := L.v24; have t26 := L.t26; have a26 := L.a26; have z26 := L.z26; have v26 := L.v26; have t28 := L.t28; have a28 := L.a28; have z28 := L.z28; have v28 := L.v28
  have hne : ρ.t 24 ≠ ρ.t 26 := fun e => by have h := L.t24; rw [e, L.t26] at h; cases h
  have u0 := run_underlying L.t0; have u24 := run_underlying L.t24; have u26 := run_underlying L.t26; have u28 := run_underlying L.t28
  obtain ⟨_, _, FG⟩ := L.f11
  refine callsIn_of_wp_marks FG rfl h11 ?_ hro
  simp only [SlBodyZ.n11_ntmps ρ, List.size_toArray, List.length_cons, List.length_nil, Nat.reduceAdd, Nat.reduceSub, Array.replicate_succ, Array.replicate_zero, List.push_toArray, List.append_toArray, List.nil_append, List.cons_append]
  gi_wp2
  refine wpIn_rangeFunc ?_
  intro fn hfn
  rw [hro]
  obtain ⟨W0, hW0⟩ : ∃ W0, w.alloc (.cells #[.slice none 0 0] (ρ.t 24)) = W0 := ⟨_, rfl⟩
  have hs0 : W0.heap.size = w.heap.size + 1 := by rw [← hW0]; simp
  have hv0 : W0.heap[w.heap.size]? = some (.cells #[.slice none 0 0] (ρ.t 24) (0, 0)) := by rw [← hW0]; exact World.alloc_heap_new w _
  have hb0 : Below w.heap.size w W0 := by rw [← hW0]; exact (Below.refl _ w).alloc (Nat.le_refl _) _
  rw [hW0]
  obtain ⟨W1, hW1⟩ : ∃ W1, (W0.alloc (.deferred (some []))).alloc (.loop (AnyZI.apRec ρ fn (.func (.func g) #[] lb) w.heap.size W0.heap.size .ready none)) = W1 := ⟨_, rfl⟩
  have hold : ∀ k, k < W0.heap.size → W1.heap[k]? = W0.heap[k]? := fun k hk => by
    rw [← hW1]; exact (Below.heap_alloc _ _ k (by simp; omega)).trans (Below.heap_alloc _ _ k hk)
  have hb1 : Below w.heap.size w W1 := by rw [← hW1]; exact (hb0.alloc hb0.size _).alloc (by have := hb0.size; simp; omega) _
  have hs1 : W1.heap.size = W0.heap.size + 2 := by rw [← hW1]; simp
  have hM : AnyZI.ApAt ρ w fn (.func (.func g) #[] lb) w.heap.size (W0.heap.size + 1) W0.heap.size [] W1 :=
    ⟨⟨_, (hold w.heap.size (by omega)).trans hv0, ⟨rfl, .inl ⟨rfl, rfl⟩⟩, by simp⟩,
     by rw [← hW1]; have := World.alloc_heap_new (W0.alloc (.deferred (some []))) (.loop (AnyZI.apRec ρ fn (.func (.func g) #[] lb) w.heap.size W0.heap.size .ready none)); rwa [World.size_alloc] at this,
     by rw [← hW1]; exact (Below.heap_alloc _ _ _ (by simp)).trans (World.alloc_heap_new W0 _), hb1⟩
  refine ⟨W0.heap.size + 1, [{ target := .collected W0.heap.size, args := #[] }], W1, { target := .fn (.func g) lb, args := #[.func (.yield (W0.heap.size + 1)) #[] #[]] }, W1, g,
    #[.func (.yield (W0.heap.size + 1)) #[] #[]] ++ lb, W1, ?_, ?_, ?_, ?_, fun _ => h1, ?_⟩
  · rw [← hW1]; exact run_enterLoop_outer _ _ _ _ _
  · simp [resolve, go_sem]
  · intro f' hf'; simp [Target.leads] at hf'; subst hf'; exact hFg
  · simp [invoke, go_sem, eg]
  · refine (hseq (W0.heap.size + 1) (AnyZI.ApAt ρ w fn (.func (.func g) #[] lb) w.heap.size (W0.heap.size + 1) W0.heap.size) W1 hb1 (AnyZI.ap_abides ρ _ _ _ _ _ _ _ hb1.size) (fun pre W' h => h.below)
      (fun pre x W hJ hl => AnyZI.apYield { L with } F (n - 1 - 1) w fn hfn _ w.heap.size (W0.heap.size + 1) W0.heap.size (by omega) (by omega) (by omega) (Nat.le_refl _) (by omega) N hN hNb pre x W hJ hl) hM).mono ?_
    rintro e W2 ⟨⟨v0, rfl⟩, ss, hS, h2⟩
    obtain ⟨v, hv, hrow, hnil⟩ := h2.box
    have hend := run_endLoop (P := P) h2.L (by simp [AnyZI.apRec])
    obtain ⟨W3, hW3⟩ : ∃ W3, W2.putObj (W0.heap.size + 1) (.loop { AnyZI.apRec ρ fn (.func (.func g) #[] lb) w.heap.size W0.heap.size .ready none with state := .exhausted }) = W3 := ⟨_, rfl⟩
    rw [hW3] at hend
    have hg3 : W2.grownBy W3 (some (W0.heap.size + 1)) := by rw [← hW3]; exact grownBy_putObj_a _ _ _
    have hv3 : W3.heap[w.heap.size]? = some (.cells #[v] (ρ.t 24) (0, 0)) := by rw [← hW3]; exact (World.putObj_heap_other (by omega)).trans hv
    have hK3 : W3.heap[W0.heap.size]? = some (.deferred (some [])) := by rw [← hW3]; exact (World.putObj_heap_other (by omega)).trans h2.K
    have hrow3 := hrow.kept hg3 (ownsRow_ne_a hrow h2.L (fun cur e => by first | cases e | exact hne (Obj.cells.inj e).2.1))
    have hb3 : Below w.heap.size w W3 := h2.below.grown hg3 h2.below.size (fun k e => by cases e; omega)
    obtain ⟨hc3, hf3⟩ := cell_of_box_a hv3
    clear hW3
    refine ⟨none, W3, hend, ?_⟩
    gi_wp2
    rw [← hs0]
    refine ⟨by simp, .inl ⟨_, _, rfl, run_takeDeferred hK3, ?_⟩⟩
    exact ⟨_, results_tmp rfl _ _ _, v, ss, rfl, hS, hrow3.kept (grownBy_putObj_a _ _ _) (ownsRow_ne_a hrow3 hK3 (fun cur e => by first | cases e | exact hne (Obj.cells.inj e).2.1)), hnil, hb3.grown (grownBy_putObj_a _ _ _) hb3.size (fun k e => by cases e; omega)⟩
set_option maxHeartbeats 1000000 in
theorem LxCollect (L : SlLaysZI.n8 P ρ) (F : Fence) (n : Nat) (h8 : F.fn (ρ.f 8)) (h11 : F.fn (ρ.f 11)) (hro : F.round = none) (hn : 3 ≤ n) (g : Nat) (lb : Array Value) (hFg : F.fn g) (eg : ∀ args w, (callFunc g args).run P w = .ok (.enter g args) w)
    (S : List Int → Prop) (N : Nat) (hN : N ≤ maxLen) (hNb : N * 8 ≤ 140737488355328) (w : World) (hseq : GivesB F (n - 1 - 1) P g lb S N w) :
    CallsIn F n P (ρ.f 8) #[.func (.func g) #[] lb] w fun e w' => ∃ (v : Value) (ss : List Int), e = .returned v ∧ S ss ∧ w'.ownsRow w.heap.size (ρ.t 26) 1 v ss.length (ss.map encZ) ∧ (v = .slice none 0 0 ↔ ss = []) ∧ Below w.heap.size w w' := by
  have h1 : 1 ≤ n := by omega
  have e11 : ∀ args w, (callFunc (ρ.f 11) args).run P w = .ok (.enter (ρ.f 11) args) w := L.f11.enters rfl
  have mixed := L.mixed; have t0 := L.t0; have a0 := L.a0; have z0 := L.z0; have v0 := L.v0; have t24 := L.t24; have a24 := L.a24; have z24 := L.z24; have v24 := L.v24; have t26 := L.t26; have a26 := L.a26; have z26 := L.z26; have v26 := L.v26; have t28 := L.t28; have a28 := L.a28; have z28 := L.z28; have v28 := L.v28
  have u0 := run_underlying L.t0; have u24 := run_underlying L.t24; have u26 := run_underlying L.t26; have u28 := run_underlying L.t28
  obtain ⟨_, _, FG⟩ := L.f8
  refine callsIn_of_wp FG rfl h8 ?_ hro
  simp only [SlBodyZ.n8_ntmps ρ, List.size_toArray, List.length_cons, List.length_nil, Nat.reduceAdd, Nat.reduceSub, Array.replicate_succ, Array.replicate_zero, List.push_toArray, List.append_toArray, List.nil_append, List.cons_append]
  gi_wp2_with (gi_at_fn (ρ.f 11); refine (LxAppendSeq { L with } F (n - 1) h11 hro (by omega) g lb hFg eg S N hN hNb _ hseq).mono ?_; rintro e w' ⟨v, ss, rfl, hS, hrow, hnil, hb⟩)
  go_ret
  exact ⟨v, ss, rfl, hS, hrow, hnil, hb⟩
set_option maxRecDepth 100000 in
set_option maxHeartbeats 2000000 in
theorem LxSorted (L : SlLaysZI.n6 P ρ) (F : Fence) (n : Nat) (h6 : F.fn (ρ.f 6)) (h8 : F.fn (ρ.f 8)) (h9 : F.fn (ρ.f 9)) (h11 : F.fn (ρ.f 11)) (hro : F.round = none) (hn : 4 ≤ n) (hsort : AnyZI.SortsIn P ρ F (n - 1)) (e9 : ∀ args w, (callFunc (ρ.f 9) args).run P w = .ok (.enter (ρ.f 9) args) w) (g : Nat) (lb : Array Value) (hFg : F.fn g) (eg : ∀ args w, (callFunc g args).run P w = .ok (.enter g args) w)
    (zs : List Int) (hN : zs.length ≤ 1000000) (w : World) (hseq : GivesB F (n - 1 - 1 - 1) P g lb (fun ys => ys = zs) zs.length w) :
    CallsIn F n P (ρ.f 6) #[.func (.func g) #[] lb] w fun e w' => ∃ (v : Value), e = .returned v ∧
      w'.ownsRow w.heap.size (ρ.t 26) 1 v zs.length ((isort zs).map encZ) ∧ Below w.heap.size w w' := by
  have h1 : 1 ≤ n := by omega
  have e8 : ∀ args w, (callFunc (ρ.f 8) args).run P w = .ok (.enter (ρ.f 8) args) w := L.f8.enters rfl
  have mixed := L.mixed; have t0 := L.t0; have a0 := L.a0; have z0 := L.z0; have v0 := L.v0; have t24 := L.t24; have a24 := L.a24; have z24 := L.z24; have v24 := L.v24; have t26 := L.t26; have a26 := L.a26; have z26 := L.z26; have v26 := L.v26; have t28 := L.t28; have a28 := L.a28; have z28 := L.z28; have v28 := L.v28
  have u0 := run_underlying L.t0; have u24 := run_underlying L.t24; have u26 := run_underlying L.t26; have u28 := run_underlying L.t28
  have hml : (1000000 : Nat) ≤ maxLen := by decide
  obtain ⟨_, _, FG⟩ := L.f6
  refine callsIn_of_wp FG rfl h6 ?_ hro
  simp only [SlBodyZ.n6_ntmps ρ, List.size_toArray, List.length_cons, List.length_nil, Nat.reduceAdd, Nat.reduceSub, Array.replicate_succ, Array.replicate_zero, List.push_toArray, List.append_toArray, List.nil_append, List.cons_append]
  gi_wp2_with (gi_at_fn (ρ.f 8); refine (LxCollect { L with } F (n - 1) h8 h11 hro (by omega) g lb hFg eg _ zs.length (by omega) (by omega) _ hseq).mono ?_; rintro e W ⟨v, ss, rfl, hS, hrow, hnil, hb⟩)
  subst hS
  rcases hrow.2 with ⟨rfl, hz⟩ | ⟨gb, cap, cur, rfl, hbase, hgb, r1, r2, r3, r4⟩
  · have hss : ss = [] := List.eq_nil_of_length_eq_zero hz
    subst hss
    gi_wp2_with (gi_at_fn (ρ.f 9); refine (hsort.2 none 0 W).mono ?_; rintro e w' ⟨rfl, rfl⟩)
    go_ret
    exact ⟨.slice none 0 0, rfl, by simpa [isort] using hrow, hb⟩
  · have hH : Holds encZ W gb 0 ss.toArray := holds_of_block_i hgb (by simpa using r4)
    have hgl : gb < W.heap.size := (Array.getElem?_eq_some_iff.1 hgb).1
    have hsz : ss.length < 4611686018427387904 := by omega
    have cS := hsort.1 gb 0 cap ss W hH hgl hsz
    gi_wp2_with (gi_at_fn (ρ.f 9); refine cS.mono ?_; rintro e w' ⟨rfl, nn, os, rfl⟩)
    go_ret
    exact ⟨_, rfl, by rw [← mergeSort_isort]; exact ownsRow_sorted_i (by simp) hbase hgb r1 r2 r3, hb.grown (grownBy_sorted_i _) hb.size (fun j hj => by cases hj; exact hbase)⟩
end Go.Proofs
set_option linter.all false
namespace Go.Lx
open Go.RowKit Go.Proofs
theorem post_below {P : Program} {V : View} {μ : Id → Pl} {w w' : World} {out : Out} (I : Inv P V (outS out).get μ w) (B : Below w.heap.size w w') {x : D} {cv : Value}
    (hd : ∀ V' : View, V.Le V' → (∀ b c v, w.heap.size ≤ b → w'.cell? ⟨b, c, none⟩ = some v → V'.cell b c v) → DRel P V' x cv) : CallPost P V μ w out ⟨.d x, []⟩ cv w' := by
  let V' : View := ⟨fun b c v => V.cell b c v ∨ (w.heap.size ≤ b ∧ w'.cell? ⟨b, c, none⟩ = some v), V.map⟩
  have hV : V.Le V' := ⟨fun _ _ _ h => .inl h, fun _ _ _ h => h⟩
  have sc : ∀ b c v, V'.cell b c v → w'.cell? ⟨b, c, none⟩ = some v := by
    rintro b c v (h | h)
    · have h1 := I.cell b c v h
      have h2 : b < w.heap.size := World.block_lt_of_cell? w _ h1
      rw [← h1]
      unfold World.cell?
      simp only [B.block b h2]
    · exact h.2
  have sm : ∀ r e c, V'.map r e c → w'.heap[r]? = some (.map e c) := by
    intro r e c h
    have h1 := I.map r e c h
    rw [B.block r (Array.getElem?_eq_some_iff.1 h1).1]
    exact h1
  have I' : Inv P V' (outS out).get μ w' := I.frame (fun b ho => B.block b (ho.lt I)) hV (fun b c v h ho => by
      rcases h with h | h
      · exact h
      · have := ho.lt I; omega) (fun _ _ _ h _ => h) sc sm
  refine ⟨V', μ, [], ?_, I', ⟨fun g hg => (by cases hg), fun g hg => (by cases hg), .nil⟩, ?_⟩
  · simp only [ResRel]
    exact ⟨trivial, .d _ _ (hd V' hV fun b c v h1 h2 => .inr ⟨h1, h2⟩)⟩
  · refine ⟨B.os, B.tape, B.output, B.size, fun b hb _ => B.block b hb, hV, fun b c v h => ?_, fun r e c h => .inl h, fun i b hb hn => .inl ⟨b, hb, hn, rfl⟩, fun i b hb => ⟨b, hb, .refl _ _⟩⟩
    rcases h with h | h
    · exact .inl h
    · exact .inr (.inr h.1)
theorem ints_cells {P : Program} {V : View} {h : Id → Option Blk} {μ : Id → Pl} {w : World} (I : Inv P V h μ w) {xs : List Int} {sv : Value} (hd : DRel P V (.sl (xs.map dI)) sv) : IntsAt w.heap.size w sv xs := by
  generalize hq : D.sl (xs.map dI) = q at hd
  cases hd with
  | sl ys a c b o sz ev hc ha h1 hs hv =>
    cases hq
    rw [List.length_map] at *
    refine ⟨a, c, by simp, ?_⟩
    rcases ha with ha | rfl
    · exact .inl (by simpa using ha)
    · by_cases he : xs = []
      · exact .inl he
      right
      have hcell : ∀ j, j < xs.length → w.cell? ⟨b, o + j * sz, none⟩ = some (.int .i64 (xs[j]?.getD 0)) ∧ sz = 1 := by
        intro j hj
        have e1 : (xs.map dI)[j]? = some (dI xs[j]) := by simp [hj]
        have r := h1 j _ e1
        have hev : ev j = .int .i64 xs[j] := by
          generalize ev j = q at r
          unfold dI at r
          cases r
          rfl
        have hz := hs j (by simpa using hj)
        have ha := hv j (by simpa using hj) 0 (.int .i64 xs[j]) (by rw [hev]; rfl)
        rw [hev] at hz
        have := I.cell _ _ _ ha
        refine ⟨?_, by simpa [Value.cells] using hz.symm⟩
        rw [Nat.add_zero] at this
        rw [this]
        simp [hj]
      have h0 : 0 < xs.length := List.length_pos_iff.2 he
      have hsz := (hcell 0 h0).2
      subst hsz
      refine ⟨b, o, rfl, World.block_lt_of_cell? w _ (hcell 0 h0).1, fun j hj => ?_⟩
      have := (hcell j hj).1
      rwa [Nat.mul_one] at this
  | _ => cases hq
theorem ints_rel {P : Program} {V : View} {w : World} {t n0 : Nat} {v : Value} {xs : List Int} (hrow : w.ownsRow n0 t 1 v xs.length (xs.map (Value.int .i64))) (hV : ∀ b c x, n0 ≤ b → w.cell? ⟨b, c, none⟩ = some x → V.cell b c x) : DRel P V (.sl (xs.map dI)) v := by
  rcases hrow.2 with ⟨rfl, hz⟩ | ⟨gb, cap, cur, rfl, hbase, hgb, r1, r2, r3, r4⟩
  · have : xs = [] := List.eq_nil_of_length_eq_zero hz
    subst this
    exact .sl [] none 0 0 0 0 (fun _ => undef) (Nat.le_refl _) (.inl rfl) (fun i d hd => by simp at hd) (fun i hi => by simp at hi) (fun i hi => by simp at hi)
  · have key : DRel P V (.sl (xs.map dI)) (.slice (some ⟨gb, 0, none⟩) (xs.map dI).length cap) := by
      refine .sl (xs.map dI) (some ⟨gb, 0, none⟩) cap gb 0 1 (fun i => .int .i64 (xs[i]?.getD 0)) (by simpa using r1) (.inr rfl) ?_ ?_ ?_
      · intro i d hd
        simp only [List.getElem?_map, Option.map_eq_some_iff] at hd
        obtain ⟨z, h1, rfl⟩ := hd
        simp only [h1, Option.getD_some]
        exact .int .i64 z
      · intro i hi; rfl
      · intro i hi j x hx
        have hj : j = 0 ∧ x = .int .i64 (xs[i]?.getD 0) := by
          cases j with
          | zero => simp [Value.cells] at hx; exact ⟨rfl, hx.symm⟩
          | succ j => simp [Value.cells] at hx
        obtain ⟨rfl, rfl⟩ := hj
        rw [List.length_map] at hi
        apply hV gb _ _ hbase
        have hc : cur[i]? = some (.int .i64 (xs[i]?.getD 0)) := by
          have : (cur.toList.take (xs.length * 1))[i]? = (xs.map (Value.int .i64))[i]? := by rw [r4]
          rw [List.getElem?_take_of_lt (by omega)] at this
          simp only [Array.getElem?_toList, List.getElem?_map] at this
          rw [this]
          simp [hi]
        unfold World.cell?
        simp [hgb, hc]
    simpa using key
theorem sorted_ok {P : Program} {ρ : Go.Shelf.Ren} {gS gI : Nat} (hg : ρ.f 6 = gS) (L : SlLaysZI.n6 P ρ) (hsort : ∀ m, AnyZI.SortsIn P ρ Fence.wide m) (e9 : ∀ args w, (callFunc (ρ.f 9) args).run P w = .ok (.enter (ρ.f 9) args) w)
    (ent : Enterable P gS) (eg : ∀ args w, (callFunc gI args).run P w = .ok (.enter gI args) w) (hit : ValuesIt P gI) {xs r : List Int} {out : Out} (h : sortedO xs = some r) :
    FunOk P gS [.clo gI [.pimm (.sl (xs.map dI)) 0]] out ⟨.d (.sl (r.map dI)), []⟩ := by
  obtain ⟨hl, rfl⟩ := sortedO_ok h
  refine ⟨ent, fun V μ w cargs I R => ?_⟩
  cases R with
  | cons _ v _ vs h1 h2 =>
  cases h2
  cases h1 with
  | clo _ _ vs hn hc =>
  have h0 : 0 < vs.size := by simp [hn]
  have hp := hc 0 (.pimm (.sl (xs.map dI)) 0) vs[0] rfl (by simp [h0])
  have hvs : vs = #[vs[0]] := by
    apply Array.ext
    · simpa using hn
    · intro i h1 h2
      have : i = 0 := by simp at h2; omega
      subst this
      rfl
  rw [hvs]
  generalize vs[0] = pv at hp
  cases hp with
  | pimm _ _ ev b o hd hv =>
  have hcells : ev.cells[0]? = some ev := by
    clear hv hc hvs hit
    generalize hq : D.sl (xs.map dI) = q at hd
    cases hd <;> first | rfl | cases hq
  have hcell := I.cell _ _ _ (hv 0 ev hcells)
  have hb : b < w.heap.size := World.block_lt_of_cell? w _ hcell
  subst hg
  refine callsIn_wide.1 ((LxSorted L Fence.wide 6 trivial trivial trivial trivial rfl (by omega) (hsort _) e9 gI #[.pointer (some ⟨b, o + 0, none⟩)] trivial eg xs hl w (hit _ (by omega) b (o + 0) ev xs w hl hb hcell (ints_cells I hd))).mono ?_)
  rintro e w' ⟨v, rfl, hrow, hB⟩
  exact post_below I hB fun V' _ hV => ints_rel (by simpa [(isort_perm xs).length_eq] using hrow) hV
end Go.Lx
