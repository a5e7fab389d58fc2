/- Values of the language, told by plain data; contracts of functions and operations, and how they are shown: part 4. -/
import Derived.Test.YtiidkobbkanciaaGreatKit3
import Derived.Lib.Overlaps
import Derived.Shelf.SlIterI.Sorted
import Derived.Shelf.SortM.Plain
import Derived.Shelf.SortM.SortNone
import Derived.Laws.IdiomRangeMap
set_option linter.all false
namespace Go.Lx
section
variable {P : Program} {env : Env} {s s' : S} {loc loc' : Loc} {out : Out} {chg : List (Option Loc)} {dst : Option Nat} {d : Nat} {ty : TypeId} {pos : String} {af : Array Edge} {gd : Option (Nat × Bool)}
theorem OpOk.sem {o : Oper} {v : A} {dl : Delta} (hr : readsMem env o.op = true)
  (h : ∀ (V : View) (μ : Id → Pl) (w : World), Inv P V s.get μ w → ∀ (a : Act), (∀ x, x ∈ o.op.operands → ∀ u, evOperand (look env) x = some u → ARel P V s.get μ u (a.eval x)) →
   ∃ m : Sem Value, execOp a.eval o = (do pure (.value (← m))) ∧ Done P V s μ w (dl.apply s) v (m.run P w)) : OpOk P env s o v dl := by
 refine ⟨.inr ⟨hr, fun V μ w I a R K Q hK => ?_⟩⟩;obtain ⟨m, h1, h2⟩ := h V μ w I a R;exact done_wp (c := bc P) h1 h2 (fun cv w' hl => hK cv w' hl)
theorem EnvRel.cons {V : View} {h : Id → Option Blk} {μ : Id → Pl} {tmps : Array Value} (R : EnvRel P V h μ env tmps) {t0 : Nat} {v : A} (H : ARel P V h μ v (tmps.getD t0 undef)) : EnvRel P V h μ ((t0, v) :: env) tmps := by
 intro t u hu;simp only [look] at hu;split at hu
 ·rename_i e; subst e; cases hu; exact H
 ·exact R t u hu
theorem CWp.cap {code : Code} {Q : Ex → Env → S → Prop} {t0 n sz : Nat} {id : Id} {l : Bool} {xs : List D} (hv : look env t0 = some (.ref id 0 n n)) (hn : n = xs.length) (hb : Sees s id (.arr sz l xs))
  (h : ∀ c : Nat, n ≤ c → CWp P code ((t0, .rcap id 0 n n c) :: env) s Q) : CWp P code env s Q := by
 refine ⟨fun O a w hc T => ?_⟩;obtain ⟨V, μ, I, R, E, hdep, hn', hdf⟩ := T;have h2 := R t0 _ hv;generalize hq : a.tmps.getD t0 undef = cv at h2;cases h2 with
 | ref _ _ _ _ sz' l' xs' ad c hi hf hs =>
  have hb' := hb.h;rw [hi] at hb';cases hb';have hle : n ≤ c := by
   obtain ⟨a', c', e1, hsv⟩ := hs hn;cases e1;rcases I.blk id _ hi with ⟨q1, q2, q3⟩ | ⟨q1, q2, _⟩
   ·subst q2; simp at hn; omega
   ·rcases hsv with ⟨z1, _⟩ | ⟨_, z2, z3, _⟩
    ·rw [q1] at z1; cases z1
    ·omega
  refine (h c hle).ok O a w hc ⟨V, μ, I, ?_, E, hdep, hn', hdf⟩;refine R.cons ?_;rw [hq];exact .rcap _ _ _ _ _ sz l xs ad hi hf hs
theorem cap_ {x : Operand} {id : Id} {o n m c t e sz by_ : Nat} {z : D} {ts : Array TypeId} (ht : Sli P t e sz by_ z) (hx : evOperands (look env) #[x].toList = some [.rcap id o n m c]) (hts : ts.toList = [t]) :
  OpOk P env s ⟨some d, .call ⟨.builtin .cap, #[x], ts⟩, ty, pos, af, gd⟩ (.d (.int .i64 c)) .same := by
 refine bi hx hts ?_;simp [evBuiltin, elemT, bc, ht.u]
def junkD (sz : Nat) : D := .agg (List.replicate sz .junk)
theorem junk_size (sz : Nat) : (junkD sz).size = sz := by simp [junkD, D.size, D.cells]
theorem open_row {V : View} {sz n m cap : Nat} {xs : List D} {cells : Array Value} (h : RowIs P V sz xs cells) (hn : n = xs.length) (hc : n + m ≤ cap) (hs : cells.size = cap * sz) : RowIs P V sz (xs ++ List.replicate m (junkD sz)) cells := by
 obtain ⟨hp, ev, h⟩ := h;refine ⟨hp, fun i => if i < n then ev i else .agg (cells.extract (i * sz) (i * sz + sz)), fun i d hd => ?_⟩;by_cases e : i < n
 ·rw [List.getElem?_append_left (by omega)] at hd;simp only [if_pos e];exact h i d hd
 ·rw [List.getElem?_append_right (by omega), List.getElem?_replicate] at hd;split at hd
  ·rename_i hlt
   cases hd;simp only [if_neg e];have h1 : i * sz + sz ≤ cells.size := by
    rw [hs]
    calc i * sz + sz = (i + 1) * sz := by rw [Nat.add_mul, Nat.one_mul]
     _ ≤ cap * sz := Nat.mul_le_mul_right _ (by omega)
   have hsz : (cells.extract (i * sz) (i * sz + sz)).size = sz := by simp; omega
   have hget : ∀ (j : Nat) v, (cells.extract (i * sz) (i * sz + sz))[j]? = some v → cells[i * sz + j]? = some v := by
    intro j v hv;have hj := (Array.getElem?_eq_some_iff.1 hv).1;rw [hsz] at hj;rw [Array.getElem?_extract] at hv;split at hv
    ·exact hv
    ·cases hv
   refine ⟨.agg _ _ (by simp [hsz]) (fun j d v hd hv => ?_) (fun j v hv => hp _ _ (hget j v hv)), hsz, hget⟩;rw [List.getElem?_replicate] at hd;split at hd
   ·cases hd; exact .junk v (hp _ _ (hget j v hv))
   ·cases hd
  ·cases hd
theorem Le.open {t0 n m c sz : Nat} {id : Id} {xs : List D} (hv : look env t0 = some (.rcap id 0 n n c)) (hn : n = xs.length) (hb : Sees s id (.arr sz false xs)) (hm : 0 < m) (hc : n + m ≤ c)
  (hl : SetS s id (.arr sz false (xs ++ List.replicate m (junkD sz))) s') : Le P env s ((t0, .ref id 0 n (n + m)) :: env) s' := by
 refine ⟨fun O a w T => ?_⟩;obtain ⟨V, μ, I, R, E, hdep, hn', hdf⟩ := T;obtain ⟨hget, hout⟩ := S.get_set hb.h (.arr sz false (xs ++ List.replicate m (junkD sz)));rw [hl.h] at hget hout;have h2 := R t0 _ hv;generalize hq : a.tmps.getD t0 undef = cv at h2;cases h2 with
 | rcap _ _ _ _ _ sz' l' xs' ad hi hf hs =>
  have hb' := hb.h;rw [hi] at hb';cases hb';obtain ⟨a', c', e1, hsv⟩ := hs hn;cases e1;have hμ : updP μ id (μ id) = μ := by funext j; unfold updP; split <;> simp_all
  rcases hsv with ⟨z1, z2, z3, z4⟩ | ⟨z1, z2, z3, z4, z5⟩
  ·omega
  ·rcases I.blk id _ hi with ⟨q1, _⟩ | ⟨q1, q2, q3, q4, cells, elem, q5, q6, q7⟩
   ·rw [q1] at z1; cases z1
   ·obtain ⟨I2, E2⟩ := I.repl (w' := w) hi (.arr sz false (xs ++ List.replicate m (junkD sz))) (μ id) (fun h => .inl ⟨rfl, h⟩) (fun _ _ _ => rfl) (fun c v _ h => I.cell _ _ _ h) (fun e c _ h => I.map _ _ _ h) rfl rfl rfl (Nat.le_refl _)
     (.inr ⟨q1, by simp; omega, q3, fun cc v h => absurd h (q3 rfl cc v), cells, elem, q5, q6, open_row q7 hn (cap := (μ id).cap) (by omega) q6⟩) (by simp [BlkLe]) (fun cs' q => by cases q)
    rw [hμ] at I2 E2;refine ⟨V, μ, by rw [hget]; exact I2, ?_, by rw [hget]; exact E.trans E2, hout.trans hdep, hn', hdf⟩;rw [hget];refine EnvRel.cons (fun u y hy => E2.arel (R u y hy)) ?_;rw [hq];refine .ref id 0 n (n + m) sz false _ ad c (upd_same _ _ _) (by simp; omega) (fun _ => ⟨_, _, rfl, .inr ⟨z1, z2, z3, z4, z5⟩⟩)
section
variable {x : Operand} {t e sz by_ off len full : Nat} {z : D} {xs ys : List D} {o1 : Operand} {lo hi : Int} {k1 : IntKind} {id : Id} {l : Bool}
theorem slG1 (ht : Sli P t e sz by_ z) (hx : evOperand (look env) x = some (.ref id off len full)) (hf : full = xs.length) (hb : Sees s id (.arr sz l xs)) (h1 : evOperand (look env) o1 = some (.d (.int k1 lo))) (hc : 0 ≤ lo ∧ lo ≤ len ∧ off + len ≤ full) :
  OpOk P env s ⟨dst, .slice t x (some o1) none none, ty, pos, af, gd⟩ (.ref id (off + lo.toNat) (len - lo.toNat) full) .same := .of (bc P) rfl fun _ _ => by
 subst hf;obtain ⟨c1, c2, c3⟩ := hc;have hbd : evBounds len (some (.d (.int k1 lo))) none = some (lo.toNat, len) := by
  have := bounds_ok (.is h1) (.no : Bd env (len : Int) none len none) c1 c2 (Int.le_refl _);simpa using this
 rw [Bd.run hx (.is h1 : Bd env 0 (some o1) lo _) (.no : Bd env (len : Int) none len none)];simp [evSlice, bc, ht.u, ht.s, hb.h, hiLim, hbd, c3]
theorem slG2 (ht : Sli P t e sz by_ z) (hx : evOperand (look env) x = some (.ref id off len full)) (hf : full = xs.length) (hb : Sees s id (.arr sz l xs)) (h1 : evOperand (look env) o1 = some (.d (.int k1 hi))) (hc : 0 ≤ hi ∧ hi ≤ (full - off : Nat) ∧ off + len ≤ full) :
  OpOk P env s ⟨dst, .slice t x none (some o1) none, ty, pos, af, gd⟩ (.ref id off hi.toNat full) .same := .of (bc P) rfl fun _ _ => by
 subst hf;obtain ⟨c1, c2, c3⟩ := hc;have hbd : evBounds (xs.length - off) none (some (.d (.int k1 hi))) = some ((0 : Int).toNat, hi.toNat) := bounds_ok (.no : Bd env 0 none 0 none) (.is h1 : Bd env ((xs.length - off : Nat) : Int) (some o1) hi _) (Int.le_refl _) c1 c2;rw [Bd.run hx (.no : Bd env 0 none 0 none) (.is h1 : Bd env ((xs.length - off : Nat) : Int) (some o1) hi _)];simp [evSlice, bc, ht.u, ht.s, hb.h, hiLim, hbd, c3]
theorem slRc {n c : Nat} (ht : Sli P t e sz by_ z) (hx : evOperand (look env) x = some (.rcap id 0 n n c)) (hm : noMem env x = false) (h1 : evOperand (look env) o1 = some (.d (.int k1 hi))) (hc : 0 ≤ hi ∧ hi ≤ n ∧ n ≤ c) :
  OpOk P env s ⟨dst, .slice t x none (some o1) none, ty, pos, af, gd⟩ (.rcap id 0 hi.toNat n c) .same := by
 obtain ⟨c1, c2, c3⟩ := hc;refine OpOk.sem (by simp [readsMem, hm]) fun V μ w I a R => ?_
 have Rx := R x (by simp [Op.operands]) _ hx;have Ro := R o1 (by simp [Op.operands]) _ h1;refine ⟨Instr.sliceAt t (a.eval x) none (some (a.eval o1)) none, by simp [execOp], ?_⟩;generalize a.eval x = vx at Rx;generalize a.eval o1 = vo at Ro;have hvo := dInt Ro;subst hvo;cases Rx with
 | rcap _ _ _ _ _ sz' l' xs' ad hi' hf hs =>
  have hbd : evBounds n none (some (.d (.int k1 hi))) = some ((0 : Int).toNat, hi.toNat) := bounds_ok (.no : Bd env 0 none 0 none) (.is h1 : Bd env ((n : Nat) : Int) (some o1) hi _) (Int.le_refl _) c1 c2;obtain ⟨g1, g2, g3⟩ := run_bounds (w := w) (h := s.get) (μ := μ) (V := V) (P := P) (len := n) (cap := c) (lo' := none) (hi' := some (.int k1 hi)) hbd trivial Ro (fun q => by cases q) c3;refine .pure I (sliceAt_eq ht.u ht.s g3) ?_;have e1 : (if c = (0 : Int).toNat then ad else ad.map (·.add ((0 : Int).toNat * sz))) = ad := by
   split
   ·rfl
   ·cases ad with
    | none => rfl
    | some q => simp [Addr.add]
  rw [e1];simp only [Int.toNat_zero, Nat.sub_zero];refine .rcap id 0 hi.toNat n c sz' l' xs' ad hi' hf (fun q => ?_);obtain ⟨a', c', e2, hsv⟩ := hs q;cases e2;refine ⟨_, _, rfl, ?_⟩;rcases hsv with ⟨z1, z2, z3, z4⟩ | hsv
  ·exact .inl ⟨z1, z2, z3, z4⟩
  ·exact .inr hsv
theorem cpR {y : A} {args : Array Operand} {ts : Array TypeId} {ts' : List TypeId} {t2 : TypeId} (ht : Sli P t e sz by_ z) (ha : evOperands (look env) args.toList = some [.ref id off len full, y]) (hf : full = xs.length) (hts : ts.toList = t :: t2 :: ts') (hy : Els s y ys) (hs : (ys.all fun y => decide (y.size = sz)) = true)
  (hb : Sees s id (.arr sz false xs)) (hc : off + len ≤ full) (hl : SetS s id (.arr sz false (splice xs off (ys.take len))) s') :
  OpOk P env s ⟨dst, .call ⟨.builtin .copy, args, ts⟩, ty, pos, af, gd⟩ (.d (.int .i64 (min ys.length len : Nat))) (.set s') := by
 subst hf;refine bi ha hts ?_;have h := hl.h;simp only [evBuiltin, evCopy, elemT, bc, ht.u, hy.h, ht.s, hb.h, hs, and_self, true_and, hc, if_true, h]
theorem elG (hb : Sees s id (.arr sz l xs)) (hf : full = xs.length) (hc : off + len ≤ full) : Els s (.ref id off len full) ((xs.drop off).take len) := ⟨by
 subst hf;simp [S.elems, hb.h, hc]⟩
end
theorem run_append_mk {V : View} {w : World} {t t2 el : TypeId} {i : TypeInfo} {z : Value} {a : Option Addr} {k1 : IntKind} {len cap n sz : Nat} {xs : List Value} (ty : TypeId)
  (hu : P.underlying t = some (.slice el)) (hu2 : P.underlying t2 = some (.int k1)) (hi : P.info? el = some i) (hz : i.zero = some z) (hsz : sizeT P el = some sz) (hzs : z.cells.size = sz)
  (hr : room (len + n) i.bytes = true) (hb : 0 < i.bytes) (hcap : cap < len + n)
  (hx : (Builtin.firstCells sz len (.slice a len cap)).run P w.drew = .ok xs.toArray w.drew) :
  ∃ k, (Builtin.append_ #[t, t2] ty #[.slice a len cap, .int .i64 n]).run P w =
   .ok (.slice (some ⟨w.heap.size, 0, none⟩) (len + n) (len + n + k)) (grownWorld w (.cells ((xs ++ (Builtin.zeroCells z.cells n).toList).toArray ++ Builtin.zeroCells z.cells k) el)) := by
 obtain ⟨h1, h2⟩ := room_le hr;have hnc := nextcap_le (len + n) cap hcap;have hbig : ¬ (Builtin.nextslicecap (len + n) cap * i.bytes > 2 ^ 48) := by
  have : Builtin.nextslicecap (len + n) cap * i.bytes ≤ (2 * 16777216 + 768) * 1048576 := Nat.mul_le_mul (by omega) h2;omega
 refine ⟨w.tape w.drawn (.appendCap (len + n) cap el) % (2 ^ 63 - (len + n)), ?_⟩;have hneed : ¬ (len + n ≤ cap) := by omega
 have hz0 : ¬ (i.bytes = 0) := by omega
 have hw : IntKind.i64.wrap (n : Int) = n := wrap_small (by omega) (by omega);have hneg : ¬ ((n : Int) < 0) := by omega
 have hbig3 : ¬ (281474976710656 < (n : Int) * (i.bytes : Int)) := by
  have : (n : Int) * (i.bytes : Int) ≤ 16777216 * 1048576 := Int.mul_le_mul (by omega) (by omega) (by omega) (by omega);omega
 have hbig5 : ¬ (9223372036854775807 < ((len : Int) + (n : Int))) := by omega
 by_cases hz2 : n * sz = 0
 ·have hzero : Builtin.zeroCells z.cells n = #[] := Array.eq_empty_of_size_eq_zero (by rw [zeroCells_size, hzs]; exact hz2);simp [Builtin.append_, run_under hu, run_under hu2, run_sizeT hsz, hneed, hz0, hbig, hbig3, hbig5, hneg, hz2, hw, asInt, asIntOf, Question.forced, Question.cut, hx, zeroValue, hz, newRow, grownWorld, typeInfo, hi, hzero]
 ·simp [Builtin.append_, run_under hu, run_under hu2, run_sizeT hsz, hneed, hz0, hbig, hbig3, hbig5, hneg, hz2, hw, asInt, asIntOf, Question.forced, Question.cut, hx, zeroValue, hz, newRow, grownWorld, typeInfo, hi];refine congrArg _ (congrArg (fun c => Obj.cells c el) ?_);rw [← Array.append_assoc]
  congr 1
  simp
theorem apMk {x : Operand} {y : Operand} {ts : Array TypeId} {t t2 e sz by_ n c i nn : Nat} {z : D} {k : Int} {k1 : IntKind} {id : Id} {l : Bool} {xs : List D} (ht : Sli P t e sz by_ z) (ht2 : P.underlying t2 = some (.int k1)) (hts : ts.toList = [t, t2])
  (hx : evOperand (look env) x = some (.rcap id 0 i n c)) (hy : evOperand (look env) y = some (.d (.int .i64 k))) (hn : n = xs.length) (hb : Sees ⟨loc, out, chg⟩ id (.arr sz l xs)) (hi : i ≤ n) (hk : 0 ≤ k ∧ (c : Int) < i + k ∧ i + k ≤ 16777216) (hf : nextN loc d = nn) :
  OpOk P env ⟨loc, out, chg⟩ ⟨some d, .call ⟨.builtin .append, #[x, y], ts⟩, ty, pos, af, gd⟩ (.ref ⟨out.length, d, nn⟩ 0 (i + k.toNat) (i + k.toNat)) (.add [((d, nn), .arr sz false (xs.take i ++ List.replicate k.toNat z))]) := by
 obtain ⟨k0, k2, k3⟩ := hk;refine OpOk.sem rfl fun V μ w I a R => ?_
 have Rx := R x (by simp [Op.operands, Call.operands]) _ hx;have Ry := R y (by simp [Op.operands, Call.operands]) _ hy;refine ⟨Builtin.append_ #[t, t2] ty #[a.eval x, a.eval y], by
  have : ts = #[t, t2] := by rw [← hts]
  simp [execOp, resolve, invoke, builtin, this], ?_⟩
 generalize a.eval x = vx at Rx;generalize a.eval y = vy at Ry;have hvy := dInt Ry;subst hvy;obtain ⟨m, rfl⟩ := Int.eq_ofNat_of_zero_le k0;obtain ⟨inf, hinf, hby⟩ := run_bytesT ht.b;obtain ⟨zv, hz, hzs, hzr⟩ := zero_parts ht.z0 hinf;have hzc : zv.cells.size = sz := by rw [hzs, ht.zs]
 cases Rx with
 | rcap _ _ _ _ _ sz' l' xs' ad hi' hf' hs =>
  have hb' := hb.h;rw [hi'] at hb';cases hb';obtain ⟨a', c', e2, hsv⟩ := hs hn;cases e2;have hxall : ∃ xc : List Value, Cellsof P V sz (xs.take i) xc ∧ (Builtin.firstCells sz i (.slice ad i c)).run P w.drew = .ok xc.toArray w.drew := by
   rcases hsv with ⟨q1, q2, q3, _⟩ | ⟨q1, q2, q3, q4, q5⟩
   ·rcases I.blk id _ hi' with ⟨_, q, _⟩ | ⟨q, _⟩
    ·subst q q2;exact ⟨[], by simpa using Cellsof.nil sz, by simp [Builtin.firstCells]⟩
    ·rw [q1] at q; cases q
   ·have ha := q5 (.inr rfl);rw [Nat.zero_mul] at ha;subst ha;rcases I.blk id _ hi' with ⟨q, _⟩ | ⟨_, b2, b3, b4, cells, elem, b5, b6, b7⟩
    ·rw [q1] at q; cases q
    ·have hX := (row_cells b7 (by rw [b6]; exact Nat.mul_le_mul_right _ b2)).take i;refine ⟨_, hX, ?_⟩;simp only [Builtin.firstCells];have key := run_loadCells_list (P := P) (w := w.drew) ⟨(μ id).blk, 0, none⟩ ((cells.toList.take (xs.length * sz)).take (i * sz)) (fun j v hv => by
      rw [add_none, cell_of_row w.drew _ _ cells elem (0, 0) b5];rw [List.getElem?_take] at hv;split at hv
      ·rw [List.getElem?_take] at hv;split at hv
       ·simpa using hv
       ·cases hv
      ·cases hv)
     rw [hX.1, List.length_take, Nat.min_eq_left (by omega)] at key;exact key
  obtain ⟨xc, hxC, hxr⟩ := hxall;have hroom : room (i + m) inf.bytes = true := by simp [room]; have := ht.r; omega
  obtain ⟨kk, hrun⟩ := run_append_mk (V := V) (w := w) (n := m) ty ht.u ht2 hinf hz ht.s hzc hroom (by have := ht.p; omega) (by omega) hxr;have hC := hxC.append (zeros_cells (hzr V) hzc m);obtain ⟨μ', I', E', R'⟩ := lay_row I d (sz := sz) (n := i + m) (k := kk) (rest := Builtin.zeroCells zv.cells kk) (el := e) hC (by simp; omega) (by rw [zeroCells_size, hzc]) (zero_plain hzr kk) (.inl rfl);subst hf;exact ⟨_, _, V, μ', hrun, R', I', E', rfl⟩
theorem Le.swap {t6 tt k N sz : Nat} {id : Id} {own : Loc} {l : Bool} {xs ys : List D} (hv : look env t6 = some (.ref ⟨out.length, tt, k⟩ 0 N N)) (hN : N = ys.length) (ho : findB own tt k = some (.arr sz false ys)) (hd : Nat.blt id.d out.length = true)
  (hb : Sees ⟨own, out, chg⟩ id (.arr sz l xs)) (hlt : xs.length < ys.length) (hl : SetS ⟨[], out, chg⟩ id (.arr sz false ys) s') : Le P env ⟨own, out, chg⟩ [(t6, .ref id 0 N N)] s' := by
 refine ⟨fun O a w T => ?_⟩;obtain ⟨V, μ, I, R, E, hdep, hn', hdf⟩ := T;have hd' : id.d < out.length := Nat.le_of_ble_eq_true hd;generalize hs0 : (⟨own, out, chg⟩ : S) = s0 at *
 have hdp : s0.dep = out.length := by subst hs0; rfl
 have hbase : baseS s0 = ⟨[], out, chg⟩ := by subst hs0; rfl
 have hso : s0.out = out := by subst hs0; rfl
 have hown : s0.get ⟨out.length, tt, k⟩ = some (.arr sz false ys) := by
  subst hs0; rw [get_own]; exact ho
 have hbid : (baseS s0).get id = some (.arr sz l xs) := by rw [base_get, hdp, if_neg (by omega)]; exact hb.h
 obtain ⟨hget, hout⟩ := S.get_set hbid (.arr sz false ys);rw [hbase, hl.h, ← hbase] at hget hout;have gne : ∀ j, j ≠ id → s'.get j = if j.d = out.length then none else s0.get j := by
  intro j hj; rw [hget, upd_ne _ _ hj, base_get, hdp]
 have gid : s'.get id = some (.arr sz false ys) := by rw [hget, upd_same]
 let μ' : Id → Pl := updP μ id (μ ⟨out.length, tt, k⟩)
 have mid : μ' id = μ ⟨out.length, tt, k⟩ := updP_same _ _ _;have mne : ∀ j, j ≠ id → μ' j = μ j := fun j hj => updP_ne _ _ hj
 have hsub : ∀ j b, j ≠ id → s'.get j = some b → s0.get j = some b ∧ j.d ≠ out.length := by
  intro j b hj h;rw [gne j hj] at h;split at h
  ·cases h
  ·rename_i e; exact ⟨h, e⟩
 have hle : BlkLe (.arr sz l xs) (μ id) (.arr sz false ys) (μ' id) := ⟨rfl, by omega, fun q => by omega⟩
 have K : ∀ j, j.d ≠ out.length → ∀ b, s0.get j = some b → ∃ b', s'.get j = some b' ∧ BlkLe b (μ j) b' (μ' j) := by
  intro j hj b hbj;by_cases e : j = id
  ·subst e;rw [hb.h] at hbj; cases hbj;exact ⟨_, gid, hle⟩
  ·exact ⟨b, by rw [gne j e, if_neg hj]; exact hbj, by rw [mne j e]; exact .refl _ _⟩
 have I' : Inv P V s'.get μ' w := by
  refine ⟨?_, ?_, I.cell, I.map, ?_⟩
  ·intro j b hj;by_cases e : j = id
   ·subst e;rw [gid] at hj; cases hj;rw [mid];exact I.blk _ _ hown
   ·obtain ⟨h1, h2⟩ := hsub j b e hj;have B := I.blk j b h1;rw [mne j e];cases b with
    | box cs =>
     obtain ⟨b1, b3, cells, elem, b5, b6, b7⟩ := B;refine ⟨b1, b3, cells, elem, b5, b6, fun q v u hq hu => ⟨(b7 q v u hq hu).1.mono (.refl V) (fun i hi bb hbb => K i ?_ bb hbb), (b7 q v u hq hu).2⟩⟩;have h3 := I.tidy j cs h1 i (mem_idss hq hi);have h4 := S.get_le h1;rw [hdp] at h4;omega
    | _ => exact B
  ·intro i j b b' hi hj hne n1 n2;by_cases e : i = id
   ·subst e;have e2 : j ≠ i := fun q => hne q.symm
    obtain ⟨h1, h2⟩ := hsub j b' e2 hj;rw [mid] at n1 ⊢;rw [mne j e2] at n2 ⊢;exact I.apart _ _ _ _ hown h1 (fun q => h2 (by rw [← q])) n1 n2
   ·obtain ⟨h1, h2⟩ := hsub i b e hi;rw [mne i e] at n1 ⊢;by_cases e2 : j = id
    ·subst e2;rw [mid] at n2 ⊢;exact I.apart _ _ _ _ h1 hown (fun q => h2 (by rw [q])) n1 n2
    ·obtain ⟨h3, h4⟩ := hsub j b' e2 hj;rw [mne j e2] at n2 ⊢;exact I.apart _ _ _ _ h1 h3 hne n1 n2
  ·intro i cs hi;by_cases e : i = id
   ·subst e; rw [gid] at hi; cases hi
   ·exact I.tidy i cs (hsub i _ e hi).1
 have hlow : O.out.length = out.length := by rw [← hdep, hso]
 have E' : Evo O.V O.h O.μ O.w V s'.get μ' w := by
  refine ⟨E.os, E.tape, E.output, E.size, E.rest, E.view, E.newc, E.newm, ?_, ?_⟩
  ·intro j b hj hnil;by_cases e : j = id
   ·subst e;rw [mid] at hnil ⊢;rcases E.place _ _ hown hnil with ⟨b0, h1, h2, h3⟩ | h1
    ·have := O.low _ _ h1;simp only at this;omega
    ·exact .inr h1
   ·rw [mne j e] at hnil ⊢;exact E.place j b (hsub j b e hj).1 hnil
  ·intro j b0 hj;obtain ⟨b', h1, h2⟩ := E.keep j b0 hj;have := O.low j b0 hj;obtain ⟨b2, h3, h4⟩ := K j (by omega) b' h1;exact ⟨b2, h3, h2.trans h4⟩
 refine ⟨V, μ', I', ?_, E', by rw [hout]; exact hdep, hn', hdf⟩;refine EnvRel.cons (fun t u hu => by cases hu) ?_;have h2 := R t6 _ hv;generalize a.tmps.getD t6 undef = cv at h2;cases h2 with
 | ref _ _ _ _ sz' l' xs' ad c hi hf hs =>
  rw [hown] at hi;cases hi;exact .ref id 0 N N sz false ys ad c gid hf (fun q => by rw [mid]; exact hs q)
theorem run_overlaps_ {w : World} {tS tR e : TypeId} {sz : Nat} (ht : P.underlying tS = some (.slice e)) (hz : sizeT P e = some sz) {a b : Addr} {la ca lb cb : Nat}
  (hne : sz ≠ 0 → a.block ≠ b.block) {tA tB : TypeId} {kA kB : Nat} (hsa : sz ≠ 0 → w.shape? a.block = some (tA, kA)) (hsb : w.shape? b.block = some (tB, kB)) (hkA : sz ≠ 0 → kA ≠ 0)
  (hfb : ∀ o, w.frozen? { block := b.block, off := o } = false) (hb : b.spot = none) :
  (Extern.SlicesOverlaps.overlaps #[tS, tS] #[tR] #[.slice (some a) la ca, .slice (some b) lb cb]).run P w = .ok (.bool false) w := by
 change Sem.run P (α := Value) (do
  let some t := (#[tS, tS] : Array TypeId)[0]? | stuck "slices.overlaps: no parameter types"
  let .slice elem ← underlying t | stuck "slices.overlaps: slice type expected"
  let size ← sizeOf elem
  match (some a : Option Addr), (some b : Option Addr) with
  | some a, some b =>
   if la = 0 ∨ lb = 0 ∨ size = 0 then pure (Value.bool false)
   else if a.block != b.block && (← frozen a) && (← frozen b) then unsupported .addressObserved
   else do
    if a.block != b.block then do
     noView a; noView b
     if ← mayBeOne a b then return Value.bool ((← choose (.extern "sameAddr.stringBytes" 2)) == 1)
    pure (Value.bool (a.block == b.block && a.off < b.off + lb * size && b.off < a.off + la * size))
  | _, _ => pure (Value.bool false)) w = _
 by_cases h0 : la = 0 ∨ lb = 0 ∨ sz = 0
 ·simp [run_under ht, run_sizeT hz, h0]
 ·have hz0 : sz ≠ 0 := fun q => h0 (.inr (.inr q))
  have hnb : (a.block != b.block) = true := by simpa using hne hz0
  have hnb' : (a.block == b.block) = false := by simpa using hne hz0
  have hsa := hsa hz0;have hkA := hkA hz0;have hfb0 : w.frozen? b = false := by
   have := hfb b.off;obtain ⟨bb, bo, bs⟩ := b;simp only at hb;subst hb;exact this
  have hfb1 := hfb kB;cases kA with
  | zero => exact absurd rfl hkA
  | succ kA =>
   cases hfa : w.frozen? a <;> cases hfe : w.frozen? { block := a.block, off := kA + 1 } <;> simp [run_under ht, run_sizeT hz, h0, hnb, hnb', frozen, noView, viewAt, mayBeOne, stringish, shape, Sem.run, hsa, hsb, hfa, hfe, hfb0, hfb1]
theorem ovl_ {g : FuncId} {fn : Func} {tS tR e sz by_ off len full : Nat} {z : D} {id : Id} {x y : Operand} {ts : Array TypeId} {xs vs : List D} (hf : P.funcs[g]? = some fn) (hname : (fn.name == "runtime.NumGoroutine") = false)
  (hb0 : fn.body.isNone = true) (hn : Extern.findNext fn = none) (he : Extern.find fn = some (Extern.SlicesOverlaps.overlaps #[tS, tS] #[tR])) (ht : Sli P tS e sz by_ z) (hx : evOperand (look env) x = some (.d (.sl vs))) (hy : evOperand (look env) y = some (.ref id off len full))
  (hfu : full = xs.length) (hb : Sees s id (.arr sz false xs)) (hv : vs ≠ []) (hs : (vs.all fun y => decide (y.size = sz)) = true) (hl : 0 < len ∧ off + len ≤ full) :
  OpOk P env s ⟨some d, .call ⟨.value (.func g), #[x, y], ts⟩, ty, pos, af, gd⟩ (.d (.bool false)) .same := by
 refine ⟨.inr ⟨rfl, fun V μ w I a R K Q hK => ?_⟩⟩;have Rx := R x (by simp [Op.operands, Call.operands]) _ hx;have Ry := R y (by simp [Op.operands, Call.operands]) _ hy;have hexec : execOp a.eval ⟨some d, .call ⟨.value (.func g), #[x, y], ts⟩, ty, pos, af, gd⟩ = callFunc g #[a.eval x, a.eval y] := by
  have hgv : a.eval (.func g) = .func (.func g) #[] #[] := rfl;simp [execOp, resolve, invoke, hgv, Deferred.ofValue]
 refine wp_p (c := bc P) (cv := .bool false) ?_ (hK _ _ (Left.pure (c := bc P) I (.d _ _ (.bool false))));rw [hexec]
 show (callFunc g #[a.eval x, a.eval y]).run P w = _
 rw [run_callFunc_extern hf hname hb0 hn he];generalize a.eval x = vx at Rx;generalize a.eval y = vy at Ry;have hbh := hb.h;cases Ry with
 | ref _ _ _ _ sz' l' xs' ad c hi hf' hsv =>
  rw [hi] at hbh;cases hbh;obtain ⟨a', c', e1, hsv⟩ := hsv hfu;cases e1;rcases hsv with ⟨q1, q2, q3, q4⟩ | ⟨q1, q2, q3, q4, q5⟩
  ·rcases I.blk id _ hi with ⟨_, z2, _⟩ | ⟨z1, _⟩
   ·subst z2; simp at hfu; omega
   ·rw [q1] at z1; cases z1
  ·rcases I.blk id _ hi with ⟨z1, _⟩ | ⟨_, b2, b3, b4, cells, elem, b5, b6, b7⟩
   ·rw [q1] at z1; cases z1
   ·have ha := q5 (.inl (by omega));subst ha;have hd := Rx.dOf;cases hd with
    | sl _ av cv bv ov szv ev hcv hav hev hsz hat =>
     have hav := hav.resolve_left hv;subst hav;obtain ⟨v0, vr, rfl⟩ : ∃ v0 vr, vs = v0 :: vr := by cases vs with | nil => exact absurd rfl hv | cons a b => exact ⟨_, _, rfl⟩
     have h0 : szv = sz := by
      rw [← hsz 0 (by simp), (hev 0 v0 rfl).cells.1];have := List.all_eq_true.1 hs v0 (.head _);simpa [D.size] using (of_decide_eq_true this)
     subst h0;have hcell : szv ≠ 0 → ∃ v, V.cell bv ov v := by
      intro hz;have h1 := hsz 0 (by simp);have h2 : 0 < (ev 0).cells.size := by omega
      have := hat 0 (by simp) 0 _ (Array.getElem?_eq_getElem h2);simp only [Nat.zero_mul, Nat.add_zero] at this;exact ⟨_, this⟩
     have hsh : szv ≠ 0 → ∃ cs el fr, w.heap[bv]? = some (.cells cs el fr) ∧ cs.size ≠ 0 := by
      intro hz;obtain ⟨v, hc⟩ := hcell hz;have := I.cell _ _ _ hc;unfold World.cell? at this;simp only at this;split at this
      ·rename_i cs el fr hh
       simp at this;exact ⟨cs, el, fr, hh, fun q => by have := (Array.getElem?_eq_some_iff.1 this).1; omega⟩
      ·cases this
     have hsz0 : szv = 0 ∨ szv ≠ 0 := Nat.eq_zero_or_pos szv |>.imp (fun q => q) (fun h => by omega)
     have hrun : (Extern.SlicesOverlaps.overlaps #[tS, tS] #[tR] #[.slice (some ⟨bv, ov, none⟩) (v0 :: vr).length cv, .slice (some ⟨(μ id).blk, off * szv, none⟩) len c]).run P w = .ok (.bool false) w := by
      rcases hsz0 with hz | hz
      ·exact run_overlaps_ (tA := 0) (tB := elem) (kA := 0) (kB := cells.size) ht.u ht.s (fun q => absurd hz q) (fun q => absurd hz q) (by simp [World.shape?, b5]) (fun q => absurd hz q) (fun o => by simp [World.frozen?, b5]) rfl
      ·obtain ⟨cs, el, fr, g1, g2⟩ := hsh hz;obtain ⟨v, hc⟩ := hcell hz;exact run_overlaps_ (tA := el) (tB := elem) (kA := cs.size) (kB := cells.size) ht.u ht.s (fun _ q => b3 rfl ov v (by rw [← (show bv = (μ id).blk from q)]; exact hc)) (fun _ => by simp [World.shape?, g1]) (by simp [World.shape?, b5]) (fun _ => g2) (fun o => by simp [World.frozen?, b5]) rfl
     rw [hrun];rfl
end
def inserted {α : Type} (xs : List α) (i : Int) (vs : List α) : Option (List α) :=
 if 0 ≤ i ∧ i ≤ xs.length ∧ xs.length + vs.length ≤ 16777216 then some (xs.take i.toNat ++ vs ++ xs.drop i.toNat) else none
theorem inserted_ok {α : Type} {xs vs r : List α} {i : Int} (h : inserted xs i vs = some r) : ∃ k : Nat, i = k ∧ k ≤ xs.length ∧ xs.length + vs.length ≤ 16777216 ∧ r = xs.take k ++ vs ++ xs.drop k := by
 unfold inserted at h;split at h
 ·rename_i h1
  cases h;exact ⟨i.toNat, by omega, by omega, h1.2.2, rfl⟩
 ·cases h
section
variable {P : Program} {env : Env} {s : S} {dst : Option Nat} {t t' : TypeId} {x y : Operand} {a b : Int} {ty : TypeId} {pos : String} {af : Array Edge} {gd : Option (Nat × Bool)}
theorem w_small {c : Int} (h0 : 0 ≤ c) (h1 : c ≤ 67108864) : w c = c := by
 unfold w IntKind.wrap;simp [IntKind.bits, IntKind.signed];omega
theorem adS {c : Nat} (hx : evOperand (look env) x = some (.d (.int .i64 a))) (hy : evOperand (look env) y = some (.d (.int .i64 b))) (h : a + b = c ∧ c ≤ 67108864) : OpOk P env s ⟨dst, .binOp .add t x y t', ty, pos, af, gd⟩ (.d (.int .i64 c)) .same := by
 have := add (P := P) (s := s) (dst := dst) (t := t) (t' := t') (ty := ty) (pos := pos) (af := af) (gd := gd) hx hy;rw [h.1, w_small (by omega) (by omega)] at this;exact this
theorem suS {c : Nat} (hx : evOperand (look env) x = some (.d (.int .i64 a))) (hy : evOperand (look env) y = some (.d (.int .i64 b))) (h : a - b = c ∧ c ≤ 67108864) : OpOk P env s ⟨dst, .binOp .sub t x y t', ty, pos, af, gd⟩ (.d (.int .i64 c)) .same := by
 have := sub (P := P) (s := s) (dst := dst) (t := t) (t' := t') (ty := ty) (pos := pos) (af := af) (gd := gd) hx hy;rw [h.1, w_small (by omega) (by omega)] at this;exact this
end
theorem insC {X V : List D} {z : D} {i k a b : Nat} (hi : i ≤ X.length) (hk : k = X.length + V.length - i) (ha : V.length ≤ a) (hb : X.length - i ≤ b) :
  splice (splice (X.take i ++ List.replicate k z) i (V.take a)) (i + V.length) ((X.drop i).take b) = X.take i ++ V ++ X.drop i := by
 subst hk;have e1 : V.take a = V := List.take_of_length_le ha;have e2 : (X.drop i).take b = X.drop i := List.take_of_length_le (by simpa using hb);rw [e1, e2];have hT : (X.take i).length = i := by simp; omega
 have h1 : splice (X.take i ++ List.replicate (X.length + V.length - i) z) i V = X.take i ++ V ++ List.replicate (X.length - i) z := by
  unfold splice;rw [List.take_left' hT, List.drop_append, hT, List.drop_eq_nil_of_le (by omega), List.nil_append, List.drop_replicate]
  congr 2
  omega
 rw [h1];have h2 : (X.take i ++ V ++ List.replicate (X.length - i) z).take (i + V.length) = X.take i ++ V := List.take_left' (by rw [List.length_append, hT]);have h3 : (X.take i ++ V ++ List.replicate (X.length - i) z).drop (i + V.length + (X.drop i).length) = [] := List.drop_eq_nil_of_le (by simp only [List.length_append, hT, List.length_replicate, List.length_drop]; omega);unfold splice;rw [h2, h3, List.append_nil]
theorem insD {X V : List D} {z : D} {i a b c : Nat} (hi : i ≤ X.length) (ha : V.length ≤ a) (hb : b = X.length - i) (hc : X.length - i ≤ c) :
  splice (splice (X ++ List.replicate V.length z) (i + V.length) ((((X ++ List.replicate V.length z).drop i).take c).take b)) i (V.take a) = X.take i ++ V ++ X.drop i := by
 subst hb;have h0 : ((((X ++ List.replicate V.length z).drop i).take c).take (X.length - i)) = X.drop i := by
  rw [List.take_take, Nat.min_eq_left hc, List.drop_append_of_le_length hi, List.take_left' (by simp)]
 rw [h0, List.take_of_length_le ha];unfold splice;have h1 : (X ++ List.replicate V.length z).drop (i + V.length + (X.drop i).length) = [] := List.drop_eq_nil_of_le (by simp; omega);rw [h1, List.append_nil];have h2 : (((X ++ List.replicate V.length z).take (i + V.length)) ++ X.drop i).take i = X.take i := by
  rw [List.take_append_of_le_length (by simp; omega), List.take_take, Nat.min_eq_left (by omega), List.take_append_of_le_length hi]
 have h3 : (((X ++ List.replicate V.length z).take (i + V.length)) ++ X.drop i).drop (i + V.length) = X.drop i := by
  rw [List.drop_left' (by simp; omega)]
 rw [h2, h3]
theorem insC' {X V : List D} {z : D} {i j k o1 o2 o3 l a b : Nat} {R : List D} (hi : i ≤ X.length) (hj : j = i) (hk : k = X.length + V.length - i) (h1 : o1 = i) (h2 : o2 = i + V.length) (h3 : o3 = i) (hl : X.length - i ≤ l) (ha : V.length ≤ a) (hb : X.length - i ≤ b)
  (hR : X.take i ++ V ++ X.drop i = R) : splice (splice (X.take j ++ List.replicate k z) o1 (V.take a)) o2 (((X.drop o3).take l).take b) = R := by
 subst hj h1 h2 h3;have e2 := List.take_of_length_le (l := X.drop _) (i := l) (by simpa using hl);rw [e2, insC hi hk ha hb, hR]
theorem insD' {X V : List D} {z : D} {i m o1 o2 o3 a b c : Nat} {R : List D} (hi : i ≤ X.length) (hm : m = V.length) (h1 : o1 = i) (h2 : o2 = i + V.length) (h3 : o3 = i) (ha : V.length ≤ a) (hb : b = X.length - i) (hc : X.length - i ≤ c)
  (hR : X.take i ++ V ++ X.drop i = R) : splice (splice (X ++ List.replicate m z) o2 ((((X ++ List.replicate m z).drop o3).take c).take b)) o1 (V.take a) = R := by
 subst hm h1 h2 h3;rw [insD hi ha hb hc, hR]
theorem groE {s : S} {ex : Bool} {i : Id} {o n m n' m' : Nat} (h : Nat.blt i.d s.dep = true) (h1 : n = n') (h2 : m = m') : Gv s ex (.ref i o n m) (.ref i o n' m') [] := by subst h1 h2; exact gro h
theorem Le.uncap {P : Program} {env : Env} {s : S} {t0 o n m c : Nat} {id : Id} (hv : look env t0 = some (.rcap id o n m c)) : Le P env s ((t0, .ref id o n m) :: env) s := by
 refine ⟨fun O a w T => ?_⟩;obtain ⟨V, μ, I, R, E, hdep, hn', hdf⟩ := T;refine ⟨V, μ, I, R.cons ?_, E, hdep, hn', hdf⟩;have h2 := R t0 _ hv;generalize a.tmps.getD t0 undef = cv at h2;cases h2 with
 | rcap _ _ _ _ _ sz' l' xs' ad hi hf hs => exact .ref _ _ _ _ sz' l' xs' ad c hi hf hs
theorem all_part {α : Type} {f : α → D} {sz a b : Nat} {xs : List α} (h : Sz f sz) : ((((xs.map f).drop a).take b).all fun y => decide (y.size = sz)) = true := by
 have := all_sz h (xs := xs);rw [List.all_eq_true] at this ⊢;exact fun y hy => this y (List.mem_of_mem_drop (List.mem_of_mem_take hy))
theorem all_open {α : Type} {f : α → D} {sz a b m : Nat} {xs : List α} (h : Sz f sz) : ((((xs.map f ++ List.replicate m (junkD sz)).drop a).take b).all fun y => decide (y.size = sz)) = true := by
 have := all_sz h (xs := xs);rw [List.all_eq_true] at this ⊢;intro y hy;rcases List.mem_append.1 (List.mem_of_mem_drop (List.mem_of_mem_take hy)) with q | q
 ·exact this y q
 ·rw [(List.mem_replicate.1 q).2, junk_size]; simp
section
variable {P : Program} {env : Env} {s : S} {dst : Option Nat} {x y : Operand} {ty : TypeId} {pos : String} {af : Array Edge} {gd : Option (Nat × Bool)}
theorem inxV {t e n sz j : Nat} {cs : List D} {q : D} (ht : ArrT P t e n sz) (he : Scal P e) (hx : evOperand (look env) x = some (.d (.agg cs))) (hy : Ix env y j) (hj : Nat.blt j n = true) (hv : partD false sz cs (j * sz) = some q) :
  OpOk P env s ⟨dst, .index t x y, ty, pos, af, gd⟩ (.d q) .same := .of (bc P) rfl fun _ _ => by
 obtain ⟨k, hy⟩ := hy.h;have h3 : (j : Int) < (n : Int) := by have := Nat.le_of_ble_eq_true hj; omega
 simp [evOp, hx, hy, evIndex, bc, ht.u, ht.s, h3, he.a, hv]
end
section
variable {P : Program} {env : Env} {s s1 s' : S} {x y : Operand} {t off sz' sz2 m m2 : Nat} {id id2 : Id} {ty : TypeId} {pos : String} {af : Array Edge} {gd : Option (Nat × Bool)} {α β : Type} {f : α → D} {g : β → D} {xs : List α} {ys : List β} {n : Int} {a b : α}
theorem stER (ht : Scal P t) (hx : evOperand (look env) x = some (.eptr id n.toNat off m)) (hm : m = xs.length) (hy : evOperand (look env) y = some (.ref id2 0 m2 m2)) (hm2 : m2 = ys.length) (hb2 : Sees s id2 (.arr sz2 false (ys.map g))) (hl2 : SetS s id2 (.arr sz2 true (ys.map g)) s1)
  (hb : Sees s1 id (.arr sz' false (xs.map f))) (ha : at_ xs n = some a) (hlt : Nat.blt off (f a).cells.length = true) (hr : rebuild (f a) (splice (f a).cells off [.sl (ys.map g)]) = some (f b)) (hl : SetS s1 id (.arr sz' false ((xs.set n.toNat b).map f)) s') :
  OpOk P env s ⟨none, .store t x y, ty, pos, af, gd⟩ .undef (.set s') := .of (bc P) rfl fun _ _ => by
 subst hm hm2;obtain ⟨h1, h2, h3, _⟩ := at_get (f := f) ha;have h6 : off + 1 ≤ (f a).cells.length := Nat.le_of_ble_eq_true hlt;have h8 := hl.h;rw [List.map_set] at h8;have h9 := hl2.h;have ht2 : (ys.map g).take ys.length = ys.map g := List.take_of_length_le (by simp);have hcell : (D.sl (ys.map g)).cells = [.sl (ys.map g)] := rfl;simp [evOp, hx, hy, evStore, bc, ht.z, ht.a, storable, oneCell, A.cells, S.toD, S.lend, S.lendRef, hb2.h, h9, ht2, S.ok, hb.h, h3, hcell, h6, hr, h8]
end
section
variable {P : Program} {env : Env} {s s' : S} {loc loc' : Loc} {out : Out} {chg : List (Option Loc)} {dst : Option Nat} {d : Nat} {ty : TypeId} {pos : String} {af : Array Edge} {gd : Option (Nat × Bool)}
theorem capN {x : Operand} {t e sz by_ : Nat} {z : D} {ts : Array TypeId} (ht : Sli P t e sz by_ z) (hx : evOperands (look env) #[x].toList = some [.d .nilsl]) (hts : ts.toList = [t]) :
  OpOk P env s ⟨some d, .call ⟨.builtin .cap, #[x], ts⟩, ty, pos, af, gd⟩ (.d (.int .i64 0)) .same := by
 refine bi hx hts ?_;simp [evBuiltin, elemT, bc, ht.u]
theorem apMkN {x : Operand} {y : Operand} {ts : Array TypeId} {t t2 e sz by_ nn : Nat} {z : D} {k : Int} {k1 : IntKind} (ht : Sli P t e sz by_ z) (ht2 : P.underlying t2 = some (.int k1)) (hts : ts.toList = [t, t2])
  (hx : evOperand (look env) x = some (.d .nilsl)) (hy : evOperand (look env) y = some (.d (.int .i64 k))) (hk : 0 < k ∧ k ≤ 16777216) (hf : nextN loc d = nn) :
  OpOk P env ⟨loc, out, chg⟩ ⟨some d, .call ⟨.builtin .append, #[x, y], ts⟩, ty, pos, af, gd⟩ (.ref ⟨out.length, d, nn⟩ 0 k.toNat k.toNat) (.add [((d, nn), .arr sz false (List.replicate k.toNat z))]) := by
 obtain ⟨k2, k3⟩ := hk;refine OpOk.sem rfl fun V μ w I a R => ?_
 have Rx := R x (by simp [Op.operands, Call.operands]) _ hx;have Ry := R y (by simp [Op.operands, Call.operands]) _ hy;refine ⟨Builtin.append_ #[t, t2] ty #[a.eval x, a.eval y], by
  have : ts = #[t, t2] := by rw [← hts]
  simp [execOp, resolve, invoke, builtin, this], ?_⟩
 generalize a.eval x = vx at Rx;generalize a.eval y = vy at Ry;have hvy := dInt Ry;subst hvy;obtain ⟨m, rfl⟩ := Int.eq_ofNat_of_zero_le (show 0 ≤ k by omega);obtain ⟨inf, hinf, hby⟩ := run_bytesT ht.b;obtain ⟨zv, hz, hzs, hzr⟩ := zero_parts ht.z0 hinf;have hzc : zv.cells.size = sz := by rw [hzs, ht.zs]
 have Rd := Rx.dOf;cases Rd;have hroom : room (0 + m) inf.bytes = true := by simp [room]; have := ht.r; omega
 obtain ⟨kk, hrun⟩ := run_append_mk (V := V) (w := w) (n := m) (len := 0) (cap := 0) (a := none) (xs := []) ty ht.u ht2 hinf hz ht.s hzc hroom (by have := ht.p; omega) (by omega) (by simp [Builtin.firstCells]);have hC := zeros_cells (hzr V) hzc m;obtain ⟨μ', I', E', R'⟩ := lay_row I d (sz := sz) (n := m) (k := kk) (rest := Builtin.zeroCells zv.cells kk) (el := e) hC (by simp) (by rw [zeroCells_size, hzc]) (zero_plain hzr kk) (.inl rfl);subst hf;simp only [Nat.zero_add, List.nil_append] at hrun;exact ⟨_, _, V, μ', hrun, R', I', E', rfl⟩
theorem Le.nilOwn {t t' n sz : Nat} (hv : look env t = some (.d .nilsl)) (hn : nextN loc t' = n) : Le P env ⟨loc, out, chg⟩ ((t, .ref ⟨out.length, t', n⟩ 0 0 0) :: env) ⟨((t', n), .arr sz false []) :: loc, out, chg⟩ := by
 refine ⟨fun O a w T => ?_⟩;obtain ⟨V, μ, I, R, E, hdep, hn', hdf⟩ := T;obtain ⟨cv, w', V', μ', h1, h2, h3, h4, h5⟩ := nilBlock_sound (w := w) I t' sz;cases h1;subst hn;refine ⟨V', μ', h3, ?_, E.trans h4, h5.trans hdep, hn', hdf⟩;refine EnvRel.cons (fun u y hy => h4.arel (R u y hy)) ?_;have hd := (R t _ hv).dOf;generalize a.tmps.getD t undef = cv at hd;cases hd;exact h2
theorem Le.shrink {t6 tt k sz n : Nat} {own : Loc} {ys : List D} (hv : look env t6 = some (.ref ⟨out.length, tt, k⟩ 0 0 n)) (hn : n = ys.length) (ho : findB own tt k = some (.arr sz false ys)) :
  Le P env ⟨own, out, chg⟩ [(t6, .ref ⟨out.length, tt, k⟩ 0 0 0)] ⟨[((tt, k), .arr sz false [])], out, chg⟩ := by
 refine ⟨fun O a w T => ?_⟩;obtain ⟨V, μ, I, R, E, hdep, hn', hdf⟩ := T;generalize hs0 : (⟨own, out, chg⟩ : S) = s0 at *
 have hdp : s0.dep = out.length := by subst hs0; rfl
 have hbase : baseS s0 = ⟨[], out, chg⟩ := by subst hs0; rfl
 have hso : s0.out = out := by subst hs0; rfl
 have hown : s0.get ⟨out.length, tt, k⟩ = some (.arr sz false ys) := by
  subst hs0; rw [get_own]; exact ho
 have gown : S.get ⟨[((tt, k), .arr sz false [])], out, chg⟩ ⟨out.length, tt, k⟩ = some (.arr sz false []) := by rw [get_own]; simp [findB]
 have gne : ∀ j, j ≠ ⟨out.length, tt, k⟩ → S.get ⟨[((tt, k), .arr sz false [])], out, chg⟩ j = if j.d = out.length then none else s0.get j := by
  intro j hj;have hb := base_get s0 j;rw [hbase, hdp] at hb;by_cases e : j.d = out.length
  ·rw [if_pos e];obtain ⟨jd, jt, jn⟩ := j;simp only at e;subst e;rw [get_own];simp only [findB];by_cases e1 : jt = tt
   ·subst e1;have : jn ≠ k := fun q => hj (by rw [q])
    simp [this]
   ·simp [e1]
  ·rw [if_neg e];have h1 : S.get ⟨[((tt, k), .arr sz false [])], out, chg⟩ j = (baseS ⟨[((tt, k), .arr sz false [])], out, chg⟩).get j := by
    rw [base_get];have : S.dep ⟨[((tt, k), .arr sz false [])], out, chg⟩ = out.length := rfl;rw [this, if_neg e]
   rw [h1]
   show S.get ⟨[], out, chg⟩ j = _
   rw [hb, if_neg e]
 have hsub : ∀ j b, j ≠ ⟨out.length, tt, k⟩ → S.get ⟨[((tt, k), .arr sz false [])], out, chg⟩ j = some b → s0.get j = some b ∧ j.d ≠ out.length := by
  intro j b hj h;rw [gne j hj] at h;split at h
  ·cases h
  ·rename_i e; exact ⟨h, e⟩
 have K : ∀ j, j.d ≠ out.length → ∀ b, s0.get j = some b → S.get ⟨[((tt, k), .arr sz false [])], out, chg⟩ j = some b := by
  intro j hj b hbj;rw [gne j (fun q => hj (by rw [q])), if_neg hj]; exact hbj
 have I' : Inv P V (S.get ⟨[((tt, k), .arr sz false [])], out, chg⟩) μ w := by
  refine ⟨?_, ?_, I.cell, I.map, ?_⟩
  ·intro j b hj;by_cases e : j = ⟨out.length, tt, k⟩
   ·subst e;rw [gown] at hj; cases hj;rcases I.blk _ _ hown with ⟨b1, b2, b3⟩ | ⟨b1, b2, b3, b4, cells, elem, b5, b6, b7⟩
    ·exact .inl ⟨b1, rfl, b3⟩
    ·exact .inr ⟨b1, by simp, b3, fun c v h => absurd h (b3 rfl c v), cells, elem, b5, b6, b7.1, b7.2.choose, fun i d hd => by simp at hd⟩
   ·obtain ⟨h1, h2⟩ := hsub j b e hj;have B := I.blk j b h1;cases b with
    | box cs =>
     obtain ⟨b1, b3, cells, elem, b5, b6, b7⟩ := B;refine ⟨b1, b3, cells, elem, b5, b6, fun q v u hq hu => ⟨(b7 q v u hq hu).1.mono (.refl V) (fun i hi bb hbb => ⟨bb, K i ?_ bb hbb, .refl _ _⟩), (b7 q v u hq hu).2⟩⟩;have h3 := I.tidy j cs h1 i (mem_idss hq hi);have h4 := S.get_le h1;rw [hdp] at h4;omega
    | _ => exact B
  ·intro i j b b' hi hj hne n1 n2;by_cases e : i = ⟨out.length, tt, k⟩
   ·subst e;obtain ⟨h1, h2⟩ := hsub j b' (fun q => hne q.symm) hj;exact I.apart _ _ _ _ hown h1 hne n1 n2
   ·obtain ⟨h1, h2⟩ := hsub i b e hi;by_cases e2 : j = ⟨out.length, tt, k⟩
    ·subst e2;exact I.apart _ _ _ _ h1 hown hne n1 n2
    ·exact I.apart _ _ _ _ h1 (hsub j b' e2 hj).1 hne n1 n2
  ·intro i cs hi;by_cases e : i = ⟨out.length, tt, k⟩
   ·subst e; rw [gown] at hi; cases hi
   ·exact I.tidy i cs (hsub i _ e hi).1
 have hlow : O.out.length = out.length := by rw [← hdep, hso]
 have E' : Evo O.V O.h O.μ O.w V (S.get ⟨[((tt, k), .arr sz false [])], out, chg⟩) μ w := by
  refine ⟨E.os, E.tape, E.output, E.size, E.rest, E.view, E.newc, E.newm, ?_, ?_⟩
  ·intro j b hj hnil;by_cases e : j = ⟨out.length, tt, k⟩
   ·subst e; exact E.place _ _ hown hnil
   ·exact E.place j b (hsub j b e hj).1 hnil
  ·intro j b0 hj;obtain ⟨b', h1, h2⟩ := E.keep j b0 hj;have := O.low j b0 hj;exact ⟨b', K j (by omega) b' h1, h2⟩
 refine ⟨V, μ, I', ?_, E', by rw [← hso]; exact hdep, hn', hdf⟩;refine EnvRel.cons (fun t u hu => by cases hu) ?_;have h2 := R t6 _ hv;generalize a.tmps.getD t6 undef = cv at h2;cases h2 with
 | ref _ _ _ _ sz' l' xs' ad c hi hf hs =>
  rw [hown] at hi;cases hi;exact .ref _ 0 0 0 sz false [] ad c gown (Nat.le_refl _) (fun _ => hs hn)
end
theorem slN {P : Program} {env : Env} {s : S} {dst : Option Nat} {ty : TypeId} {pos : String} {af : Array Edge} {gd : Option (Nat × Bool)} {x o1 : Operand} {t e sz by_ : Nat} {z : D} {k : IntKind} (ht : Sli P t e sz by_ z) (hx : evOperand (look env) x = some (.d .nilsl)) (h1 : evOperand (look env) o1 = some (.d (.int k 0))) :
  OpOk P env s ⟨dst, .slice t x none (some o1) none, ty, pos, af, gd⟩ (.d .nilsl) .same := .of (bc P) rfl fun _ _ => by
 rw [Bd.run hx (.no : Bd env 0 none 0 none) (.is h1 : Bd env ((0 : Nat) : Int) (some o1) 0 _)];simp [evSlice, bc, ht.u, ht.s, evBounds, evHi, evLo]
theorem CWp.endLe {P : Program} {code : Code} {env : Env} {s : S} {Q : Ex → Env → S → Prop} (h : CWp P code env s (fun ex e s => ∃ e' s', Le P e s e' s' ∧ Q ex e' s')) : CWp P code env s Q :=
 ⟨fun O a w hc T => wp_mono (h.ok O a w hc T) fun _ _ _ ⟨ex, e, s, h1, h2, e', s', h3, h4⟩ => ⟨ex, e', s', h1, h3.ok _ _ _ h2, h4⟩⟩
section
variable {P : Program} {env env' : Env} {loc loc' c0 : Loc} {out : Out} {chg : List (Option Loc)}
theorem trkT (h1 : env'.map (fun p => look env p.1) = env'.map (fun p => some p.2)) (h2 : loc'.map (fun b => findB loc b.1.1 b.1.2) = loc'.map (fun b => some b.2)) (h3 : ((envIds env' ++ locIds loc').all fun i => (findB loc' i.t i.n).isSome) = true) :
  Trim env ⟨loc, out, chg⟩ env' ⟨loc', out, chg⟩ :=
 ⟨fun t v hv => ⟨v, map_mem h1 (look_mem hv), .refl _⟩, fun t n b hb => map_mem h2 (findB_mem hb), rfl, rfl, .inr fun i hi _ => by
  have := List.all_eq_true.1 h3 i (List.mem_append.2 hi);exact Option.isSome_iff_exists.1 this⟩
theorem trkcT (h1 : env'.map (fun p => look env p.1) = env'.map (fun p => some p.2)) (h2 : loc'.map (fun b => findB loc b.1.1 b.1.2) = loc'.map (fun b => some b.2)) (h3 : ((envIds env' ++ locIds loc').all fun i => Nat.beq i.d 0 || (findB loc' i.t i.n).isSome) = true) :
  Trim env ⟨loc, [c0], chg⟩ env' ⟨loc', [c0], chg⟩ :=
 ⟨fun t v hv => ⟨v, map_mem h1 (look_mem hv), .refl _⟩, fun t n b hb => map_mem h2 (findB_mem hb), rfl, rfl, .inr fun i hi hd => by
  have := List.all_eq_true.1 h3 i (List.mem_append.2 hi);simp only [Bool.or_eq_true] at this;rcases this with q | q
  ·have := Nat.eq_of_beq_eq_true q;have hd1 : i.d = 1 := hd;omega
  ·exact Option.isSome_iff_exists.1 q⟩
theorem Le.fzBox {t tt n : Nat} {e : D} {cs : List A} (hv : look env t = some (.bptr ⟨out.length, tt, n⟩ 0)) (hb : findB loc tt n = some (.box cs)) (hc : cs = e.cells.map A.d) (hn : findB loc' tt n = none) (h : Trim env ⟨loc, out, chg⟩ env' ⟨loc', out, chg⟩) :
  Le P env ⟨loc, out, chg⟩ ((t, .pimm e 0) :: env') ⟨loc', out, chg⟩ := by
 refine ⟨fun O a w T => ?_⟩;obtain ⟨V, μ, I, R, E, hdep, hsz, hdf⟩ := T;generalize hs1 : (⟨loc, out, chg⟩ : S) = s at *
 generalize hs2 : (⟨loc', out, chg⟩ : S) = s' at *
 have hds : s.dep = out.length := by subst hs1; rfl
 have hls : s.loc = loc := by subst hs1; rfl
 have hls' : s'.loc = loc' := by subst hs2; rfl
 have own : ∀ i, i.d = s.dep → s.get i = findB s.loc i.t i.n := fun i e => by unfold S.get; rw [if_pos e]
 have hsub : ∀ i b, s'.get i = some b → s.get i = some b := by
  intro i b hb;rw [h.get] at hb;split at hb
  ·rename_i e; rw [own i e]; exact h.loc _ _ _ hb
  ·exact hb
 have hgi : s.get ⟨out.length, tt, n⟩ = some (.box cs) := by rw [own _ hds.symm, hls]; exact hb
 have hgi' : s'.get ⟨out.length, tt, n⟩ = none := by rw [h.get, if_pos hds.symm, hls']; exact hn
 have hkeep : ∀ j, j ∈ envIds env' ∨ j ∈ locIds s'.loc → ∀ b, s.get j = some b → s'.get j = some b := by
  intro j hj b hb;rcases h.ids with hs | hids
  ·rw [hs]; exact hb
  rw [h.get];split
  ·rename_i e
   obtain ⟨b', hb'⟩ := hids j hj e;have := h.loc _ _ _ hb';rw [own j e, this] at hb;rw [hb', ← hb]
  ·exact hb
 have hd : s'.dep = s.dep := by unfold S.dep; rw [h.out]
 have hclosed : ∀ i cs, s'.get i = some (.box cs) → ∀ j ∈ A.idss cs, ∀ b, s.get j = some b → s'.get j = some b := by
  intro i cs hi j hj b hb;by_cases e1 : i.d = s.dep
  ·rcases h.ids with hs | _
   ·rw [hs]; exact hb
   have hi' : findB s'.loc i.t i.n = some (.box cs) := by rw [h.get, if_pos e1] at hi; exact hi
   exact hkeep j (.inr (findB_ids hi' hj)) b hb
  ·have hle := I.tidy i cs (hsub i _ hi) j hj;have hlt := S.get_le (hsub i _ hi);rw [h.get, if_neg (by omega)];exact hb
 obtain ⟨b1, b3, cells, elem, b5, b6, b7⟩ := I.blk _ _ hgi
 let V' : View := ⟨fun b c v => V.cell b c v ∨ (b = (μ ⟨out.length, tt, n⟩).blk ∧ cells[c]? = some v), V.map⟩
 have hV : V.Le V' := ⟨fun _ _ _ x => .inl x, fun _ _ _ x => x⟩
 have hown : Owned s.get μ (μ ⟨out.length, tt, n⟩).blk := ⟨_, _, hgi, b1, rfl⟩
 have sound : ∀ b c v, V'.cell b c v → w.cell? ⟨b, c, none⟩ = some v := by
  rintro b c v (q | ⟨rfl, q⟩)
  ·exact I.cell b c v q
  ·rw [cell_of_row w _ c cells elem (0, 0) b5]; exact q
 have I1 : Inv P V s'.get μ w := I.sub hsub hclosed;have I2 : Inv P V' s'.get μ w := I1.frame (fun _ _ => rfl) hV (by
  rintro b c v (q | ⟨rfl, q⟩) ⟨j, x, hx, hnil, hblk⟩
  ·exact q
  ·have hne : j ≠ ⟨out.length, tt, n⟩ := by rintro rfl; rw [hgi'] at hx; cases hx
   exact absurd hblk (I.apart j _ _ _ (hsub j x hx) hgi hne hnil b1)) (fun _ _ _ x _ => x) sound I.map
 have E1 : Evo O.V O.h O.μ O.w V' s.get μ w := E.trans ⟨rfl, rfl, rfl, Nat.le_refl _, fun _ _ _ => rfl, hV, by
  rintro b c v (q | ⟨rfl, q⟩)
  ·exact .inl q
  ·exact .inr (.inl hown), fun _ _ _ x => .inl x, fun j x hx hn => .inl ⟨x, hx, hn, rfl⟩, fun j b hb => ⟨b, hb, .refl _ _⟩⟩
 refine ⟨V', μ, I2, ?_, E1.sub hsub ?_, h.out.trans hdep, hsz, hdf⟩
 ·refine EnvRel.cons (fun u v hv => ?_) ?_
  ·obtain ⟨v0, h1, h2⟩ := h.env u v hv;have h3 := h2.ok _ _ _ _ _ (R u v0 h1);exact h3.mono hV (fun j hj b hb => ⟨b, hkeep j (.inl (look_ids hv j hj)) b hb, .refl _ _⟩)
  ·have h2 := R t _ hv;generalize a.tmps.getD t undef = cv at h2;cases h2 with
   | bptr _ _ cs' hi =>
    subst hc;have hrel : ∀ (i : Nat) d v, e.cells[i]? = some d → cells[i]? = some v → DRel P V' d v ∧ Plain v := by
     intro i d v hd hv;obtain ⟨g1, g2⟩ := b7 i (.d d) v (by rw [List.getElem?_map, hd]; rfl) hv;exact ⟨g1.dOf.mono hV, g2⟩
    have key : ∃ ev, DRel P V' e ev ∧ ∀ (j : Nat) x, ev.cells[j]? = some x → cells[j]? = some x := by
     by_cases ha : ∃ ds, e = .agg ds
     ·obtain ⟨ds, rfl⟩ := ha;refine ⟨.agg cells, .agg ds cells (by simpa [D.cells] using b6) (fun i d v hd hv => (hrel i d v hd hv).1) (fun i v hv => ?_), fun j x hx => hx⟩;have hi : i < cells.size := (Array.getElem?_eq_some_iff.1 hv).1;have hl : i < ds.length := by
       have : cells.size = ds.length := by simpa [D.cells] using b6
       omega
      exact (hrel i _ v (List.getElem?_eq_getElem hl) hv).2
     ·have he : e.cells = [e] := by cases e <;> first | rfl | exact absurd ⟨_, rfl⟩ ha
      rw [he] at b6 hrel;have hs1 : cells.size = 1 := by simpa using b6
      have hc0 : cells[0]? = some (cells[0]'(by omega)) := Array.getElem?_eq_getElem _;obtain ⟨g1, g2⟩ := hrel 0 e _ rfl hc0;refine ⟨_, g1, fun j x hx => ?_⟩;have hcl : (cells[0]'(by omega)).cells = #[cells[0]'(by omega)] := by
       generalize (cells[0]'(by omega)) = q at g2;cases q <;> first | rfl | exact g2.elim
      rw [hcl] at hx;cases j with
      | zero => simp at hx; rw [hc0, hx]
      | succ j => simp at hx
    obtain ⟨ev, k1, k2⟩ := key;exact .pimm e 0 ev _ 0 k1 (fun j x hx => .inr ⟨rfl, by simpa using k2 j x hx⟩)
 ·intro i b hb;have := O.low i b hb;have hdl : s.dep = O.out.length := congrArg List.length hdep;rw [h.get, if_neg (by omega)]
end
section
variable {P : Program} {F : Facts} {ops : List Oper} {b : List Nat} {rest : List (Nat × Oper)} {adds : List (Nat × Loc)} {env : Env} {s : S} {loc : Loc} {out : Out} {chg : List (Option Loc)} {M R : List Nat} {Q : Env → S → Prop} {i d : Nat} {op : Op} {ty : TypeId} {pos : String} {af : Array Edge} {v : A}
theorem FacS.at {id : Id} {bk : Blk} (h : FacS s F) (k : Nat) (e : F[k]? = some (id, bk)) : Sees s id bk := ⟨h (id, bk) (List.mem_of_getElem? e)⟩
theorem FacS.plus (h : FacS s F) {bs : Loc} (hd : (F.all fun p => (findB bs p.1.t p.1.n).isNone) = true) : FacS (s.plus bs) F := by
 intro p hp;rw [get_plus];have := List.all_eq_true.1 hd p hp;simp only [Option.isNone_iff_eq_none] at this;rw [this];split <;> exact h p hp
def idEq (a b : Id) : Bool := Nat.beq a.d b.d && Nat.beq a.t b.t && Nat.beq a.n b.n
theorem idEq_ok {a b : Id} (h : idEq a b = true) : a = b := by
 simp only [idEq, Bool.and_eq_true] at h;obtain ⟨⟨e1, e2⟩, e3⟩ := h;have h1 := Nat.eq_of_beq_eq_true e1;have h2 := Nat.eq_of_beq_eq_true e2;have h3 := Nat.eq_of_beq_eq_true e3;cases a; cases b;simp only at h1 h2 h3;subst h1 h2 h3;rfl
def toldBy (p : Id × Blk) (j : Id) : Bool := idEq p.1 j || (match p.2 with | .box cs => (A.idss cs).any fun k => idEq k j | _ => false)
theorem dloc (h : ∀ s, FacS s F → OpOk P env s ⟨some d, op, ty, pos, af, none⟩ v .same) (hv : (v.ids.all fun j => F.any fun p => toldBy p j) = true) (hs : FacS (s.plus (seenBy b i adds)) F) (k : DWp P F ops b rest adds ((d, v) :: env) s M R Q) :
  DWp P F ops b ((i, ⟨some d, op, ty, pos, af, none⟩) :: rest) adds env s M R Q := by
 refine .locRd rfl (h _ hs) ⟨rfl, h, fun j hj => ?_⟩ k;have := List.all_eq_true.1 hv j hj;obtain ⟨p, hp, e⟩ := List.any_eq_true.1 this;refine ⟨p, hp, ?_⟩;simp only [toldBy, Bool.or_eq_true] at e;rcases e with e | e
 ·exact .inl (idEq_ok e)
 ·obtain ⟨pi, pb⟩ := p;cases pb with
  | box cs =>
   obtain ⟨k, hk, e2⟩ := List.any_eq_true.1 e;rw [idEq_ok e2] at hk;exact .inr ⟨cs, rfl, hk⟩
  | _ => cases e
end
section
variable {P : Program} {F : Facts} {ops : Array Oper} {y : Code} {id : Nat} {env : Env} {s : S} {Q : Ex → Env → S → Prop}
theorem sdF (hF : FacS s F) (hm : P.follows .mixedOrders = true) {b : List Nat} (hb : befores ops.toList = b) (h : DWp P F ops.toList b (zipIdx' 0 ops.toList) [] env s [] [] (fun e s' => CWp P y e s' Q)) : CWp P (.seq (.region id ops true) y) env s Q := by
 obtain ⟨e, s', m, r, h1, h2, h3⟩ := h.ex;subst hb;exact .seq (.draw hm hF h1 (by simpa using h2) h3)
end
def dN {α : Type} (f : α → D) : List α → D
 | [] => .nilsl
 | x :: xs => .sl ((x :: xs).map f)
section
variable {P : Program} {env : Env} {s : S} {dst : Option Nat} {ty : TypeId} {pos : String} {af : Array Edge} {gd : Option (Nat × Bool)} {α : Type} {f : α → D} {xs ys : List α} {x : Operand} {t t' e : TypeId}
theorem rtN {t : Nat} {x : D} (h : look env t = some (.d x)) {c : List (Option Loc)} (hc : s.chg = c) {x' : D} (hx : x = x') : Returns P [.tmp t] env s ⟨.d x', c⟩ := by
 subst hc hx;exact ⟨.inr (.inl ⟨t, x, rfl, h, rfl⟩)⟩
theorem neN (hx : evOperand (look env) x = some (.d (dN f xs))) (ht : P.underlying t = some (.slice e)) : OpOk P env s ⟨dst, .binOp .neq t x (.const (.slice none 0 0)) t', ty, pos, af, gd⟩ (.d (.bool (!xs.isEmpty))) .same :=
 .of (bc P) rfl fun _ _ => by
  have hy : evOperand (look env) (.const (.slice none 0 0)) = some (.d .nilsl) := rfl;cases xs <;> simp [evOp, hx, hy, dN, nilView, evBin, bc, ht, isNilSl]
end
theorem leM {s s' : S} {id : Id} {kt : TypeId} {es : List (D × D)} (hb : Sees s id (.map kt false es)) (hl : SetS s id (.map kt true es) s') : Len1 s (.mref id) (.d (.mp kt es)) (some s') := ⟨by
 simp [S.lend, hb.h, hl.h]⟩
end Go.Lx
set_option linter.all false
namespace Go.Lx
open Go.RowKit Go.Proofs
end Go.Lx
namespace Go.Proofs
open Go.RowKit Go.Maps Go.Sort Go.Shelf Go.Lx
variable {P : Program} {ρ : Ren}
end Go.Proofs
set_option linter.all false
namespace Go.Lx
open Go.RowKit Go.Proofs
end Go.Lx
set_option linter.all false
namespace Go.Lx
section
variable {P : Program}
theorem run_nextG (w : World) (ty : TypeId) (bm r since c0 : Nat) (seen : Array Nat) (es : Array MapEntry) (clock : Nat) (hr : w.heap[r]? = some (.mapIter (some bm) since seen c0)) (hb : w.heap[bm]? = some (.map es clock))
  (hold : ∀ x ∈ es.toList, x.born < since) (hsc : since ≤ c0) :
  ((leftOf es seen).size = 0 ∧ (Instr.next (.pointer (some ⟨r, 0, none⟩)) false ty).run P w = .ok (.tuple #[.bool false]) w) ∨
  ∃ e ∈ (leftOf es seen).toList, ∃ w1 : World, w1.heap = w.heap.setIfInBounds r (.mapIter (some bm) since (seen.push e.born) clock) ∧ w1.os = w.os ∧ w1.tape = w.tape ∧ w1.output = w.output ∧
   (Instr.next (.pointer (some ⟨r, 0, none⟩)) false ty).run P w = .ok (.tuple #[.bool true, e.key, e.val]) w1 := by
 simp only [Instr.next, getObj, Sem.run_bind, Sem.run, hr, hb, Result.andThen, next_test_false seen es since c0 hold hsc, Bool.false_eq_true, if_false];unfold leftOf;have hmem : ∀ x ∈ (Array.filter (fun e => !seen.contains e.born) es).toList, x.born < since := fun x hx => hold x (by simp at hx ⊢; exact hx.1)
 generalize Array.filter (fun e => !seen.contains e.born) es = L at hmem ⊢;have e1 : L.filter (fun x => decide (x.born < since)) = L := Array.filter_eq_self.2 (fun x hx => by simpa using hmem x (by simpa using hx));have e2 : L.filter (fun x => decide (x.born ≥ since)) = #[] := by
  rw [Array.filter_eq_empty_iff];intro x hx;have := hmem x (by simpa using hx);simp;omega
 simp only [e1, e2, Array.append_empty];by_cases h0 : L.size = 0
 ·left;have : L = #[] := Array.eq_empty_of_size_eq_zero h0;subst this;refine ⟨rfl, ?_⟩;simp [choose, Sem.run, Question.forced]
 ·right;have hne : L.isEmpty = false := by simp [Array.isEmpty, h0]
  simp only [hne, Bool.false_eq_true, if_false, Array.empty_append, Array.size_map];have hch : ∃ (j : Nat) (w1 : World), j < L.size ∧ (w1.heap = w.heap ∧ w1.os = w.os ∧ w1.tape = w.tape ∧ w1.output = w.output) ∧ (choose (Question.mapNext L.size)).run P w = .ok j w1 := by
   by_cases hf : L.size ≤ 1
   ·exact ⟨0, w, by omega, ⟨rfl, rfl, rfl, rfl⟩, by simp [choose, Sem.run, Question.forced, hf]⟩
   ·exact ⟨_, w.drew, Nat.mod_lt _ (by omega), ⟨rfl, rfl, rfl, rfl⟩, by
     simp only [choose, Sem.run, Question.forced, decide_eq_true_eq, hf, if_false, Question.cut];rfl⟩
  obtain ⟨j, w1, hj, ⟨a1, a2, a3, a4⟩, hrun⟩ := hch;have hset : ∀ (o' : Obj), (setObj r o').run P w1 = .ok () { w1 with heap := w1.heap.setIfInBounds r o' } := fun o' => by
   simp only [setObj, Sem.run];rw [a1, hr]
  refine ⟨L[j], by simp, { w1 with heap := w1.heap.setIfInBounds r (.mapIter (some bm) since (seen.push L[j].born) clock) }, by simp only [a1], a2, a3, a4, ?_⟩;simp only [hrun, Array.getElem?_map, Array.getElem?_eq_getElem hj, Option.map_some, Sem.run_bind, hset, Result.andThen];rfl
theorem run_entryG (w : World) (bm r since : Nat) (seen : Array Nat) (es : Array MapEntry) (clock : Nat) (e : MapEntry) (hr : w.heap[r]? = some (.mapIter (some bm) since (seen.push e.born) clock)) (hb : w.heap[bm]? = some (.map es clock)) (he : e ∈ es.toList) (hn : (es.toList.map (·.born)).Nodup) :
  (Instr.entry (.pointer (some ⟨r, 0, none⟩))).run P w = .ok (.tuple #[e.key, e.val]) w := by
 have hf : es.find? (·.born == e.born) = some e := by rw [← Array.find?_toList]; exact find_born e es.toList hn he
 simp only [Instr.entry, getObj, Sem.run_bind, Sem.run, hr, hb, Result.andThen, Array.back?_push, bne_self_eq_false, Bool.false_eq_true, if_false, hf];rfl
theorem get_down (s : S) (l : Loc) : (⟨[], s.loc :: s.cur, [some l]⟩ : S).get = (⟨l, s.out, s.chg⟩ : S).get := by
 have h := get_out (⟨l, s.out, s.chg⟩ : S);rw [← h]
 funext i
 have c1 : (⟨[], s.loc :: s.cur, [some l]⟩ : S).cur = l :: s.cur := by show curOf _ _ = _; simp [curOf]
 have c2 : (outS (l :: s.cur)).cur = l :: s.cur := by show curOf _ _ = _; simp [curOf, outS]
 show S.get ⟨[], s.loc :: s.cur, [some l]⟩ i = S.get (outS (l :: s.cur)) i
 unfold S.get;rw [c1, c2];rfl
theorem not_owned {V : View} {h : Id → Option Blk} {μ : Id → Pl} {w : World} (I : Inv P V h μ w) {r : Nat} (hr : ∀ o, w.heap[r]? = some o → (∀ c e g, o ≠ .cells c e g) ∧ ∀ e c, o ≠ .map e c) : ¬ Owned h μ r := by
 rintro ⟨i, x, hx, hnn, rfl⟩
 have B := I.blk i x hx;cases x with
 | arr sz lent xs =>
  rcases B with B | ⟨_, _, _, _, cells, elem, h5, _⟩
  ·rw [hnn] at B; cases B.1
  ·exact (hr _ h5).1 _ _ _ rfl
 | box cs => obtain ⟨_, _, cells, elem, h5, _⟩ := B; exact (hr _ h5).1 _ _ _ rfl
 | map kt lent es => obtain ⟨_, _, en, h5, _⟩ := B; exact (hr _ h5).2 _ _ rfl
structure StV (P : Program) (O : Origin) (V : View) (μ : Id → Pl) (env : Env) (s : S) (a : Act) (w : World) : Prop where
 I : Inv P V s.get μ w
 R : EnvRel P V s.get μ env a.tmps
 E : Evo O.V O.h O.μ O.w V s.get μ w
 out : s.out = O.out
 n : a.tmps.size = O.n
 df : a.defers = []
theorem StV.st {O : Origin} {V : View} {μ : Id → Pl} {env : Env} {s : S} {a : Act} {w : World} (T : StV P O V μ env s a w) : St P O env s a w := ⟨V, μ, T.I, T.R, T.E, T.out, T.n, T.df⟩
theorem St.v {O : Origin} {env : Env} {s : S} {a : Act} {w : World} (T : St P O env s a w) : ∃ V μ, StV P O V μ env s a w := by
 obtain ⟨V, μ, I, R, E, h1, h2, h3⟩ := T;exact ⟨V, μ, I, R, E, h1, h2, h3⟩
theorem StV.down {O : Origin} {V : View} {μ : Id → Pl} {env : Env} {s : S} {a : Act} {w : World} (T : StV P O V μ env s a w) : ∃ O' : Origin, O'.n = O.n ∧ St P O' env ⟨[], s.loc :: s.cur, []⟩ a w ∧
  ∀ (env' : Env) (loc' : Loc) (a' : Act) (w' : World), St P O' env' ⟨[], s.loc :: s.cur, [some loc']⟩ a' w' →
   ∃ V' μ', StV P O V' μ' env' ⟨loc', s.out, s.chg⟩ a' w' ∧ V.Le V' ∧ (∀ b, b < w.heap.size → ¬ Owned s.get μ b → w'.heap[b]? = w.heap[b]?) := by
 have hg : (outS (s.loc :: s.cur)).get = s.get := get_out s;have low : ∀ i b, s.get i = some b → i.d < (s.loc :: s.cur).length := by
  intro i b h;have := S.get_le h;have e : s.cur.length = s.out.length := curOf_length _ _
  show i.d < s.cur.length + 1
  rw [e]
  show i.d < s.dep + 1
  omega
 refine ⟨⟨V, s.get, μ, w, s.loc :: s.cur, O.n, low⟩, rfl, ⟨V, μ, by show Inv P V (outS (s.loc :: s.cur)).get μ w; rw [hg]; exact T.I, by show EnvRel P V (outS (s.loc :: s.cur)).get μ env a.tmps; rw [hg]; exact T.R, ?_, rfl, T.n, T.df⟩, ?_⟩
 ·show Evo V s.get μ w V (outS (s.loc :: s.cur)).get μ w
  rw [hg];exact .refl _ _ _ _
 ·intro env' loc' a' w' T';obtain ⟨V', μ', I', R', E', hdep', hn', hdf'⟩ := T';rw [get_down] at I' R' E';exact ⟨V', μ', ⟨I', R', T.E.trans E', T.out, hn', hdf'⟩, E'.view, E'.rest⟩
theorem StV.other {O : Origin} {V : View} {μ : Id → Pl} {env : Env} {s : S} {a : Act} {w w' : World} (T : StV P O V μ env s a w) {r : Nat} (hr : ∀ o, w.heap[r]? = some o → (∀ c e g, o ≠ .cells c e g) ∧ ∀ e c, o ≠ .map e c) (hO : O.w.heap.size ≤ r)
  (hh : ∀ b, b ≠ r → b < w.heap.size → w'.heap[b]? = w.heap[b]?) (hsz : w.heap.size ≤ w'.heap.size) (hos : w'.os = w.os) (htp : w'.tape = w.tape) (hout : w'.output = w.output) : StV P O V μ env s a w' := by
 have hno := not_owned T.I hr;have cell : ∀ b c v, V.cell b c v → w'.cell? ⟨b, c, none⟩ = some v := by
  intro b c v hv;have h1 := T.I.cell b c v hv;have h2 : b < w.heap.size := World.block_lt_of_cell? w _ h1;have h3 : b ≠ r := by
   intro e;subst e;unfold World.cell? at h1;cases hq : w.heap[b]? with
   | none => simp [hq] at h1
   | some o =>
    simp only [hq] at h1;cases o with
    | cells cs e g => exact (hr _ hq).1 _ _ _ rfl
    | _ => simp at h1
  rw [← h1];unfold World.cell?;simp only [hh b h3 h2]
 have map : ∀ q e c, V.map q e c → w'.heap[q]? = some (.map e c) := by
  intro q e c hv;have h1 := T.I.map q e c hv;have h3 : q ≠ r := fun e' => (hr _ (e' ▸ h1)).2 _ _ rfl
  rw [hh q h3 (Array.getElem?_eq_some_iff.1 h1).1, h1]
 refine ⟨T.I.frame (fun b ho => hh b (fun e => hno (e ▸ ho)) (ho.lt T.I)) (.refl V) (fun _ _ _ h _ => h) (fun _ _ _ h _ => h) cell map, T.R, ?_, T.out, T.n, T.df⟩;have E := T.E;refine ⟨hos.trans E.os, htp.trans E.tape, hout.trans E.output, Nat.le_trans E.size hsz, fun b hb hnb => ?_, E.view, E.newc, E.newm, E.place, E.keep⟩;rw [hh b (by omega) (Nat.lt_of_lt_of_le hb E.size)];exact E.rest b hb hnb
theorem StV.sub {O : Origin} {V : View} {μ : Id → Pl} {env env' : Env} {s : S} {a : Act} {w : World} (T : StV P O V μ env s a w) (h : ∀ t v, look env' t = some v → look env t = some v) : StV P O V μ env' s a w :=
 ⟨T.I, fun t v hv => T.R t v (h t v hv), T.E, T.out, T.n, T.df⟩
theorem StV.putN {O : Origin} {V : View} {μ : Id → Pl} {env : Env} {s : S} {a : Act} {w : World} (T : StV P O V μ env s a w) {t : Nat} (cv : Value) (ht : look env t = none) : StV P O V μ env s (a.put (some t) cv) w := by
 refine ⟨T.I, fun q v hv => ?_, T.E, T.out, by rw [put_size]; exact T.n, by rw [put_defers]; exact T.df⟩;have hne : q ≠ t := fun e => by rw [e, ht] at hv; cases hv
 have : (a.put (some t) cv).tmps.getD q undef = a.tmps.getD q undef := by simp [Act.put, Array.getElem?_setIfInBounds_ne (fun e => hne e.symm)]
 rw [this];exact T.R q v hv
theorem StV.putV {O : Origin} {V : View} {μ : Id → Pl} {env : Env} {s : S} {a : Act} {w : World} (T : StV P O V μ env s a w) {t : Nat} {cv : Value} {v : A} (ht : t < O.n) (H : ARel P V s.get μ v cv) : StV P O V μ (putE (some t) v env) s (a.put (some t) cv) w :=
 ⟨T.I, T.R.put (fun d hd => by cases hd; rw [T.n]; exact ht) H, T.E, T.out, by rw [put_size]; exact T.n, by rw [put_defers]; exact T.df⟩
theorem put_get {a : Act} {t : Nat} {cv : Value} (h : t < a.tmps.size) : (a.put (some t) cv).eval (.tmp t) = cv := by simp [Act.put, Act.eval, h]
theorem put_get_ne {a : Act} {t q : Nat} {cv : Value} (h : q ≠ t) : (a.put (some t) cv).eval (.tmp q) = a.eval (.tmp q) := by simp [Act.put, Act.eval, Array.getElem?_setIfInBounds_ne (fun e => h e.symm)]
end
def foldO {σ α : Type} (step : σ → α → Option σ) : σ → List α → Option σ
 | x, [] => some x
 | x, e :: es => match step x e with | some x' => foldO step x' es | none => none
theorem foldO_app {σ α : Type} {step : σ → α → Option σ} : ∀ (xs bs : List α) (x : σ), foldO step x (xs ++ bs) = (foldO step x xs).bind fun x' => foldO step x' bs
 | [], bs, x => rfl
 | a :: xs, bs, x => by
  rw [List.cons_append, foldO, foldO];cases step x a with
  | none => rfl
  | some x' => exact foldO_app xs bs x'
def itLeft (w : World) (r n : Nat) : Nat := match w.heap[r]? with | some (.mapIter _ _ s _) => n - s.size | _ => 0
section
variable {P : Program} {σ : Type}
theorem wpo {ops : Array Oper} {Q : Exit → Act → World → Prop} {i : Nat} {rest : List Nat} {a : Act} {w : World} {o : Oper} (ho : ops[i]? = some o) (hg : o.guard = none) (h : o.wp P a w (wpOps P ops Q rest) Q) : wpOps P ops Q (i :: rest) a w := by
 unfold wpOps;simp only [ho, Region.wanted, hg, if_true];exact .inl h
theorem wm_move {d : Option Nat} {x : Operand} {ty : TypeId} {p : String} {af : Array Edge} {g : Option (Nat × Bool)} {a : Act} {w : World} {K : Act → World → Prop} {Q : Exit → Act → World → Prop} (h : K (a.put d (a.eval x)) w) : (⟨d, .move x, ty, p, af, g⟩ : Oper).wp P a w K Q :=
 wp_p (c := cfgP P) (cv := a.eval x) (by simp [execOp]) h
theorem wm_assign {d : Option Nat} {x : Operand} {ty : TypeId} {p : String} {af : Array Edge} {g : Option (Nat × Bool)} {a : Act} {w : World} {K : Act → World → Prop} {Q : Exit → Act → World → Prop} (h : K (a.put d (a.eval x)) w) : (⟨d, .assign x, ty, p, af, g⟩ : Oper).wp P a w K Q :=
 wp_p (c := cfgP P) (cv := a.eval x) (by simp [execOp]) h
theorem wm_range {d : Option Nat} {T : TypeId} {x : Operand} {ty : TypeId} {p : String} {af : Array Edge} {g : Option (Nat × Bool)} {a : Act} {w w' : World} {cv v : Value} {K : Act → World → Prop} {Q : Exit → Act → World → Prop} (hx : a.eval x = v)
  (hr : (Instr.range T v).run P w = .ok cv w') (h : K (a.put d cv) w') : (⟨d, .range T x, ty, p, af, g⟩ : Oper).wp P a w K Q :=
 wp_v (c := cfgP P) (m := Instr.range T v) (by simp only [execOp, hx]) hr h
theorem wm_next {d : Option Nat} {x : Operand} {b : Bool} {ty : TypeId} {p : String} {af : Array Edge} {g : Option (Nat × Bool)} {a : Act} {w w' : World} {cv v : Value} {K : Act → World → Prop} {Q : Exit → Act → World → Prop} (hx : a.eval x = v)
  (hr : (Instr.next v b ty).run P w = .ok cv w') (h : K (a.put d cv) w') : (⟨d, .next x b, ty, p, af, g⟩ : Oper).wp P a w K Q :=
 wp_v (c := cfgP P) (m := Instr.next v b ty) (by simp only [execOp, hx]) hr h
theorem wm_entry {d : Option Nat} {x : Operand} {ty : TypeId} {p : String} {af : Array Edge} {g : Option (Nat × Bool)} {a : Act} {w w' : World} {cv v : Value} {K : Act → World → Prop} {Q : Exit → Act → World → Prop} (hx : a.eval x = v)
  (hr : (Instr.entry v).run P w = .ok cv w') (h : K (a.put d cv) w') : (⟨d, .entry x, ty, p, af, g⟩ : Oper).wp P a w K Q :=
 wp_v (c := cfgP P) (m := Instr.entry v) (by simp only [execOp, hx]) hr h
theorem wm_extract {d : Option Nat} {x : Operand} {i : Nat} {ty : TypeId} {p : String} {af : Array Edge} {g : Option (Nat × Bool)} {a : Act} {w : World} {vs : Array Value} {v : Value} {K : Act → World → Prop} {Q : Exit → Act → World → Prop} (hx : a.eval x = .tuple vs)
  (hv : vs[i]? = some v) (h : K (a.put d v) w) : (⟨d, .extract x i, ty, p, af, g⟩ : Oper).wp P a w K Q :=
 wp_v (c := cfgP P) (m := Instr.extract (.tuple vs) i) (by simp only [execOp, hx]) (by simp [Instr.extract, hv]) h
theorem perm_range {n : Nat} {is : List Nat} (h1 : is.Nodup) (h2 : ∀ i, i ∈ is → i < n) (h3 : ∀ i, i < n → i ∈ is) : is.Perm (List.range n) := by
 rw [List.perm_ext_iff_of_nodup h1 List.nodup_range];intro a;rw [List.mem_range];exact ⟨h2 a, h3 a⟩
theorem range_get {α : Type} (es : List α) : (List.range es.length).filterMap (fun i => es[i]?) = es := by
 have : ∀ (n : Nat), n ≤ es.length → (List.range n).filterMap (fun i => es[i]?) = es.take n := by
  intro n
  induction n with
  | zero => intro _; simp
  | succ n ih =>
   intro h;have e1 : es[n]? = some es[n] := by simp [show n < es.length by omega]
   rw [List.range_succ, List.filterMap_append, ih (by omega), List.filterMap_cons, e1, List.filterMap_nil, List.take_succ, e1];rfl
 rw [this _ (Nat.le_refl _), List.take_length]
theorem CWp.mapLoop {T kT eT ta ti tn tb te tk0 tv0 tk tv tm r1 r2 r3 bid b1 : Nat} {y0 y1 y2 y3 y4 y5 y6 y7 y8 : TypeId} {p0 p1 p2 p3 p4 p5 p6 p7 p8 : String} {f0 f1 f2 f3 f4 f5 f6 f7 f8 : Array Edge} {B : Code}
  {out : Out} {chg : List (Option Loc)} {env : Env} {s : S} {Q : Ex → Env → S → Prop} (kt : TypeId) (es : List (D × D)) (E : σ → Env) (L : σ → Loc) (step : σ → D × D → Option σ) {x0 y : σ}
  (hT : P.underlying T = some (.map kT eT)) (hm0 : evOperand (look env) (.tmp tm) = some (.d (.mp kt es)))
  (hs : s = ⟨L x0, out, chg⟩) (hE0 : ∀ t v, look (E x0) t = some v → look env t = some v)
  (hfold : ∀ es' : List (D × D), es'.Perm es → foldO step x0 es' = some y)
  (fresh : ∀ x t, t ∈ [ta, ti, tn, tb, te, tk0, tv0, tk, tv] → look (E x) t = none) (hne : [ta, ti, tn, tb, te, tk0, tv0, tk, tv].Nodup)
  (body : ∀ (r : Nat) (x : σ) (kv : D × D) (x' : σ), kv ∈ es → step x kv = some x' →
   CWp P B (putE (some tv) (.d kv.2) (putE (some tk) (.d kv.1) (putE (some ti) (.iter r) (E x)))) ⟨[], L x :: curOf out chg, []⟩ (fun ex e' s' => ex = .norm ∧ s' = ⟨[], L x :: curOf out chg, [some (L x')]⟩ ∧
    ∀ t v, look (putE (some ti) (.iter r) (E x')) t = some v → look e' t = some v))
  (fin : Q .norm (E y) ⟨L y, out, chg⟩) :
  CWp P (.seq (.region r1 #[⟨some ta, .move (.tmp tm), y0, p0, f0, none⟩, ⟨some ti, .range T (.tmp ta), y1, p1, f1, none⟩] false) (.block bid (.loop
   (.seq (.region r2 #[⟨some tn, .next (.tmp ti) false, y2, p2, f2, none⟩, ⟨some tb, .extract (.tmp tn) 0, y3, p3, f3, none⟩] false) (.seq (.cond (.tmp tb) .skip (.exit bid)) (.block b1
    (.seq (.region r3 #[⟨some te, .entry (.tmp ti), y4, p4, f4, none⟩, ⟨some tk0, .extract (.tmp te) 0, y5, p5, f5, none⟩, ⟨some tv0, .extract (.tmp te) 1, y6, p6, f6, none⟩, ⟨some tk, .assign (.tmp tk0), y7, p7, f7, none⟩, ⟨some tv, .assign (.tmp tv0), y8, p8, f8, none⟩] false) B)))))))
   env s Q := by
 refine ⟨fun O a w hc T0 => wp_seq ?_⟩;simp only [codeOk, dstsOk, Bool.and_eq_true, List.all_cons, List.all_nil, decide_eq_true_eq, Bool.and_true] at hc;obtain ⟨⟨hca, hci⟩, ⟨hcn, hcb⟩, ⟨_, _⟩, ⟨hce, hck0, hcv0, hck, hcv⟩, hcB⟩ := hc;simp only [List.nodup_cons, List.mem_cons, List.not_mem_nil, or_false, not_or, List.nodup_nil, and_true, not_false_eq_true] at hne;obtain ⟨Vo, μo, T1⟩ := T0.v;have hmv := (T1.R.operand (.tmp tm) _ hm0).dOf;generalize hvm : a.eval (.tmp tm) = vm at hmv;cases hmv with
 | mp _ _ rm en clock hm hn hk hv ho hcl hbn =>
 have hheap := T1.I.map _ _ _ hm;have fr : ∀ x t, t ∈ [ta, ti, tn, tb, te, tk0, tv0, tk, tv] → look (E x) t = none := fresh
 have hsz : a.tmps.size = O.n := T1.n;have hst : ∀ {a : Act} {w : World} {V : View} {μ : Id → Pl} {env : Env} {s : S}, StV P O V μ env s a w → a.tmps.size = O.n := fun T => T.n
 obtain ⟨r, hrw⟩ : ∃ r, w.heap.size = r := ⟨_, rfl⟩
 refine wp_region ?_;refine wpo (o := ⟨some ta, .move (.tmp tm), y0, p0, f0, none⟩) rfl rfl (wm_move ?_);rw [hvm];have ev1 : (a.put (some ta) (.map (some rm))).eval (.tmp ta) = .map (some rm) := put_get (by rw [hsz]; exact hca);have hrange := run_range_map (P := P) w T kT eT rm en clock hT hheap;refine wpo (o := ⟨some ti, .range T (.tmp ta), y1, p1, f1, none⟩) rfl rfl (wm_range ev1 hrange ?_);rw [hrw];have hnew : ∀ o, w.heap[r]? = some o → (∀ c e g, o ≠ .cells c e g) ∧ ∀ e c, o ≠ .map e c := by
  intro o ho;rw [← hrw] at ho;simp at ho
 have hOr : O.w.heap.size ≤ r := by rw [← hrw]; exact T1.E.size
 have T2 := (T1.sub hE0).putN (t := ta) (.map (some rm)) (fr x0 ta (by simp));have T3 := T2.other (w' := w.alloc (.mapIter (some rm) clock #[] clock)) hnew hOr (fun b _ hb => RowKit.Below.heap_alloc w _ b hb) (by simp) rfl rfl rfl;have T4 := T3.putV (t := ti) (cv := .pointer (some ⟨r, 0, none⟩)) hci (.iter r);subst hs;have hit0 : (w.alloc (.mapIter (some rm) clock #[] clock)).heap[r]? = some (.mapIter (some rm) clock #[] clock) := by rw [← hrw]; exact heap_alloc_new w _
 have hlen : en.toList.length = es.length := by simpa using hn
 have hold : ∀ m ∈ en.toList, m.born < clock := by
  intro m hmm;obtain ⟨i, hi, rfl⟩ := List.getElem_of_mem hmm;have := hbn i en[i] (by simp at hi; simp [hi]);simp only [Array.getElem_toList];rw [this, hcl];omega
 have hbd : (en.toList.map (·.born)).Nodup := by
  have : en.toList.map (·.born) = List.range en.size := by
   apply List.ext_getElem
   ·simp
   ·intro i h1 h2;simp at h1;simp only [List.getElem_map, Array.getElem_toList, List.getElem_range];exact hbn i en[i] (by simp [h1])
  rw [this];exact List.nodup_range
 show Code.wp P _ _ _ _
 refine wp_block (wp_loop (fun a w => ∃ (V : View) (μ : Id → Pl) (x : σ) (is : List Nat) (seen : Array Nat) (c0 : Nat), StV P O V μ (putE (some ti) (.iter r) (E x)) ⟨L x, out, chg⟩ a w ∧ Vo.Le V ∧ w.heap[r]? = some (.mapIter (some rm) clock seen c0) ∧ clock ≤ c0 ∧
  seen.toList = is ∧ is.Nodup ∧ (∀ i ∈ is, i < es.length) ∧ foldO step x0 (is.filterMap fun i => es[i]?) = some x) (fun _ w => itLeft w r es.length) ⟨Vo, μo, x0, [], #[], clock, T4, .refl _, hit0, Nat.le_refl _, rfl, .nil, by simp, rfl⟩ ?_)
 clear T4 T3 T2 T1 T0 hit0 hnew hrange ev1 hheap hsz
 rintro a w ⟨V, μ, x, is, seen, c0, T, hle, hit, hc0, hseen, hnd, hlt, hfo⟩
 have hheap := T.I.map _ _ _ (hle.map _ _ _ hm);have hsz : a.tmps.size = O.n := T.n;have evi : a.eval (.tmp ti) = .pointer (some ⟨r, 0, none⟩) := by
  have h := T.R ti (.iter r) (by simp [putE, look]);generalize hq : a.tmps.getD ti undef = q at h;cases h;exact hq
 have hnr : ∀ o, w.heap[r]? = some o → (∀ c e g, o ≠ .cells c e g) ∧ ∀ e c, o ≠ .map e c := by
  intro o ho;rw [hit] at ho;cases ho;exact ⟨fun _ _ _ h => (by cases h), fun _ _ h => (by cases h)⟩
 have lk : ∀ t, t ∈ [tn, tb, te, tk0, tv0, tk, tv] → t ≠ ti → look (putE (some ti) (.iter r) (E x)) t = none := by
  intro t ht hti;simp only [putE, look, if_neg hti];exact fr x t (List.mem_cons_of_mem _ (List.mem_cons_of_mem _ ht))
 refine wp_seq ?_;refine wp_region ?_;rcases run_nextG (P := P) w y2 rm r clock c0 seen en clock hit hheap hold hc0 with ⟨hl0, hrun⟩ | ⟨e, he, w1, hh1, ho1, ht1, hu1, hrun⟩
 ·
  refine wpo (o := ⟨some tn, .next (.tmp ti) false, y2, p2, f2, none⟩) rfl rfl (wm_next evi hrun ?_);refine wpo (o := ⟨some tb, .extract (.tmp tn) 0, y3, p3, f3, none⟩) rfl rfl (wm_extract (vs := #[.bool false]) (v := .bool false) (put_get (by rw [hsz]; exact hcn)) rfl ?_);have T5 := (T.putN (t := tn) (.tuple #[.bool false]) (lk tn (by simp) (by intro e; simp [e] at hne))).putN (t := tb) (.bool false) (lk tb (by simp) (by intro e; simp [e] at hne));have hall : ∀ i, i < es.length → i ∈ is := by
   intro i hi;have hie : i < en.size := by rw [hn]; exact hi
   have h1 : ¬ en[i] ∈ leftOf en seen := by
    intro h;have := Array.size_pos_of_mem h;omega
   unfold leftOf at h1;rw [Array.mem_filter] at h1;have h2 : seen.contains en[i].born = true := by
    rcases Bool.eq_false_or_eq_true (seen.contains en[i].born) with q | q
    ·exact q
    ·exact absurd ⟨Array.getElem_mem hie, by simpa using q⟩ h1
   rw [hbn i en[i] (by simp [hie])] at h2;rw [← hseen];simpa using h2
  have hx : x = y := by
   have p := (perm_range hnd hlt hall).filterMap (fun i => es[i]?);rw [range_get] at p;have := hfold _ p;rw [hfo] at this;exact Option.some.inj this
  subst hx
  show Code.wp P _ _ _ _
  refine wp_seq (wp_cond_false (put_get (by rw [put_size, hsz]; exact hcb)) (wp_exit ?_));simp only [Exit.then, Exit.inBlock, if_true];refine ⟨.norm, E x, ⟨L x, out, chg⟩, rfl, (T5.sub fun t v hv => ?_).st, fin⟩;have : t ≠ ti := fun e => by rw [e, fr x ti (by simp)] at hv; cases hv
  simp only [putE, look, if_neg this, hv]
 ·
  obtain ⟨hemem, hnot⟩ : e ∈ en ∧ ¬ seen.contains e.born = true := by
   have : e ∈ leftOf en seen := by simpa using he
   unfold leftOf at this;rw [Array.mem_filter] at this;exact ⟨this.1, by simpa using this.2⟩
  obtain ⟨i, hie, hei⟩ := Array.getElem_of_mem hemem;have hil : i < es.length := by rw [← hn]; exact hie
  have hborn : e.born = i := by rw [← hei]; exact hbn i en[i] (by simp [hie])
  have hiis : ¬ i ∈ is := by
   intro h;apply hnot;rw [hborn];rw [← hseen] at h;simpa using h
  obtain ⟨rest, hperm⟩ : ∃ rest : List Nat, (is ++ i :: rest).Perm (List.range es.length) := by
   refine ⟨(List.range es.length).filter fun j => !(i :: is).contains j, perm_range ?_ ?_ ?_⟩
   ·rw [List.nodup_append];refine ⟨hnd, List.nodup_cons.2 ⟨by simp, List.nodup_range.filter _⟩, ?_⟩;intro q hq p hp e;subst e;rcases List.mem_cons.1 hp with rfl | hp
    ·exact hiis hq
    ·rw [List.mem_filter] at hp;have := hp.2;simp [hq] at this
   ·intro q hq;rcases List.mem_append.1 hq with hq | hq
    ·exact hlt q hq
    ·rcases List.mem_cons.1 hq with rfl | hq
     ·exact hil
     ·exact List.mem_range.1 (List.mem_filter.1 hq).1
   ·intro q hq;by_cases h1 : q ∈ is
    ·exact List.mem_append.2 (.inl h1)
    ·by_cases h2 : q = i
     ·subst h2; exact List.mem_append.2 (.inr (.head _))
     ·exact List.mem_append.2 (.inr (.tail _ (List.mem_filter.2 ⟨List.mem_range.2 hq, by simp [h1, h2]⟩)))
  have hcnt : is.length + (rest.length + 1) = es.length := by simpa using hperm.length_eq
  obtain ⟨x', hx'⟩ : ∃ x', step x es[i] = some x' := by
   have p := hperm.filterMap (fun i => es[i]?);rw [range_get, List.filterMap_append, List.filterMap_cons] at p;have e1 : es[i]? = some es[i] := by simp [hil]
   rw [e1] at p;have := hfold _ p;rw [foldO_app, hfo] at this;simp only [Option.bind_some, foldO] at this;cases hq : step x es[i] with
   | none => rw [hq] at this; cases this
   | some x' => exact ⟨x', rfl⟩
  have hrlt : r < w.heap.size := (Array.getElem?_eq_some_iff.1 hit).1;have T1 := T.other (w' := w1) hnr hOr (fun b hb _ => by rw [hh1]; exact Array.getElem?_setIfInBounds_ne (fun e => hb e.symm)) (by rw [hh1]; simp) ho1 ht1 hu1;have hit1 : w1.heap[r]? = some (.mapIter (some rm) clock (seen.push e.born) clock) := by rw [hh1]; exact Array.getElem?_setIfInBounds_self_of_lt hrlt
  have hheap1 := T1.I.map _ _ _ (hle.map _ _ _ hm);refine wpo (o := ⟨some tn, .next (.tmp ti) false, y2, p2, f2, none⟩) rfl rfl (wm_next evi hrun ?_);refine wpo (o := ⟨some tb, .extract (.tmp tn) 0, y3, p3, f3, none⟩) rfl rfl (wm_extract (vs := #[.bool true, e.key, e.val]) (v := .bool true) (put_get (by rw [hsz]; exact hcn)) rfl ?_);have T5 := (T1.putN (t := tn) (.tuple #[.bool true, e.key, e.val]) (lk tn (by simp) (by intro e; simp [e] at hne))).putN (t := tb) (.bool true) (lk tb (by simp) (by intro e; simp [e] at hne))
  show Code.wp P _ _ _ _
  refine wp_seq (wp_cond_true (put_get (by rw [put_size, hsz]; exact hcb)) (wp_skip ?_))
  show Code.wp P _ _ _ _
  refine wp_block (wp_seq (wp_region ?_));have hs5 := T5.n;have evi5 : ((a.put (some tn) (.tuple #[.bool true, e.key, e.val])).put (some tb) (.bool true)).eval (.tmp ti) = .pointer (some ⟨r, 0, none⟩) := by
   rw [put_get_ne (by intro e; simp [e] at hne), put_get_ne (by intro e; simp [e] at hne), evi]
  generalize (a.put (some tn) (.tuple #[.bool true, e.key, e.val])).put (some tb) (.bool true) = a5 at T5 hs5 evi5 ⊢;have hent := run_entryG (P := P) w1 rm r clock seen en clock e hit1 hheap1 (by simpa using hemem) hbd;refine wpo (o := ⟨some te, .entry (.tmp ti), y4, p4, f4, none⟩) rfl rfl (wm_entry evi5 hent ?_);refine wpo (o := ⟨some tk0, .extract (.tmp te) 0, y5, p5, f5, none⟩) rfl rfl (wm_extract (vs := #[e.key, e.val]) (v := e.key) (put_get (by rw [hs5]; exact hce)) rfl ?_);refine wpo (o := ⟨some tv0, .extract (.tmp te) 1, y6, p6, f6, none⟩) rfl rfl (wm_extract (vs := #[e.key, e.val]) (v := e.val) (by rw [put_get_ne (by intro e; simp [e] at hne)]; exact put_get (by rw [hs5]; exact hce)) rfl ?_);refine wpo (o := ⟨some tk, .assign (.tmp tk0), y7, p7, f7, none⟩) rfl rfl (wm_assign ?_);refine wpo (o := ⟨some tv, .assign (.tmp tv0), y8, p8, f8, none⟩) rfl rfl (wm_assign ?_);have hkv := hk i es[i] e (by simp [hil]) (by simp [hie, hei]);have hvv := hv i es[i] e (by simp [hil]) (by simp [hie, hei]);have v1 : (((a5.put (some te) (.tuple #[e.key, e.val])).put (some tk0) e.key).put (some tv0) e.val).eval (.tmp tk0) = e.key := by
   rw [put_get_ne (by intro e; simp [e] at hne)];exact put_get (by rw [put_size, hs5]; exact hck0)
  have v2 : ((((a5.put (some te) (.tuple #[e.key, e.val])).put (some tk0) e.key).put (some tv0) e.val).put (some tk) e.key).eval (.tmp tv0) = e.val := by
   rw [put_get_ne (by intro e; simp [e] at hne)];exact put_get (by rw [put_size, put_size, hs5]; exact hcv0)
  rw [v1, v2];have T6 := ((T5.putN (t := te) (.tuple #[e.key, e.val]) (lk te (by simp) (by intro e; simp [e] at hne))).putN (t := tk0) e.key (lk tk0 (by simp) (by intro e; simp [e] at hne))).putN (t := tv0) e.val (lk tv0 (by simp) (by intro e; simp [e] at hne));have T7 := (T6.putV (t := tk) (cv := e.key) hck (.d _ _ (hkv.mono hle))).putV (t := tv) (cv := e.val) hcv (.d _ _ (hvv.mono hle));obtain ⟨O', hn', TO, back⟩ := T7.down
  show Code.wp P _ _ _ _
  refine Code.wp_mono ?_ ((body r x es[i] x' (List.getElem_mem hil) hx').ok O' _ w1 (by rw [hn']; exact hcB) TO)
  rintro e1 a1 w2 ⟨ex, e', s', rfl, TS, rfl, rfl, hsub⟩
  obtain ⟨V', μ', T8, hle', hrest⟩ := back _ _ _ _ TS;have hnr1 : ∀ o, w1.heap[r]? = some o → (∀ c e g, o ≠ .cells c e g) ∧ ∀ e c, o ≠ .map e c := by
   intro o ho;rw [hit1] at ho;cases ho;exact ⟨fun _ _ _ h => (by cases h), fun _ _ h => (by cases h)⟩
  have hit2 : w2.heap[r]? = some (.mapIter (some rm) clock (seen.push e.born) clock) := by
   rw [hrest r (Array.getElem?_eq_some_iff.1 hit1).1 (not_owned T7.I hnr1)];exact hit1
  have hsl : seen.size = is.length := by rw [← hseen]; simp
  refine ⟨⟨V', μ', x', is ++ [i], seen.push e.born, clock, T8.sub hsub, hle.trans hle', hit2, Nat.le_refl _, by simp [hseen, hborn], ?_, ?_, ?_⟩, ?_⟩
  ·rw [List.nodup_append];exact ⟨hnd, by simp, by intro q hq p hp e; simp at hp; subst hp; subst e; exact hiis hq⟩
  ·intro q hq;rcases List.mem_append.1 hq with hq | hq
   ·exact hlt q hq
   ·simp at hq; subst hq; exact hil
  ·rw [List.filterMap_append, foldO_app, hfo];have e1 : es[i]? = some es[i] := by simp [hil]
   simp only [Option.bind_some, List.filterMap_cons, e1, List.filterMap_nil, foldO, hx']
  ·show itLeft w2 r es.length < itLeft w r es.length
   unfold itLeft;rw [hit2, hit];simp only [Array.size_push];omega
end
end Go.Lx
set_option linter.all false
namespace Go.Lx
def toI : D → Option Int
 | .int .i64 k => some k
 | _ => none
theorem toI_some {d : D} {k : Int} (h : toI d = some k) : d = .int .i64 k := by
 unfold toI at h;split at h
 ·cases h; rfl
 ·cases h
def putStep (m : Nat) (x : List Int) (kv : D × D) : Option (List Int) :=
 if x.length = m then (toI kv.1).bind fun k => (toI kv.2).bind fun v => if 0 ≤ k ∧ k < (m : Int) then some (x.set k.toNat v) else none else none
theorem putStep_len {m : Nat} {x x' : List Int} {kv : D × D} (h : putStep m x kv = some x') : x.length = m ∧ x'.length = m ∧ ∃ k v, kv = (.int .i64 k, .int .i64 v) ∧ 0 ≤ k ∧ k < (m : Int) ∧ x' = x.set k.toNat v := by
 unfold putStep at h;split at h
 ·rename_i hl
  obtain ⟨k, hk, h⟩ := Option.bind_eq_some_iff.1 h;obtain ⟨v, hv, h⟩ := Option.bind_eq_some_iff.1 h;split at h
  ·rename_i hr
   cases h;obtain ⟨a, b⟩ := kv;exact ⟨hl, by simpa using hl, k, v, by rw [← toI_some hk, ← toI_some hv], hr.1, hr.2, rfl⟩
  ·cases h
 ·cases h
theorem putStep_swap {m : Nat} {x : List Int} {a b : D × D} (hne : a.1 ≠ b.1) : ((putStep m x a).bind fun x => putStep m x b) = ((putStep m x b).bind fun x => putStep m x a) := by
 unfold putStep;by_cases hl : x.length = m
 ·simp only [hl, if_true];cases ha : toI a.1 with
  | none => simp
  | some k =>
   cases hb : toI b.1 with
   | none => simp
   | some k' =>
    have hk : k ≠ k' := fun e => hne (by rw [toI_some ha, toI_some hb, e])
    cases ha2 : toI a.2 with
    | none => cases hb2 : toI b.2 <;> simp
    | some v =>
     cases hb2 : toI b.2 with
     | none => simp
     | some v' =>
      simp only [Option.bind_some];by_cases h1 : 0 ≤ k ∧ k < (m : Int)
      ·by_cases h2 : 0 ≤ k' ∧ k' < (m : Int)
       ·simp only [h1, h2, and_self, if_true, Option.bind_some, List.length_set, hl];rw [List.set_comm _ _ (by omega)]
       ·simp [h1, h2, hl]
      ·by_cases h2 : 0 ≤ k' ∧ k' < (m : Int)
       ·simp [h1, h2, hl]
       ·simp [h1, h2]
 ·simp [hl]
theorem foldO_cons {σ α : Type} {step : σ → α → Option σ} (x : σ) (e : α) (es : List α) : foldO step x (e :: es) = (step x e).bind fun x' => foldO step x' es := by
 rw [foldO];cases step x e <;> rfl
theorem fold_perm {m : Nat} {es es' : List (D × D)} (h : es.Perm es') : (es.map (·.1)).Nodup → ∀ x, foldO (putStep m) x es = foldO (putStep m) x es' := by
 induction h with
 | nil => intro _ x; rfl
 | cons e _ ih =>
  intro hn x;rw [List.map_cons, List.nodup_cons] at hn;rw [foldO_cons, foldO_cons];cases putStep m x e with
  | none => rfl
  | some x' => exact ih hn.2 x'
 | swap a b l =>
  intro hn x;simp only [List.map_cons, List.nodup_cons, List.mem_cons, not_or] at hn;rw [foldO_cons, foldO_cons];have : ∀ (y : List Int) (c : D × D), foldO (putStep m) y (c :: l) = (putStep m y c).bind fun x' => foldO (putStep m) x' l := fun y c => foldO_cons y c l
  simp only [this];rw [← Option.bind_assoc, ← Option.bind_assoc, putStep_swap hn.1.1]
 | trans h1 _ i1 i2 =>
  intro hn x;rw [i1 hn x];exact i2 ((h1.map (·.1)).nodup_iff.1 hn) x
def mapPut (xs : List Int) (es : List (Int × Int)) : Option (List Int) :=
 if (es.map (·.1)).Nodup then foldO (fun x e => if x.length = xs.length then (if 0 ≤ e.1 ∧ e.1 < (xs.length : Int) then some (x.set e.1.toNat e.2) else none) else none) xs es else none
theorem mapPut_ok {xs ys : List Int} {es : List (Int × Int)} (h : mapPut xs es = some ys) : ∀ es', es'.Perm (es.map (pE dI dI)) → foldO (putStep xs.length) xs es' = some ys := by
 unfold mapPut at h;split at h
 ·rename_i hn
  intro es' hp;have hk : ((es.map (pE dI dI)).map (·.1)).Nodup := by
   rw [List.map_map];have : ((fun p : D × D => p.1) ∘ pE dI dI) = dI ∘ (fun e : Int × Int => e.1) := rfl;rw [this, ← List.map_map];unfold List.Nodup at hn ⊢;rw [List.pairwise_map];exact hn.imp (fun hne e => hne (by cases e; rfl))
  rw [← fold_perm hp.symm hk];have : ∀ (es : List (Int × Int)) (x : List Int), foldO (putStep xs.length) x (es.map (pE dI dI)) = foldO (fun x e => if x.length = xs.length then (if 0 ≤ e.1 ∧ e.1 < (xs.length : Int) then some (x.set e.1.toNat e.2) else none) else none) x es := by
   intro es
   induction es with
   | nil => intro x; rfl
   | cons e es ih =>
    intro x;rw [List.map_cons, foldO_cons, foldO_cons];have e1 : putStep xs.length x (pE dI dI e) = (if x.length = xs.length then (if 0 ≤ e.1 ∧ e.1 < (xs.length : Int) then some (x.set e.1.toNat e.2) else none) else none) := rfl;rw [e1]
    congr 1
    funext x'
    exact ih x'
  rw [this];exact h
 ·cases h
section
variable {P : Program}
theorem get_downC (l : Loc) (c0 : Loc) (o : Out) (i : Id) (hi : i.d = o.length) : S.get ⟨[], c0 :: o, [some l]⟩ i = findB l i.t i.n := by
 unfold S.get;have e1 : (⟨[], c0 :: o, [some l]⟩ : S).dep = o.length + 1 := rfl;have e2 : (⟨[], c0 :: o, [some l]⟩ : S).cur = l :: o := by show curOf _ _ = _; simp [curOf]
 rw [e1, e2, if_neg (by omega), if_pos (by omega), show o.length + 1 - 1 - i.d = 0 by omega];rfl
theorem startG (c0 : Loc) (o : Out) {env : Env} : Le P env ⟨[], c0 :: o, []⟩ env ⟨[], c0 :: o, [some c0]⟩ := by
 refine ⟨fun O a w T => ?_⟩;obtain ⟨V, μ, I, R, E, hdep, hn, hdf⟩ := T;have hg : S.get ⟨[], c0 :: o, []⟩ = S.get ⟨[], c0 :: o, [some c0]⟩ := by
  funext i
  have c1 : (⟨[], c0 :: o, [some c0]⟩ : S).cur = c0 :: o := by show curOf _ _ = _; simp [curOf]
  have c2 : (⟨[], c0 :: o, []⟩ : S).cur = c0 :: o := by show curOf _ _ = _; simp [curOf]
  unfold S.get;rw [c1, c2];rfl
 exact ⟨V, μ, by rw [← hg]; exact I, by rw [← hg]; exact R, by rw [← hg]; exact E, hdep, hn, hdf⟩
theorem setB_same : ∀ (l : Loc) (t n : Nat) (b : Blk), findB l t n = some b → setB l t n b = l
 | [], t, n, b, h => by cases h
 | ((a, m), x) :: l, t, n, b, h => by
  simp only [findB] at h;simp only [setB];by_cases e1 : t = a
  ·rw [if_pos e1] at h ⊢;by_cases e2 : n = m
   ·rw [if_pos e2] at h ⊢; cases h; rfl
   ·rw [if_neg e2] at h ⊢; rw [setB_same l t n b h]
  ·rw [if_neg e1] at h ⊢; rw [setB_same l t n b h]
theorem suG (l c0 : Loc) (o : Out) (t n : Nat) (b b0 : Blk) (hb : findB l t n = some b0) : SetS ⟨[], c0 :: o, [some l]⟩ ⟨o.length, t, n⟩ b ⟨[], c0 :: o, [some (setB l t n b)]⟩ := by
 have e1 : (⟨[], c0 :: o, [some l]⟩ : S).dep = o.length + 1 := rfl;have e2 : (⟨[], c0 :: o, [some l]⟩ : S).cur = l :: o := by show curOf _ _ = _; simp [curOf]
 constructor
 ·unfold S.set;rw [e1, e2, if_neg (by show ¬ o.length = o.length + 1; omega), show o.length + 1 - 1 - (⟨o.length, t, n⟩ : Id).d = 0 by show o.length + 1 - 1 - o.length = 0; omega];rfl
 ·intro h;rw [get_downC l c0 o ⟨o.length, t, n⟩ rfl] at h;rw [setB_same l t n b h]
theorem setB_setB : ∀ (l : Loc) (t n : Nat) (b b' : Blk), setB (setB l t n b) t n b' = setB l t n b'
 | [], _, _, _, _ => rfl
 | ((a, m), x) :: l, t, n, b, b' => by
  simp only [setB];by_cases e1 : t = a
  ·rw [if_pos e1, if_pos e1];by_cases e2 : n = m
   ·rw [if_pos e2, if_pos e2]; simp only [setB]; rw [if_pos e1, if_pos e2]
   ·rw [if_neg e2, if_neg e2]; simp only [setB]; rw [if_pos e1, if_neg e2, setB_setB l t n b b']
  ·rw [if_neg e1, if_neg e1]; simp only [setB]; rw [if_neg e1, setB_setB l t n b b']
theorem find_set : ∀ (l : Loc) (t n : Nat) (b b0 : Blk), findB l t n = some b0 → findB (setB l t n b) t n = some b
 | [], t, n, b, b0, h => by cases h
 | ((a, m), x) :: l, t, n, b, b0, h => by
  simp only [findB] at h;simp only [setB];by_cases e1 : t = a
  ·rw [if_pos e1] at h ⊢;by_cases e2 : n = m
   ·rw [if_pos e2]; simp [findB, e1, e2]
   ·rw [if_neg e2] at h ⊢; simp only [findB, if_pos e1, if_neg e2]; exact find_set l t n b b0 h
  ·rw [if_neg e1] at h ⊢; simp only [findB, if_neg e1]; exact find_set l t n b b0 h
theorem nodup_ne {l : List Nat} (h : l.Nodup) {i j a b : Nat} (hij : i ≠ j) (hi : l[i]? = some a) (hj : l[j]? = some b) : a ≠ b := by
 intro e;subst e;have h1 := (List.getElem?_eq_some_iff.1 hi)
 have h2 := (List.getElem?_eq_some_iff.1 hj)
 obtain ⟨i1, e1⟩ := h1;obtain ⟨j1, e2⟩ := h2;exact hij ((List.getElem_inj h).1 (e1.trans e2.symm))
theorem rangePut {T kT eT TL TE by_ ta ti tn tb te tk0 tv0 tk tv tm tl u0 u1 u2 u3 r1 r2 r3 r4 bid b1 : Nat} {z : D} {y0 y1 y2 y3 y4 y5 y6 y7 y8 z0 z1 z2 z3 z4 : TypeId} {p0 p1 p2 p3 p4 p5 p6 p7 p8 q0 q1 q2 q3 q4 : String} {f0 f1 f2 f3 f4 f5 f6 f7 f8 g0 g1 g2 g3 g4 : Array Edge}
  {loc : Loc} {out : Out} {chg : List (Option Loc)} {env E0 : Env} {Q : Ex → Env → S → Prop} {kt : TypeId} {es : List (Int × Int)} {xs ys : List Int} {m t n : Nat}
  (hT : P.underlying T = some (.map kT eT)) (hL : Sli P TL TE 1 by_ z) (hS : Scal P TE) (h : mapPut xs es = some ys) (hmx : m = xs.length) (hm0 : look env tm = some (.d (.mp kt (es.map (pE dI dI)))))
  (hE0 : ∀ t v, look E0 t = some v → look env t = some v) (hb : findB loc t n = some (.arr 1 false (xs.map dI))) (hl : look E0 tl = some (.ref ⟨out.length, t, n⟩ 0 m m))
  (fresh : ∀ q, q ∈ [ta, ti, tn, tb, te, tk0, tv0, tk, tv, u0, u1, u2, u3] → look E0 q = none) (hne : [ta, ti, tn, tb, te, tk0, tv0, tk, tv, u0, u1, u2, u3, tl].Nodup)
  (fin : Q .norm E0 ⟨setB loc t n (.arr 1 false (ys.map dI)), out, chg⟩) :
  CWp P (.seq (.region r1 #[⟨some ta, .move (.tmp tm), y0, p0, f0, none⟩, ⟨some ti, .range T (.tmp ta), y1, p1, f1, none⟩] false) (.block bid (.loop
   (.seq (.region r2 #[⟨some tn, .next (.tmp ti) false, y2, p2, f2, none⟩, ⟨some tb, .extract (.tmp tn) 0, y3, p3, f3, none⟩] false) (.seq (.cond (.tmp tb) .skip (.exit bid)) (.block b1
    (.seq (.region r3 #[⟨some te, .entry (.tmp ti), y4, p4, f4, none⟩, ⟨some tk0, .extract (.tmp te) 0, y5, p5, f5, none⟩, ⟨some tv0, .extract (.tmp te) 1, y6, p6, f6, none⟩, ⟨some tk, .assign (.tmp tk0), y7, p7, f7, none⟩, ⟨some tv, .assign (.tmp tv0), y8, p8, f8, none⟩] false)
     (.region r4 #[⟨some u0, .move (.tmp tl), z0, q0, g0, none⟩, ⟨some u1, .move (.tmp tk), z1, q1, g1, none⟩, ⟨some u2, .move (.tmp tv), z2, q2, g2, none⟩, ⟨some u3, .indexAddr TL (.tmp u0) (.tmp u1), z3, q3, g3, none⟩, ⟨none, .store TE (.tmp u3) (.tmp u2), z4, q4, g4, none⟩] false))))))))
   env ⟨loc, out, chg⟩ Q := by
 subst hmx;refine CWp.mapLoop (out := out) (chg := chg) kt (es.map (pE dI dI)) (fun _ : List Int => E0) (fun x => setB loc t n (.arr 1 false (x.map dI))) (putStep xs.length) (x0 := xs) (y := ys) hT hm0 (by rw [setB_same _ _ _ _ hb]) hE0 (mapPut_ok h)
  (fun _ q hq => fresh q (List.mem_append_left [u0, u1, u2, u3] hq)) ?_ ?_ fin
 ·have : [ta, ti, tn, tb, te, tk0, tv0, tk, tv].Sublist [ta, ti, tn, tb, te, tk0, tv0, tk, tv, u0, u1, u2, u3, tl] := List.sublist_append_left [ta, ti, tn, tb, te, tk0, tv0, tk, tv] [u0, u1, u2, u3, tl];exact hne.sublist this
 ·intro r x kv x' _ hst;obtain ⟨hxl, hxl', k, v, rfl, hk0, hk1, rfl⟩ := putStep_len hst;have hol : (curOf out chg).length = out.length := curOf_length _ _;obtain ⟨o, ho⟩ : ∃ o, curOf out chg = o := ⟨_, rfl⟩
  rw [ho] at hol ⊢;have fb : findB (setB loc t n (.arr 1 false (x.map dI))) t n = some (.arr 1 false (x.map dI)) := find_set _ _ _ _ _ hb;refine CWp.trim (startG _ _) ?_;have l1 : look ((tv, A.d (.int .i64 v)) :: (tk, .d (.int .i64 k)) :: (ti, .iter r) :: E0) tl = some (.ref ⟨o.length, t, n⟩ 0 xs.length xs.length) := by
   simp only [look];rw [if_neg (nodup_ne hne (i := 13) (j := 8) (by decide) rfl rfl), if_neg (nodup_ne hne (i := 13) (j := 7) (by decide) rfl rfl), if_neg (nodup_ne hne (i := 13) (j := 1) (by decide) rfl rfl), hl, hol]
  refine lr ?_;refine ts (mv l1) ?_;refine ts (mv (v := .d (.int .i64 k)) (by simp only [evOperand, putE, look, if_neg (nodup_ne hne (i := 7) (j := 9) (by decide) rfl rfl), if_neg (nodup_ne hne (i := 7) (j := 8) (by decide) rfl rfl), if_true])) ?_;refine ts (mv (v := .d (.int .i64 v)) (by simp only [evOperand, putE, look, if_neg (nodup_ne hne (i := 8) (j := 10) (by decide) rfl rfl), if_neg (nodup_ne hne (i := 8) (j := 9) (by decide) rfl rfl), if_true])) ?_;have hat : at_ x k = some x[k.toNat]! := by
   unfold at_;rw [if_pos hk0];have : k.toNat < x.length := by rw [hxl]; exact (Int.toNat_lt hk0).2 hk1
   simp [this]
  have see : Sees ⟨[], setB loc t n (.arr 1 false (x.map dI)) :: o, [some (setB loc t n (.arr 1 false (x.map dI)))]⟩ ⟨o.length, t, n⟩ (.arr 1 false (x.map dI)) := ⟨by rw [get_downC _ _ _ _ rfl]; exact fb⟩
  refine ts (ixR (k := .i64) (f := dI) (xs := x) hL (by simp only [evOperand, putE, look, if_neg (nodup_ne hne (i := 9) (j := 11) (by decide) rfl rfl), if_neg (nodup_ne hne (i := 9) (j := 10) (by decide) rfl rfl), if_true]) hxl.symm (by simp only [evOperand, putE, look, if_neg (nodup_ne hne (i := 10) (j := 11) (by decide) rfl rfl), if_true]) see hat) ?_;refine tt0 (stEG (f := dI) (b := v) (w := .int .i64 v) (xs := x) (n := k) (off := 0) (m := xs.length) (id := ⟨o.length, t, n⟩) hS (by simp only [evOperand, putE, look, if_true]) hxl.symm (by simp only [evOperand, putE, look, if_neg (nodup_ne hne (i := 11) (j := 12) (by decide) rfl rfl), if_true]) rfl see hat rfl rfl (suG _ _ _ _ _ _ _ fb)) ?_;refine rn ?_;refine ⟨rfl, by rw [setB_setB], ?_⟩;intro q w hq;simp only [putE, look] at hq ⊢;have this : ∀ u, look E0 u = none → u ≠ ti → q ≠ u := by
   intro u hu hui e;subst e;rw [if_neg hui, hu] at hq;cases hq
  rw [if_neg (this u3 (fresh u3 (by simp)) (nodup_ne hne (i := 12) (j := 1) (by decide) rfl rfl)), if_neg (this u2 (fresh u2 (by simp)) (nodup_ne hne (i := 11) (j := 1) (by decide) rfl rfl)), if_neg (this u1 (fresh u1 (by simp)) (nodup_ne hne (i := 10) (j := 1) (by decide) rfl rfl)), if_neg (this u0 (fresh u0 (by simp)) (nodup_ne hne (i := 9) (j := 1) (by decide) rfl rfl)), if_neg (this tv (fresh tv (by simp)) (nodup_ne hne (i := 8) (j := 1) (by decide) rfl rfl)), if_neg (this tk (fresh tk (by simp)) (nodup_ne hne (i := 7) (j := 1) (by decide) rfl rfl))];exact hq
theorem rangePutL {loc' : Loc} {T kT eT TL TE by_ ta ti tn tb te tk0 tv0 tk tv tm tl u0 u1 u2 u3 r1 r2 r3 r4 bid b1 : Nat} {z : D} {y0 y1 y2 y3 y4 y5 y6 y7 y8 z0 z1 z2 z3 z4 : TypeId} {p0 p1 p2 p3 p4 p5 p6 p7 p8 q0 q1 q2 q3 q4 : String} {f0 f1 f2 f3 f4 f5 f6 f7 f8 g0 g1 g2 g3 g4 : Array Edge}
  {loc : Loc} {out : Out} {chg : List (Option Loc)} {env E0 : Env} {Q : Ex → Env → S → Prop} {kt : TypeId} {es : List (Int × Int)} {xs ys : List Int} {m t n : Nat}
  (hT : P.underlying T = some (.map kT eT)) (hL : Sli P TL TE 1 by_ z) (hS : Scal P TE) (h : mapPut xs es = some ys) (hmx : m = xs.length) (hm0 : look env tm = some (.d (.mp kt (es.map (pE dI dI)))))
  (hE0 : E0.map (fun p => look env p.1) = E0.map (fun p => some p.2)) (hb : findB loc t n = some (.arr 1 false (xs.map dI))) (hl : look E0 tl = some (.ref ⟨out.length, t, n⟩ 0 m m))
  (fresh : ([ta, ti, tn, tb, te, tk0, tv0, tk, tv, u0, u1, u2, u3].all fun q => (look E0 q).isNone) = true) (hne : [ta, ti, tn, tb, te, tk0, tv0, tk, tv, u0, u1, u2, u3, tl].Nodup)
  (hs : SetL loc t n (.arr 1 false (ys.map dI)) loc') (fin : Q .norm E0 ⟨loc', out, chg⟩) :
  CWp P (.seq (.region r1 #[⟨some ta, .move (.tmp tm), y0, p0, f0, none⟩, ⟨some ti, .range T (.tmp ta), y1, p1, f1, none⟩] false) (.block bid (.loop
   (.seq (.region r2 #[⟨some tn, .next (.tmp ti) false, y2, p2, f2, none⟩, ⟨some tb, .extract (.tmp tn) 0, y3, p3, f3, none⟩] false) (.seq (.cond (.tmp tb) .skip (.exit bid)) (.block b1
    (.seq (.region r3 #[⟨some te, .entry (.tmp ti), y4, p4, f4, none⟩, ⟨some tk0, .extract (.tmp te) 0, y5, p5, f5, none⟩, ⟨some tv0, .extract (.tmp te) 1, y6, p6, f6, none⟩, ⟨some tk, .assign (.tmp tk0), y7, p7, f7, none⟩, ⟨some tv, .assign (.tmp tv0), y8, p8, f8, none⟩] false)
     (.region r4 #[⟨some u0, .move (.tmp tl), z0, q0, g0, none⟩, ⟨some u1, .move (.tmp tk), z1, q1, g1, none⟩, ⟨some u2, .move (.tmp tv), z2, q2, g2, none⟩, ⟨some u3, .indexAddr TL (.tmp u0) (.tmp u1), z3, q3, g3, none⟩, ⟨none, .store TE (.tmp u3) (.tmp u2), z4, q4, g4, none⟩] false))))))))
   env ⟨loc, out, chg⟩ Q :=
 rangePut hT hL hS h hmx hm0 (fun t v hv => map_mem hE0 (look_mem hv)) hb hl (fun q hq => Option.isNone_iff_eq_none.1 (List.all_eq_true.1 fresh q hq)) hne (by rw [hs.eq]; exact fin)
theorem mapPut_len {xs ys : List Int} {es : List (Int × Int)} (h : mapPut xs es = some ys) : ys.length = xs.length := by
 have key : ∀ (es : List (D × D)) (x y : List Int), x.length = xs.length → foldO (putStep xs.length) x es = some y → y.length = xs.length := by
  intro es
  induction es with
  | nil => intro x y hx hf; cases hf; exact hx
  | cons e es ih =>
   intro x y hx hf;rw [foldO_cons] at hf;obtain ⟨x', h1, h2⟩ := Option.bind_eq_some_iff.1 hf;exact ih x' y (putStep_len h1).2.1 h2
 exact key _ _ _ rfl (mapPut_ok h _ (.refl _))
end
end Go.Lx
