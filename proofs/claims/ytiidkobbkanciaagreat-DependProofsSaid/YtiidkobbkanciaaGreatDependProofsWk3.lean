/- The walks: the program does what the functions in plain form say. Part 3. -/
import Derived.Test.YtiidkobbkanciaaGreatDependProofsWk2
set_option linter.all false
namespace Go.Proofs.YtiidkobbkanciaaGreat
open Go.Lx Go.Sh
set_option linter.unusedVariables false
set_option maxRecDepth 100000
set_option maxHeartbeats 400000000
theorem law27_DependProofs_ok {p0 : api_LinSystem} {p1 : (List api_LinNode)} {p2 : (List Int)} {out : Out} {r : Bool} (h : law27_DependProofs p0 p1 p2 = some r) : FunOk PP 6 [.d (api_LinSystem.d p0), .d (.sl (p1.map api_LinNode.d)), .d (.sl (p2.map dI))] out ⟨.d (.bool r), []⟩ := by
 unfold law27_DependProofs at h;refine fi Tryz.func6 rfl (by kernel_rfl) (by kernel_rfl) (by kernel_rfl) ?_;refine sr ?_;refine ts (bxI rfl) ?_;refine ts (ac rfl rfl) ?_;refine rn ?_;refine CWp.seq ?_;refine sr ?_;obtain ⟨x1, hx1, h⟩ := bnd h;refine ts (cln (f := fun _ => false) kf rfl .n (curOf_nil _) (law27_awake_ok hx1) rfl) ?_;refine ts (not_ rfl) ?_;refine rn ?_;rcases ite h with ⟨c2, h⟩ | ⟨c2, h⟩
 ·refine ct rfl (not_t (vf c2)) ?_;refine sr ?_;refine ts (ac rfl rfl) ?_;refine rn ?_;refine CWp.ret ?_;obtain rfl := some_inj h;exact ⟨trivial, rt1 (ex := false) (by exact (.t rfl .n)) (by exact (gd (by rfl))) (by rfl) (by rfl)⟩
 ·refine cf rfl (not_f (Classical.not_not.1 c2)) ?_;refine CWp.skip ?_;refine CWp.seq ?_;refine sr ?_;refine ts (ldIW aT46 rfl rfl rfl) ?_;obtain ⟨x3, hx3, h⟩ := bnd h;refine ts (cln (f := fun _ => false) kf rfl (.c rfl le1 .n) (curOf_nil _) (law27_small_ok hx3) rfl) ?_;refine ts (not_ rfl) ?_;refine ts (mv rfl) ?_;refine sg 4 [(23, .d (.bool ((!x3) || (decide ((p1.length : Int) > 30)))))] ?_ ?_
  ·rcases bool_or (!x3) with g4 | g5
   ·refine un (gn rfl rfl g4) ?_;refine un (gn rfl rfl g4) ?_;refine un (gn rfl rfl g4) ?_;refine ts (pt rfl g4 rfl) ?_;exact rn (trD 4 rfl (.c (bq (or_t g4)) .n) (by kernel_rfl))
   ·refine us (gy rfl rfl g5) (mv rfl) ?_;refine us (gy rfl rfl g5) (lnD lT50 rfl rfl) ?_;refine us (gy rfl rfl g5) (gtr rfl rfl) ?_;refine ts (pf rfl g5 rfl) ?_;exact rn (trD 4 rfl (.c (bq (or_f g5)) .n) (by kernel_rfl))
  refine ts (mv rfl) ?_;refine sg 4 [(28, .d (.bool (((!x3) || (decide ((p1.length : Int) > 30))) || (decide ((p2.length : Int) > 10)))))] ?_ ?_
  ·rcases bool_or ((!x3) || (decide ((p1.length : Int) > 30))) with g6 | g7
   ·refine un (gn rfl rfl g6) ?_;refine un (gn rfl rfl g6) ?_;refine un (gn rfl rfl g6) ?_;refine ts (pt rfl g6 rfl) ?_;exact rn (trD 4 rfl (.c (bq (or_t g6)) .n) (by kernel_rfl))
   ·refine us (gy rfl rfl g7) (mv rfl) ?_;refine us (gy rfl rfl g7) (lnD lT48 rfl rfl) ?_;refine us (gy rfl rfl g7) (gtr rfl rfl) ?_;refine ts (pf rfl g7 rfl) ?_;exact rn (trD 4 rfl (.c (bq (or_f g7)) .n) (by kernel_rfl))
  refine rn ?_;rcases ite h with ⟨c8, h⟩ | ⟨c8, h⟩
  ·refine ct rfl c8 ?_;refine sr ?_;refine ts (ac rfl rfl) ?_;refine rn ?_;refine CWp.ret ?_;obtain rfl := some_inj h;exact ⟨trivial, rt1 (ex := false) (by exact (.t rfl .n)) (by exact (gd (by rfl))) (by rfl) (by rfl)⟩
  ·refine cf rfl (vf c8) ?_;refine CWp.skip ?_;refine CWp.seq ?_;refine sr ?_;refine ts (ac rfl rfl) ?_;refine rn ?_;obtain ⟨z13, hz13, h⟩ := bnd h;refine lbr (E := fun s9 => [(1, .d (.sl (p1.map api_LinNode.d))), (2, .d (.sl (p2.map dI))), (3, .pimm (api_LinSystem.d p0) 0), (7, .d (.int .i64 s9))]) (M := fun s9 => ⟨[], out, []⟩) (E' := fun y => [(1, .d (.sl (p1.map api_LinNode.d))), (2, .d (.sl (p2.map dI))), (3, .pimm (api_LinSystem.d p0) 0)]) (M' := fun y => ⟨[], out, []⟩) (RT := fun r e s => Lx.Returns PP Tryz.f6.results.toList e s ⟨.d (.bool r), []⟩) hz13 (by (try simp only [List.length_set, copied_len]); exact trk (by kernel_rfl) (by kernel_rfl) (by kernel_rfl)) ?_ ?_
   ·intro s9 ww h;unfold law27_DependProofs.s1 at h;refine CWp.seq ?_;refine sr ?_;refine ts (mv rfl) ?_;refine ts (mv rfl) ?_;refine ts (lnD lT50 rfl rfl) ?_;refine ts (lss rfl rfl) ?_;refine rn ?_;rcases ite h with ⟨c10, h⟩ | ⟨c10, h⟩
    ·refine ct rfl (bt c10) ?_;refine CWp.skip ?_;refine CWp.seq ?_;refine CWp.block ?_;refine sr ?_;refine ts (mv rfl) ?_;refine ts (mv rfl) ?_;obtain ⟨x11, hx11, h⟩ := bnd h;refine ts (ixD lT50 api_LinNode.sz rfl rfl hx11) ?_;refine ts (faI fT77_1 rfl rfl) ?_;refine ts (ldI sT48 rfl rfl) ?_;refine ts (lnD lT48 rfl rfl) ?_;refine ts (gtr rfl rfl) ?_;refine rn ?_;rcases ite h with ⟨c12, h⟩ | ⟨c12, h⟩
     ·refine ct rfl (bt c12) ?_;refine sr ?_;refine ts (ac rfl rfl) ?_;refine rn ?_;refine CWp.ret ?_;obtain rfl := some_inj h;exact ⟨rfl, rt1 (ex := false) (by exact (.t rfl .n)) (by exact (gd (by rfl))) (by rfl) (by rfl)⟩
     ·refine cf rfl (bf c12) ?_;refine CWp.skip ?_;refine lr ?_;refine ts (mv rfl) ?_;refine ts (add rfl rfl) ?_;refine ts (as_ rfl) ?_;refine rn ?_;obtain rfl := some_inj h;exact ⟨rfl, (by (try simp only [List.length_set, copied_len]); exact trk (by kernel_rfl) (by kernel_rfl) (by kernel_rfl))⟩
    ·refine cf rfl (bf c10) ?_;refine CWp.exit ?_;obtain rfl := some_inj h;exact ⟨rfl, (by (try simp only [List.length_set, copied_len]); exact trk (by kernel_rfl) (by kernel_rfl) (by kernel_rfl))⟩
   ·cases z13 with
    | inl v14 =>
     intro e s ht;refine CWp.trim ht ?_;refine sr ?_;refine ts (ldIW aT46 rfl rfl rfl) ?_;obtain ⟨x15, hx15, h⟩ := bnd h;refine ts (cln (f := fun _ => false) kf rfl (.c rfl le1 .n) (curOf_nil _) (ref27_CopySystem_ok hx15) rfl) ?_;refine ts (mv rfl) ?_;obtain ⟨x16, hx16, h⟩ := bnd h;refine ts (cln (f := fun _ => false) kf rfl (.c rfl le1 .n) (curOf_nil _) (ref27_CopyProof_ok hx16) rfl) ?_;obtain ⟨x17, hx17, h⟩ := bnd h;refine ts (cln (f := fun _ => false) kf rfl (.c rfl le1 (.c rfl le1 .n)) (curOf_nil _) (depend_CheckProof_ok hx17) rfl) ?_;refine ts (mv rfl) ?_;refine ts (ex_ rfl rfl) ?_;refine ts (ex_ rfl rfl) ?_;refine ts (as_ rfl) ?_;refine ts (as_ rfl) ?_;refine rn ?_;refine sr ?_;refine ts (ldIW aT46 rfl rfl rfl) ?_;refine ts (mv rfl) ?_;obtain ⟨x18, hx18, h⟩ := bnd h;refine ts (cln (f := fun _ => false) kf rfl (.c rfl le1 (.c rfl le1 .n)) (curOf_nil _) (ref27_CheckProof_ok hx18) rfl) ?_;refine ts (mv rfl) ?_;refine ts (ex_ rfl rfl) ?_;refine ts (ex_ rfl rfl) ?_;refine ts (as_ rfl) ?_;refine ts (as_ rfl) ?_;refine rn ?_;refine CWp.seq ?_;refine sr ?_;refine ts (mv rfl) ?_;refine ts (neq rfl rfl) ?_;refine rn ?_;rcases ite h with ⟨c19, h⟩ | ⟨c19, h⟩
     ·refine ct rfl (nt c19) ?_;refine sr ?_;refine ts (mv rfl) ?_;refine ts (mv rfl) ?_;refine ts (eql rfl rfl) ?_;refine ts (mv rfl) ?_;refine sg 4 [(65, .d (.bool ((x17.2 == x18.2) && (x17.1 == x18.1))))] ?_ ?_
      ·rcases bool_or (x17.2 == x18.2) with g20 | g21
       ·refine us (gy rfl rfl g20) (mv rfl) ?_;refine us (gy rfl rfl g20) (mv rfl) ?_;refine us (gy rfl rfl g20) (eql rfl rfl) ?_;refine ts (pt rfl g20 rfl) ?_;exact rn (trD 4 rfl (.c (bq (and_t g20)) .n) (by kernel_rfl))
       ·refine un (gn rfl rfl g21) ?_;refine un (gn rfl rfl g21) ?_;refine un (gn rfl rfl g21) ?_;refine ts (pf rfl g21 rfl) ?_;exact rn (trD 4 rfl (.c (bq (and_f g21)) .n) (by kernel_rfl))
      refine ts (as_ rfl) ?_;refine rn ?_;refine CWp.ret ?_;obtain rfl := some_inj h;exact ⟨trivial, rt1 (ex := false) (by exact (.t rfl .n)) (by exact (gd (by rfl))) (by rfl) (by rfl)⟩
     ·refine cf rfl (nf c19) ?_;refine CWp.skip ?_;refine CWp.seq ?_;refine sr ?_;refine ts (mv rfl) ?_;refine ts (neq rfl rfl) ?_;refine ts (mv rfl) ?_;refine sg 4 [(72, .d (.bool ((x17.2 != 0) || (x17.1 != x18.1))))] ?_ ?_
      ·rcases bool_or (x17.2 != 0) with g22 | g23
       ·refine un (gn rfl rfl g22) ?_;refine un (gn rfl rfl g22) ?_;refine un (gn rfl rfl g22) ?_;refine ts (pt rfl g22 rfl) ?_;exact rn (trD 4 rfl (.c (bq (or_t g22)) .n) (by kernel_rfl))
       ·refine us (gy rfl rfl g23) (mv rfl) ?_;refine us (gy rfl rfl g23) (mv rfl) ?_;refine us (gy rfl rfl g23) (neq rfl rfl) ?_;refine ts (pf rfl g23 rfl) ?_;exact rn (trD 4 rfl (.c (bq (or_f g23)) .n) (by kernel_rfl))
      refine rn ?_;rcases ite h with ⟨c24, h⟩ | ⟨c24, h⟩
      ·refine ct rfl c24 ?_;refine sr ?_;refine ts (ac rfl rfl) ?_;refine rn ?_;refine CWp.ret ?_;obtain rfl := some_inj h;exact ⟨trivial, rt1 (ex := false) (by exact (.t rfl .n)) (by exact (gd (by rfl))) (by rfl) (by rfl)⟩
      ·refine cf rfl (vf c24) ?_;refine CWp.skip ?_;refine sr ?_;refine ts (ldIW aT46 rfl rfl rfl) ?_;obtain ⟨x25, hx25, h⟩ := bnd h;refine ts (cln (f := fun _ => false) kf rfl (.c rfl le1 .n) (curOf_nil _) (ref27_CopySystem_ok hx25) rfl) ?_;refine ts (mv rfl) ?_;obtain ⟨x26, hx26, h⟩ := bnd h;refine ts (cln (f := fun _ => false) kf rfl (.c rfl le1 .n) (curOf_nil _) (base_CopyInts_ok hx26) rfl) ?_;obtain ⟨x27, hx27, h⟩ := bnd h;refine ts (cln (f := fun _ => false) kf rfl (.c rfl le1 (.c rfl le1 .n)) (curOf_nil _) (depend_Holds_ok hx27) rfl) ?_;refine ts (mv rfl) ?_;refine ts (ex_ rfl rfl) ?_;refine ts (ex_ rfl rfl) ?_;refine ts (as_ rfl) ?_;refine ts (as_ rfl) ?_;refine rn ?_;refine sr ?_;refine ts (mv rfl) ?_;refine ts (neq rfl rfl) ?_;refine ts (mv rfl) ?_;refine sg 3 [(86, .d (.bool ((x27.2 != 0) || (!x27.1))))] ?_ ?_
       ·rcases bool_or (x27.2 != 0) with g28 | g29
        ·refine un (gn rfl rfl g28) ?_;refine un (gn rfl rfl g28) ?_;refine ts (pt rfl g28 rfl) ?_;exact rn (trD 3 rfl (.c (bq (or_t g28)) .n) (by kernel_rfl))
        ·refine us (gy rfl rfl g29) (mv rfl) ?_;refine us (gy rfl rfl g29) (not_ rfl) ?_;refine ts (pf rfl g29 rfl) ?_;exact rn (trD 3 rfl (.c (bq (or_f g29)) .n) (by kernel_rfl))
       refine ts (as_ rfl) ?_;refine rn ?_;refine CWp.ret ?_;obtain rfl := some_inj h;exact ⟨trivial, rt1 (ex := false) (by exact (.t rfl .n)) (by exact (gd (by rfl))) (by rfl) (by rfl)⟩
    | inr r30 =>
     intro e s hr;obtain rfl := some_inj h;exact ⟨trivial, hr⟩
end Go.Proofs.YtiidkobbkanciaaGreat
